/- Contracts of the small functions: rights, keys, buckets, hashes. -/
import Derived.Test.YtciliaiocakdkaaDoorProg
import Derived.Test.YtciliaiocakdkaaDoorPure
set_option linter.unusedSimpArgs false
set_option linter.unusedVariables false
namespace Go.Proofs.YtciliaiocakdkaaDoor
open Go.RowKit

set_option maxHeartbeats 400000 in
theorem within_c (n e : Int) (w : World) :
    Calls Tryd.prog 27 #[.int .i64 n, .int .i64 e] w fun x w' => x = .returned (.bool (within n e)) ∧ w = w' := by
  go_enter Tryd.func27, Tryd.ntmps27
  go_wp2
  all_goals go_ret
  all_goals exact ⟨ret_bool (by simp [within, *]; try omega), rfl⟩

set_option maxHeartbeats 400000 in
theorem rightsValid_c (n : Int) (w : World) :
    Calls Tryd.prog 51 #[.int .i64 n] w fun x w' => x = .returned (.bool (rightsOk n)) ∧ w = w' := by
  go_enter Tryd.func51, Tryd.ntmps51
  go_wp2_with (go_at_call 27; refine (within_c _ _ _).mono ?_; rintro e w' ⟨rfl, rfl⟩)
  go_ret
  exact ⟨rfl, rfl⟩

set_option maxHeartbeats 400000 in
theorem bucketsValid_c (n : Int) (w : World) :
    Calls Tryd.prog 50 #[.int .i64 n] w fun x w' => x = .returned (.bool (bucketsOk n)) ∧ w = w' := by
  go_enter Tryd.func50, Tryd.ntmps50
  go_wp2
  all_goals go_ret
  all_goals exact ⟨ret_bool (by simp [bucketsOk, *]; try omega), rfl⟩

set_option maxHeartbeats 400000 in
theorem keyValid_c (k : K) (w : World) :
    Calls Tryd.prog 30 #[k.v] w fun x w' => x = .returned (.bool (keyOk k)) ∧ Below w.heap.size w w' := by
  obtain ⟨s, p⟩ := k
  unfold K.v
  go_enter Tryd.func30, Tryd.ntmps30
  go_wp2_with (go_at_call 27; refine (within_c _ _ _).mono ?_; rintro e w' ⟨rfl, rfl⟩)
  all_goals go_ret
  all_goals exact ⟨ret_bool (by simp [keyOk, *]), (by (repeat (first | (with_reducible exact Below.refl _ _) | (with_reducible assumption) | (with_reducible refine Below.setCell ?_ (by first | omega | (simp; done) | (simp; omega)) _) | (with_reducible refine Below.alloc ?_ (by first | omega | (simp; done) | (simp; omega)) _) | (with_reducible refine below_drewN ?_ _) | (with_reducible refine Below.drew ?_) | (with_reducible refine Below.trans ?_ (Below.mono (by assumption) (by first | omega | (simp; done) | (simp; omega)))))))⟩

theorem hash_bits (s p : Int) (n : Nat) (h1 : 1 ≤ n) (h2 : n ≤ 16) : 0 ≤ (s * 256 + p) * 2654435761 % 4294967296 * (n : Int) ∧ (s * 256 + p) * 2654435761 % 4294967296 * (n : Int) ≤ 68719476736 := by
  have a1 : 0 ≤ (s * 256 + p) * 2654435761 % 4294967296 := Int.emod_nonneg _ (by omega)
  have a2 : (s * 256 + p) * 2654435761 % 4294967296 < 4294967296 := Int.emod_lt_of_pos _ (by omega)
  generalize (s * 256 + p) * 2654435761 % 4294967296 = m at *
  have h3 : 0 ≤ m * (n : Int) := Int.mul_nonneg a1 (by omega)
  have h4 : m * (n : Int) ≤ 4294967296 * (n : Int) := Int.mul_le_mul_of_nonneg_right (by omega) (by omega)
  omega
theorem hash_one (s p : Int) (n : Nat) (h1 : 1 ≤ n) (h2 : n ≤ 16) : wrap64 (IntKind.u64.wrap ((s * 256 + p) * 2654435761 % 4294967296 * (n : Int)) / 4294967296) = hashI ⟨s, p⟩ n := by
  have h := hash_bits s p n h1 h2
  unfold hashI
  simp only []
  generalize (s * 256 + p) * 2654435761 % 4294967296 * (n : Int) = x at *
  rw [IntWalk.u64_in _ (by omega), IntWalk.wrap64_in _ (by omega)]
theorem hash_two (s p : Int) (n : Nat) (h1 : 1 ≤ n) (h2 : n ≤ 16) : wrap64 ((wrap64 ((s * 256 + p) * 2654435761 % 4294967296 * (n : Int))).tdiv 4294967296) = hashI ⟨s, p⟩ n := by
  have h := hash_bits s p n h1 h2
  unfold hashI
  simp only []
  generalize (s * 256 + p) * 2654435761 % 4294967296 * (n : Int) = x at *
  rw [IntWalk.wrap64_in x (by omega), Int.tdiv_eq_ediv_of_nonneg (by omega), IntWalk.wrap64_in _ (by omega)]

set_option maxHeartbeats 800000 in
theorem hash_c (k : K) (n : Nat) (w : World) (hk : keyOk k = true) (h1 : 1 ≤ n) (h2 : n ≤ 16) :
    Calls Tryd.prog 52 #[k.v, .int .i64 n] w fun x w' => x = .returned (.int .i64 (hashI k n)) ∧ Below w.heap.size w w' := by
  rw [keyOk_iff] at hk
  obtain ⟨s, p⟩ := k
  obtain ⟨⟨s1, s2⟩, p1, p2⟩ := hk
  simp only [] at s1 s2 p1 p2
  unfold K.v
  go_enter Tryd.func52, Tryd.ntmps52
  go_wp2
  go_ret
  exact ⟨ret_int (hash_one s p n h1 h2), (by (repeat (first | (with_reducible exact Below.refl _ _) | (with_reducible assumption) | (with_reducible refine Below.setCell ?_ (by first | omega | (simp; done) | (simp; omega)) _) | (with_reducible refine Below.alloc ?_ (by first | omega | (simp; done) | (simp; omega)) _) | (with_reducible refine below_drewN ?_ _) | (with_reducible refine Below.drew ?_) | (with_reducible refine Below.trans ?_ (Below.mono (by assumption) (by first | omega | (simp; done) | (simp; omega)))))))⟩

set_option maxHeartbeats 800000 in
theorem l2Hash_c (k : K) (n : Nat) (w : World) (hk : keyOk k = true) (h1 : 1 ≤ n) (h2 : n ≤ 16) :
    Calls Tryd.prog 67 #[k.v, .int .i64 n] w fun x w' => x = .returned (.int .i64 (hashI k n)) ∧ Below w.heap.size w w' := by
  rw [keyOk_iff] at hk
  obtain ⟨s, p⟩ := k
  obtain ⟨⟨s1, s2⟩, p1, p2⟩ := hk
  simp only [] at s1 s2 p1 p2
  unfold K.v
  go_enter Tryd.func67, Tryd.ntmps67
  go_wp2
  go_ret
  exact ⟨ret_int (hash_two s p n h1 h2), (by (repeat (first | (with_reducible exact Below.refl _ _) | (with_reducible assumption) | (with_reducible refine Below.setCell ?_ (by first | omega | (simp; done) | (simp; omega)) _) | (with_reducible refine Below.alloc ?_ (by first | omega | (simp; done) | (simp; omega)) _) | (with_reducible refine below_drewN ?_ _) | (with_reducible refine Below.drew ?_) | (with_reducible refine Below.trans ?_ (Below.mono (by assumption) (by first | omega | (simp; done) | (simp; omega)))))))⟩

set_option maxHeartbeats 400000 in
theorem l1Space_c (n : Int) (w : World) :
    Calls Tryd.prog 63 #[.int .i64 n] w fun x w' => x = .returned (.bool (within n 16)) ∧ w = w' := by
  go_enter Tryd.func63, Tryd.ntmps63
  go_wp2
  all_goals go_ret
  all_goals exact ⟨ret_bool (by simp [within, *]; try omega), rfl⟩

set_option maxHeartbeats 400000 in
theorem l1Page_c (n : Int) (w : World) :
    Calls Tryd.prog 64 #[.int .i64 n] w fun x w' => x = .returned (.bool (within n 256)) ∧ w = w' := by
  go_enter Tryd.func64, Tryd.ntmps64
  go_wp2
  all_goals go_ret
  all_goals exact ⟨ret_bool (by simp [within, *]; try omega), rfl⟩

set_option maxHeartbeats 400000 in
theorem sRightsValid_c (n : Int) (w : World) :
    Calls Tryd.prog 81 #[.int .i64 n] w fun x w' => x = .returned (.bool (rightsOk n)) ∧ w = w' := by
  go_enter Tryd.func81, Tryd.ntmps81
  go_wp2
  all_goals go_ret
  all_goals exact ⟨ret_bool (by simp [rightsOk, within, *]; try omega), rfl⟩

set_option maxHeartbeats 400000 in
theorem l2Buckets_c (n : Int) (w : World) :
    Calls Tryd.prog 80 #[.int .i64 n] w fun x w' => x = .returned (.bool (bucketsOk n)) ∧ w = w' := by
  go_enter Tryd.func80, Tryd.ntmps80
  go_wp2
  all_goals go_ret
  all_goals exact ⟨ret_bool (by simp [bucketsOk, *]; try omega), rfl⟩

set_option maxHeartbeats 400000 in
theorem sKeyValid_c (k : K) (w : World) :
    Calls Tryd.prog 35 #[k.v] w fun x w' => x = .returned (.bool (keyOk k)) ∧ Below w.heap.size w w' := by
  obtain ⟨s, p⟩ := k
  unfold K.v
  go_enter Tryd.func35, Tryd.ntmps35
  go_wp2_with (first | (go_at_call 63; refine (l1Space_c _ _).mono ?_; rintro e w' ⟨rfl, rfl⟩) | (go_at_call 64; refine (l1Page_c _ _).mono ?_; rintro e w' ⟨rfl, rfl⟩))
  all_goals go_ret
  all_goals exact ⟨ret_bool (by simp [keyOk, *]), (by (repeat (first | (with_reducible exact Below.refl _ _) | (with_reducible assumption) | (with_reducible refine Below.setCell ?_ (by first | omega | (simp; done) | (simp; omega)) _) | (with_reducible refine Below.alloc ?_ (by first | omega | (simp; done) | (simp; omega)) _) | (with_reducible refine below_drewN ?_ _) | (with_reducible refine Below.drew ?_) | (with_reducible refine Below.trans ?_ (Below.mono (by assumption) (by first | omega | (simp; done) | (simp; omega)))))))⟩
end Go.Proofs.YtciliaiocakdkaaDoor
