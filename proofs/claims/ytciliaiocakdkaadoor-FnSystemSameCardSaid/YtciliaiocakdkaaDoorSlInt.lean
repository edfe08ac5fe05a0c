/- Contracts of slices.Clone and slices.Clip at elements Int. Printed by gen_slices.py. -/
import Derived.Test.YtciliaiocakdkaaDoorProg
import Derived.Test.YtciliaiocakdkaaDoorOwn
set_option linter.unusedSimpArgs false
set_option linter.unusedVariables false
namespace Go.Proofs.YtciliaiocakdkaaDoor
open Go.RowKit
theorem sltInt : SlT Tryd.prog Int 23 3 8 0 := SlT.mk' (zv := .int .i64 0) Tryd.underlying23 (by kernel_rfl) rfl (by decide)

set_option maxHeartbeats 400000 in
theorem cloneInt_c (v : Value) (l : List Int) (w : World) (h : Rd w v l) (hl : l.length ≤ 1048576) :
    Calls Tryd.prog 76 #[v] w (RetOwn 3 l w) := by
  have g1 := h.le
  obtain ⟨ao1, cap1, rfl, h1, h2, h3, -⟩ := id h
  cases ao1 with
  | none =>
    have hc : cap1 = 0 := h3 rfl
    have hl0 : l = [] := List.eq_nil_of_length_eq_zero (by omega)
    subst hl0
    subst hc
    have he := @Lib.run_eql_slice_nil
    clear h1 h2 h3 h
    go_enter Tryd.func76, Tryd.ntmps76
    go_wp2
    go_ret
    exact ⟨_, rfl, Own.nil _ _ _ _, (by (repeat (first | (with_reducible exact Below.refl _ _) | (with_reducible assumption) | (with_reducible refine Below.setCell ?_ (by first | omega | (simp; done) | (simp; omega)) _) | (with_reducible refine Below.alloc ?_ (by first | omega | (simp; done) | (simp; omega)) _) | (with_reducible refine below_drewN ?_ _) | (with_reducible refine Below.drew ?_) | (with_reducible refine Below.trans ?_ (Below.mono (by assumption) (by first | omega | (simp; done) | (simp; omega)))))))⟩
  | some a =>
    have H := Lib.hid (show ∀ W, Below w.heap.size w W → Rd W (.slice (some a) l.length cap1) l from fun W q => h.below q)
    clear h h1 h2 h3
    have he := fun W : World => Lib.run_eql_slice_nil (P := Tryd.prog) W 23 3 (some a) l.length cap1 0 0 Tryd.underlying23
    go_enter Tryd.func76, Tryd.ntmps76
    go_wp2_with (at_builtin; refine wpList_app sltInt rfl _ _ rfl rfl rfl (own_empty 3 w) (H.out _ (by (repeat (first | (with_reducible exact Below.refl _ _) | (with_reducible assumption) | (with_reducible refine Below.setCell ?_ (by first | omega | (simp; done) | (simp; omega)) _) | (with_reducible refine Below.alloc ?_ (by first | omega | (simp; done) | (simp; omega)) _) | (with_reducible refine below_drewN ?_ _) | (with_reducible refine Below.drew ?_) | (with_reducible refine Below.trans ?_ (Below.mono (by assumption) (by first | omega | (simp; done) | (simp; omega)))))))) (by show (0 + l.length) * _ ≤ _; omega) (by show 0 + l.length ≤ maxLen; unfold maxLen; omega) (by simp) ?_; intro v1 w1 ho1 hg1 hn1)
    go_ret
    simp only [List.nil_append] at ho1
    exact ⟨_, rfl, ho1, Below.grown (w := w.alloc (.cells #[] 3)) ((Below.refl _ _).alloc (Nat.le_refl _) _) hg1 (by simp) (fun k hk => ((own_block w) k hk).1)⟩

set_option maxHeartbeats 400000 in
theorem clipInt_c (v : Value) (l : List Int) (lo hi : Nat) (w : World) (h : Own lo hi 3 w v l) :
    Calls Tryd.prog 75 #[v] w fun x w' => ∃ v', x = .returned v' ∧ Own lo hi 3 w' v' l ∧ (∃ ao, v' = .slice ao l.length l.length) ∧ w = w' := by
  have g1 := h.rd.le
  rcases id h with ⟨rfl, rfl⟩ | ⟨g, cap, cur, rfl, a1, a2, a3, a4, a5, a6, a7⟩
  · clear h
    go_enter Tryd.func75, Tryd.ntmps75
    go_wp2
    go_ret
    exact ⟨_, rfl, Own.nil _ _ _ _, ⟨_, rfl⟩, rfl⟩
  · have i1 : (0 : Int) ≤ (l.length : Int) := by omega
    have i2 : (l.length : Int) ≤ (cap : Int) := by omega
    have HO := Lib.hid (show Own lo hi 3 w (.slice (some ⟨g, 0, none⟩) l.length l.length) l from .inr ⟨g, l.length, cur, rfl, a1, a2, a3, Nat.le_refl _, by omega, Nat.le_trans (Nat.mul_le_mul_right _ a4) a6, a7⟩)
    clear h a3 a5 a6 a7
    go_enter Tryd.func75, Tryd.ntmps75
    go_wp2
    all_goals go_ret
    all_goals exact ⟨_, rfl, HO.out, ⟨_, rfl⟩, rfl⟩
end Go.Proofs.YtciliaiocakdkaaDoor
