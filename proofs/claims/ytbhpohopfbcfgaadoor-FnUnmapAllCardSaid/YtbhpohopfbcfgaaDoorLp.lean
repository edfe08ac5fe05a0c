/- Plain laws of the draws: what is drawn from bytes is drawn, and within its bounds. -/
import Derived.Test.YtbhpohopfbcfgaaDoorLa
set_option linter.unusedSimpArgs false
set_option linter.unusedVariables false
namespace Go.Proofs.YtbhpohopfbcfgaaDoor
open Go.RowKit
variable {fl : Nat}
theorem bXor_nn {p q : Int} (h0 : 0 ≤ p) (h1 : p < 4611686018427387904) (h2 : 0 ≤ q) (h3 : q < 4611686018427387904) : 0 ≤ bXor p q := by
  obtain ⟨a, rfl⟩ : ∃ a : Nat, p = a := ⟨p.toNat, by omega⟩
  obtain ⟨b, rfl⟩ : ∃ b : Nat, q = b := ⟨q.toNat, by omega⟩
  have e : ∀ c : Nat, c < 4611686018427387904 → (BitVec.ofInt 64 (c : Int)).toNat = c := fun c hc => by
    rw [BitVec.toNat_ofInt]
    omega
  have ha := e a (by omega)
  have hb := e b (by omega)
  have hx : (BitVec.ofInt 64 (a : Int) ^^^ BitVec.ofInt 64 (b : Int)).toNat < 2 ^ 62 := by
    rw [BitVec.toNat_xor, ha, hb]
    exact Nat.xor_lt_two_pow (by omega) (by omega)
  unfold bXor
  rw [IntWalk.i64_left, IntWalk.wrap64_in _ (by omega)]
  omega
theorem remO_nn {a b : Int} (ha : 0 ≤ a) (hb : 0 < b) : ∃ r, remO a b = some r ∧ 0 ≤ r ∧ r < b := by
  unfold remO
  rw [if_neg (by omega)]
  exact ⟨_, rfl, Int.tmod_nonneg _ ha, Int.tmod_lt_of_pos _ hb⟩
theorem idx_in {α : Type} {l : List α} {i : Int} (h0 : 0 ≤ i) (h1 : i < (l.length : Int)) : ∃ x ∈ l, idx l i = some x := by
  obtain ⟨n, rfl⟩ : ∃ n : Nat, i = n := ⟨i.toNat, by omega⟩
  exact ⟨l[n]'(by omega), List.getElem_mem _, idx_nat (by omega)⟩
theorem u8_lt (x : UInt8) : (x.toNat : Int) ≤ 255 := by have := x.toNat_lt; omega
theorem pick_eq {l : List UInt8} {p n : Int} (hp : 0 ≤ p) (hp2 : p ≤ 1073741824) (hl : l.length ≤ 2000) : ∃ r, s_l12Rd_pick fl l p n = some (r, p + 1) ∧ (1 ≤ n → 0 ≤ r ∧ r < n) ∧ (n < 1 → r = 0) := by
  unfold s_l12Rd_pick
  rw [ck_in (by omega)]
  simp only [obs]
  by_cases hn : n < 1
  · rw [decide_eq_true hn]
    simp only [cot, obs]
    exact ⟨0, rfl, fun h => by omega, fun _ => rfl⟩
  rw [decide_eq_false hn]
  simp only [cof, obs]
  by_cases hz : l.length = 0
  · rw [hz]
    simp only [show (((0 : Nat) : Int) == 0) = true from rfl, cot]
    exact ⟨0, rfl, fun h => by omega, fun _ => rfl⟩
  rw [show ((l.length : Int) == 0) = false from by simpa using (fun e => hz (by rw [e]; rfl))]
  simp only [cof]
  rw [show p + 1 - 1 = p from by omega, ck_in (by omega)]
  simp only [obs]
  by_cases hlt : p < (l.length : Int)
  · rw [decide_eq_true hlt, cot]
    obtain ⟨x, _, hx⟩ := idx_in hp hlt
    rw [hx]
    simp only [obs]
    have := u8_lt x
    rw [ck_in (by omega)]
    simp only [obs]
    obtain ⟨r, hr, r0, r1⟩ := remO_nn (a := (x.toNat : Int)) (b := n) (by omega) (by omega)
    rw [hr]
    simp only [obs]
    exact ⟨r, rfl, fun _ => ⟨r0, r1⟩, fun h => by omega⟩
  · rw [decide_eq_false hlt, cof]
    obtain ⟨r1, h1, a1, b1⟩ := remO_nn (a := p) (b := (l.length : Int)) hp (by omega)
    rw [h1]
    simp only [obs]
    obtain ⟨x, _, hx⟩ := idx_in a1 b1
    rw [hx]
    simp only [obs]
    have u1 := u8_lt x
    rw [ck_in (by omega)]
    simp only [obs]
    rw [ck_in (by omega)]
    simp only [obs]
    rw [ck_in (by omega)]
    simp only [obs]
    rw [ck_in (by omega)]
    simp only [obs]
    obtain ⟨r2, h2, a2, b2⟩ := remO_nn (a := p * 7 + 3) (b := (l.length : Int)) (by omega) (by omega)
    rw [h2]
    simp only [obs]
    obtain ⟨y, _, hy⟩ := idx_in a2 b2
    rw [hy]
    simp only [obs]
    have u2 := u8_lt y
    rw [ck_in (by omega)]
    simp only [obs]
    rw [ck_in (by omega)]
    simp only [obs]
    rw [ck_in (by omega)]
    simp only [obs]
    rw [ck_in (by omega)]
    simp only [obs]
    rw [ck_in (by omega)]
    simp only [obs]
    have q0 : 0 ≤ p.tdiv (l.length : Int) := Int.tdiv_nonneg hp (by omega)
    have q1 : p.tdiv (l.length : Int) ≤ p := by
      rw [Int.tdiv_eq_ediv_of_nonneg hp]
      exact Int.ediv_le_self _ hp
    have hq : quoO p (l.length : Int) = some (p.tdiv (l.length : Int)) := by
      unfold quoO; rw [if_neg (by omega), ck_in (by omega)]
    rw [hq]
    simp only [obs]
    generalize p.tdiv (l.length : Int) = q at *
    rw [ck_in (by omega)]
    simp only [obs]
    rw [ck_in (by omega)]
    simp only [obs]
    generalize hz2 : (x.toNat : Int) * 131 + (y.toNat : Int) * 1117 + p * 29 + q * 53 = z
    have z0 : 0 ≤ z ∧ z < 1152921504606846976 := by omega
    have hz3 : quoO z 64 = some (z / 64) := by
      unfold quoO; rw [if_neg (by decide), Int.tdiv_eq_ediv_of_nonneg z0.1, ck_in (by omega)]
    rw [hz3]
    simp only [obs]
    have hx0 := bXor_nn (p := z) (q := z / 64) z0.1 (by omega) (by omega) (by omega)
    obtain ⟨r, hr, c0, c1⟩ := remO_nn (a := bXor z (z / 64)) (b := n) hx0 (by omega)
    rw [hr]
    simp only [obs]
    exact ⟨r, rfl, fun _ => ⟨c0, c1⟩, fun h => by omega⟩
theorem num_eq {l : List UInt8} {p : Int} {L : List Int} (hp : 0 ≤ p) (hp2 : p ≤ 1073741824) (hl : l.length ≤ 2000) (hL : 0 < L.length) : ∃ x ∈ L, s_l12Rd_num fl l p L = some (x, p + 1) := by
  unfold s_l12Rd_num
  obtain ⟨r, h, hr, _⟩ := pick_eq (fl := fl) (n := (L.length : Int)) hp hp2 hl
  rw [h]
  simp only [obs]
  obtain ⟨x, hx, e⟩ := idx_in (hr (by omega)).1 (hr (by omega)).2
  rw [e]
  simp only [obs]
  exact ⟨x, hx, rfl⟩
theorem draw2_eq {l : List UInt8} {p : Int} (hp : 0 ≤ p) (hp2 : p ≤ 1073741000) (hl : l.length ≤ 2000) : ∃ k, s_l2Draw fl l p = some (k, p + 2) := by
  unfold s_l2Draw
  obtain ⟨x, _, h⟩ := num_eq (fl := fl) (L := [0, 1, 2, 3, 1]) hp (by omega) hl (by simp)
  rw [h]
  simp only [obs]
  obtain ⟨y, _, h'⟩ := num_eq (fl := fl) (p := p + 1) (L := [0, 1, 2, 3, 4, 5, 100, 255]) (by omega) (by omega) hl (by simp)
  rw [h']
  simp only [obs]
  exact ⟨_, by rw [show p + 1 + 1 = p + 2 from by omega]⟩
theorem case2_eq {l : List UInt8} {p : Int} (hp : 0 ≤ p) (hp2 : p ≤ 1073741000) (hl : l.length ≤ 2000) : ∃ k p', s_l2Case fl l p = some (k, p') ∧ p ≤ p' ∧ p' ≤ p + 4 := by
  unfold s_l2Case
  obtain ⟨k, h⟩ := draw2_eq (fl := fl) hp hp2 hl
  rw [h]
  simp only [obs]
  obtain ⟨r, h, _, _⟩ := pick_eq (fl := fl) (p := p + 2) (n := 24) (by omega) (by omega) hl
  rw [h]
  simp only [obs]
  cases (r == 0) with
  | true =>
    rw [cot]
    obtain ⟨y, _, h'⟩ := num_eq (fl := fl) (p := p + 2 + 1) (L := [(-1), 16]) (by omega) (by omega) hl (by simp)
    rw [h']
    simp only [obs]
    exact ⟨_, _, rfl, by omega, by omega⟩
  | false =>
    rw [cof]
    cases (r == 1) with
    | true =>
      rw [cot]
      obtain ⟨y, _, h'⟩ := num_eq (fl := fl) (p := p + 2 + 1) (L := [(-1), 256]) (by omega) (by omega) hl (by simp)
      rw [h']
      simp only [obs]
      exact ⟨_, _, rfl, by omega, by omega⟩
    | false =>
      rw [cof]
      exact ⟨_, _, rfl, by omega, by omega⟩
end Go.Proofs.YtbhpohopfbcfgaaDoor
