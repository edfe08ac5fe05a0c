/- Plain laws of the exact laws' helpers for lines, owners and marks. Printed by a program (genla.py). -/
import Derived.Test.YtbgodaeccgjdgaaGreatDoorLa
set_option linter.unusedSimpArgs false
set_option linter.unusedVariables false
namespace Go.Proofs.YtbgodaeccgjdgaaGreatDoor
open Go.RowKit
def sub0 (left : Int) (n : Nat) : Int := if left - n < 0 then -1 else left - n
theorem toLineS_L0 {fl : Nat} {a0 : List Ln} (hl : a0.length ≤ 1048576) : ∀ (fuel i : Nat) (v : List Ln), v.length = a0.length → i ≤ a0.length → a0.length - i < fuel → (∀ j, j < i → v[j]? = a0[j]?) → l_toLineS_L0 fl a0 fuel v (i : Int) = some (.out (a0, (a0.length : Int)))
  | 0, i, v, _, _, h, _ => by omega
  | fuel + 1, i, v, hv, hi, hf, ht => by
    unfold l_toLineS_L0
    by_cases h : i < a0.length
    · have h2 : i < v.length := by omega
      rw [decide_eq_true (by omega : (i : Int) < (a0.length : Int)), cond_true, idx_nat h, idx_nat h2, ck_succ (by omega)]
      simp only [obs, l_toLine]
      refine toLineS_L0 hl fuel (i + 1) _ (by simp [hv]) (by omega) (by omega) fun j hj => ?_
      rw [Int.toNat_natCast, List.getElem?_set]
      split
      · rename_i e; subst e; simp [h2, h]
      · exact ht j (by omega)
    · have e : i = a0.length := by omega
      subst e
      simp only [Int.lt_irrefl, decide_false, cond_false]
      have : v = a0 := by
        apply List.ext_getElem?
        intro j
        by_cases hj : j < a0.length
        · exact ht j hj
        · rw [List.getElem?_eq_none (by omega), List.getElem?_eq_none (by omega)]
      rw [this]
theorem toLineS_eq {fl : Nat} {a0 : List Ln} (hl : a0.length ≤ 1048576) (hf : 1048576 < fl) : l_toLineS fl a0 = some a0 := by
  unfold l_toLineS
  rw [mkO_nat hl]
  simp only [obs]
  have := toLineS_L0 (fl := fl) hl fl 0 (List.replicate a0.length ⟨false, 0, 0, 0, 0, false⟩) (by simp) (by omega) (by omega) (fun j hj => by omega)
  rw [show ((0 : Nat) : Int) = 0 from rfl] at this
  rw [this]; rfl
theorem eqLine_self {fl : Nat} (f : Ln) : l_eqLine fl f f = some true := by simp [l_eqLine]
theorem eqLineS_L0 {fl : Nat} {l : List Ln} (hl : l.length ≤ 1048576) : ∀ (fuel i : Nat), i ≤ l.length → l.length - i < fuel → l_eqLineS_L0 fl l l fuel i = some (.out (l.length : Int))
  | 0, i, _, h => by omega
  | fuel + 1, i, hi, hf => by
    unfold l_eqLineS_L0
    by_cases h : i < l.length
    · rw [decide_eq_true (by omega : (i : Int) < (l.length : Int)), cond_true, idx_nat h, ck_succ (by omega)]
      simp only [obs, eqLine_self, Bool.not_true, cond_false]
      exact eqLineS_L0 hl fuel (i + 1) (by omega) (by omega)
    · have e : i = l.length := by omega
      subst e
      simp only [Int.lt_irrefl, decide_false, cond_false]
theorem eqLineS_self {fl : Nat} {l : List Ln} (hl : l.length ≤ 1048576) (hf : 1048576 < fl) : l_eqLineS fl l l = some true := by
  unfold l_eqLineS
  have := eqLineS_L0 (fl := fl) hl fl 0 (by omega) (by omega)
  rw [show ((0 : Nat) : Int) = 0 from rfl] at this
  simp only [bne_self_eq_false, cond_false, this, obs]
def mkLine (c : Nat) : Ln := ⟨(((c : Nat) : Int).tmod 3 == 0), ((c + 1 : Nat) : Int), ((c + 1 + 1 : Nat) : Int), ((c + 1 + 1 + 1 : Nat) : Int), ((c + 1 + 1 + 1 + 1 : Nat) : Int), (((c + 1 + 1 + 1 + 1 + 1 : Nat) : Int).tmod 3 == 0)⟩
theorem mkLine_va (c : Nat) : (mkLine c).va = (((c : Nat) : Int).tmod 3 == 0) := by rw [mkLine]
theorem mkLine_tg (c : Nat) : (mkLine c).tg = ((c + 1 : Nat) : Int) := by rw [mkLine]
theorem mkLine_pg (c : Nat) : (mkLine c).pg = ((c + 1 + 1 : Nat) : Int) := by rw [mkLine]
theorem mkLine_fr (c : Nat) : (mkLine c).fr = ((c + 1 + 1 + 1 : Nat) : Int) := by rw [mkLine]
theorem mkLine_ri (c : Nat) : (mkLine c).ri = ((c + 1 + 1 + 1 + 1 : Nat) : Int) := by rw [mkLine]
theorem mkLine_wi (c : Nat) : (mkLine c).wi = (((c + 1 + 1 + 1 + 1 + 1 : Nat) : Int).tmod 3 == 0) := by rw [mkLine]
theorem markLineS_L0 {fl : Nat} {a0 : List Ln} {s : Nat} (hs : s ≤ 8388608) (hl : a0.length ≤ 1048576) : ∀ (fuel i : Nat) (v : List Ln), v.length = a0.length → i ≤ a0.length → a0.length - i < fuel → (∀ j, j < i → v[j]? = some (mkLine (s + 6 * j))) →
    ∃ m : List Ln, l_markLineS_L0 fl a0 fuel v ((s + 6 * i : Nat) : Int) i = some (.out (m, ((s + 6 * a0.length : Nat) : Int), (a0.length : Int))) ∧ m.length = a0.length ∧ ∀ j, j < a0.length → m[j]? = some (mkLine (s + 6 * j)) := by
  intro fuel
  induction fuel with
  | zero => intro i v _ _ h _; omega
  | succ fuel ih =>
    intro i v hv hi hf ht
    rw [l_markLineS_L0.eq_2]
    by_cases h : i < a0.length
    · have h2 : i < v.length := by omega
      rw [decide_eq_true (by omega : (i : Int) < (a0.length : Int)), cond_true, remO3, idx_nat h2, c1 (s + 6 * i) (by omega)]
      simp only [obs, Int.toNat_natCast]
      rw [idx_set_nat (by simpa using h2), c1 _ (by omega)]
      simp only [obs, Int.toNat_natCast]
      rw [idx_set_nat (by simpa using h2), c1 _ (by omega)]
      simp only [obs, Int.toNat_natCast]
      rw [idx_set_nat (by simpa using h2), c1 _ (by omega)]
      simp only [obs, Int.toNat_natCast]
      rw [idx_set_nat (by simpa using h2), c1 _ (by omega)]
      simp only [obs, Int.toNat_natCast]
      rw [remO3, idx_set_nat (by simpa using h2), c1 _ (by omega), c1 i (by omega)]
      simp only [obs, Int.toNat_natCast]
      have e5 : s + 6 * i + 1 + 1 + 1 + 1 + 1 + 1 = s + 6 * (i + 1) := by omega
      rw [e5]
      refine ih (i + 1) _ (by simp [hv]) (by omega) (by omega) fun j hj => ?_
      rw [List.getElem?_set]
      split
      · rename_i e; subst e; simp [h2, mkLine]
      · rename_i e
        have hj' : j < i := by omega
        simp only [List.getElem?_set, e, if_false]; exact ht j hj'
    · have e : i = a0.length := by omega
      subst e
      simp only [Int.lt_irrefl, decide_false, cond_false]
      exact ⟨v, rfl, hv, ht⟩
theorem markLineS_eq {fl : Nat} {a0 : List Ln} {s : Nat} (hs : s ≤ 8388608) (hl : a0.length ≤ 1048576) (hf : 1048576 < fl) :
    ∃ m : List Ln, l_markLineS fl a0 s = some (((s + 6 * a0.length : Nat) : Int), m) ∧ m.length = a0.length ∧ ∀ j, j < a0.length → m[j]? = some (mkLine (s + 6 * j)) := by
  obtain ⟨m, h1, h2, h3⟩ := markLineS_L0 (fl := fl) hs hl fl 0 a0 rfl (by omega) (by omega) (fun j hj => by omega)
  refine ⟨m, ?_, h2, h3⟩
  unfold l_markLineS
  simp only [Nat.mul_zero, Nat.add_zero, show ((0 : Nat) : Int) = 0 from rfl] at h1
  rw [h1]; rfl
theorem heldLineS_L0 {fl : Nat} {m : List Ln} {s : Nat} (hs : s ≤ 8388608) (hl : m.length ≤ 1048576) (hm : ∀ j, j < m.length → m[j]? = some (mkLine (s + 6 * j))) : ∀ (fuel i : Nat), i ≤ m.length → m.length - i < fuel →
    l_heldLineS_L0 fl m fuel ((s + 6 * i : Nat) : Int) i = some (.out (((s + 6 * m.length : Nat) : Int), (m.length : Int))) := by
  intro fuel
  induction fuel with
  | zero => intro i _ h; omega
  | succ fuel ih =>
    intro i hi hf
    rw [l_heldLineS_L0.eq_2]
    by_cases h : i < m.length
    · have e := hm i h
      rw [List.getElem?_eq_getElem h, Option.some.injEq] at e
      rw [decide_eq_true (by omega : (i : Int) < (m.length : Int)), cond_true, remO3, idx_nat h]
      simp only [obs, e, mkLine_va, mkLine_tg, mkLine_pg, mkLine_fr, mkLine_ri, mkLine_wi, bne_self_eq_false, cof]
      rw [c1 _ (by omega)]
      simp only [obs, remO3, bne_self_eq_false, cof]
      rw [c1 _ (by omega)]
      simp only [obs, remO3, bne_self_eq_false, cof]
      rw [c1 _ (by omega)]
      simp only [obs, remO3, bne_self_eq_false, cof]
      rw [c1 _ (by omega)]
      simp only [obs, remO3, bne_self_eq_false, cof]
      rw [c1 _ (by omega)]
      simp only [obs, remO3, bne_self_eq_false, cof]
      rw [c1 _ (by omega), c1 i (by omega)]
      simp only [obs, remO3, bne_self_eq_false, cof]
      have e5 : s + 6 * i + 1 + 1 + 1 + 1 + 1 + 1 = s + 6 * (i + 1) := by omega
      rw [e5]
      exact ih (i + 1) (by omega) (by omega)
    · have e : i = m.length := by omega
      subst e
      simp only [Int.lt_irrefl, decide_false, cof]
theorem heldLineS_eq {fl : Nat} {m : List Ln} {s : Nat} (hs : s ≤ 8388608) (hl : m.length ≤ 1048576) (hm : ∀ j, j < m.length → m[j]? = some (mkLine (s + 6 * j))) (hf : 1048576 < fl) : l_heldLineS fl m s = some ((s + 6 * m.length : Nat) : Int) := by
  have h1 := heldLineS_L0 (fl := fl) hs hl hm fl 0 (by omega) (by omega)
  unfold l_heldLineS
  simp only [Nat.mul_zero, Nat.add_zero, show ((0 : Nat) : Int) = 0 from rfl] at h1
  rw [h1]; rfl
theorem szLineS_eq {fl : Nat} {a : List Ln} {left : Int} (h1 : (a.length : Int) ≤ 9223372036854775807) (h0 : 0 ≤ left ∧ left ≤ 1048576) : l_szLineS fl a left = some (sub0 left a.length) := by
  unfold l_szLineS sub0
  rw [ck_in (by omega)]
  simp only [obs]
  by_cases h : left - (a.length : Int) < 0
  · rw [decide_eq_true h, cot, if_pos h]
  · rw [decide_eq_false h, cof, if_neg h]
theorem toOwnS_L0 {fl : Nat} {a0 : List Ow} (hl : a0.length ≤ 1048576) : ∀ (fuel i : Nat) (v : List Ow), v.length = a0.length → i ≤ a0.length → a0.length - i < fuel → (∀ j, j < i → v[j]? = a0[j]?) → l_toOwnS_L0 fl a0 fuel v (i : Int) = some (.out (a0, (a0.length : Int)))
  | 0, i, v, _, _, h, _ => by omega
  | fuel + 1, i, v, hv, hi, hf, ht => by
    unfold l_toOwnS_L0
    by_cases h : i < a0.length
    · have h2 : i < v.length := by omega
      rw [decide_eq_true (by omega : (i : Int) < (a0.length : Int)), cond_true, idx_nat h, idx_nat h2, ck_succ (by omega)]
      simp only [obs, l_toOwn]
      refine toOwnS_L0 hl fuel (i + 1) _ (by simp [hv]) (by omega) (by omega) fun j hj => ?_
      rw [Int.toNat_natCast, List.getElem?_set]
      split
      · rename_i e; subst e; simp [h2, h]
      · exact ht j (by omega)
    · have e : i = a0.length := by omega
      subst e
      simp only [Int.lt_irrefl, decide_false, cond_false]
      have : v = a0 := by
        apply List.ext_getElem?
        intro j
        by_cases hj : j < a0.length
        · exact ht j hj
        · rw [List.getElem?_eq_none (by omega), List.getElem?_eq_none (by omega)]
      rw [this]
theorem toOwnS_eq {fl : Nat} {a0 : List Ow} (hl : a0.length ≤ 1048576) (hf : 1048576 < fl) : l_toOwnS fl a0 = some a0 := by
  unfold l_toOwnS
  rw [mkO_nat hl]
  simp only [obs]
  have := toOwnS_L0 (fl := fl) hl fl 0 (List.replicate a0.length ⟨0, 0⟩) (by simp) (by omega) (by omega) (fun j hj => by omega)
  rw [show ((0 : Nat) : Int) = 0 from rfl] at this
  rw [this]; rfl
theorem eqOwn_self {fl : Nat} (f : Ow) : l_eqOwn fl f f = some true := by simp [l_eqOwn]
theorem eqOwnS_L0 {fl : Nat} {l : List Ow} (hl : l.length ≤ 1048576) : ∀ (fuel i : Nat), i ≤ l.length → l.length - i < fuel → l_eqOwnS_L0 fl l l fuel i = some (.out (l.length : Int))
  | 0, i, _, h => by omega
  | fuel + 1, i, hi, hf => by
    unfold l_eqOwnS_L0
    by_cases h : i < l.length
    · rw [decide_eq_true (by omega : (i : Int) < (l.length : Int)), cond_true, idx_nat h, ck_succ (by omega)]
      simp only [obs, eqOwn_self, Bool.not_true, cond_false]
      exact eqOwnS_L0 hl fuel (i + 1) (by omega) (by omega)
    · have e : i = l.length := by omega
      subst e
      simp only [Int.lt_irrefl, decide_false, cond_false]
theorem eqOwnS_self {fl : Nat} {l : List Ow} (hl : l.length ≤ 1048576) (hf : 1048576 < fl) : l_eqOwnS fl l l = some true := by
  unfold l_eqOwnS
  have := eqOwnS_L0 (fl := fl) hl fl 0 (by omega) (by omega)
  rw [show ((0 : Nat) : Int) = 0 from rfl] at this
  simp only [bne_self_eq_false, cond_false, this, obs]
def mkOwn (c : Nat) : Ow := ⟨((c : Nat) : Int), ((c + 1 : Nat) : Int)⟩
theorem mkOwn_sp (c : Nat) : (mkOwn c).sp = ((c : Nat) : Int) := by rw [mkOwn]
theorem mkOwn_tg (c : Nat) : (mkOwn c).tg = ((c + 1 : Nat) : Int) := by rw [mkOwn]
theorem markOwnS_L0 {fl : Nat} {a0 : List Ow} {s : Nat} (hs : s ≤ 8388608) (hl : a0.length ≤ 1048576) : ∀ (fuel i : Nat) (v : List Ow), v.length = a0.length → i ≤ a0.length → a0.length - i < fuel → (∀ j, j < i → v[j]? = some (mkOwn (s + 2 * j))) →
    ∃ m : List Ow, l_markOwnS_L0 fl a0 fuel v ((s + 2 * i : Nat) : Int) i = some (.out (m, ((s + 2 * a0.length : Nat) : Int), (a0.length : Int))) ∧ m.length = a0.length ∧ ∀ j, j < a0.length → m[j]? = some (mkOwn (s + 2 * j)) := by
  intro fuel
  induction fuel with
  | zero => intro i v _ _ h _; omega
  | succ fuel ih =>
    intro i v hv hi hf ht
    rw [l_markOwnS_L0.eq_2]
    by_cases h : i < a0.length
    · have h2 : i < v.length := by omega
      rw [decide_eq_true (by omega : (i : Int) < (a0.length : Int)), cond_true, idx_nat h2, c1 (s + 2 * i) (by omega)]
      simp only [obs, Int.toNat_natCast]
      rw [idx_set_nat (by simpa using h2), c1 _ (by omega), c1 i (by omega)]
      simp only [obs, Int.toNat_natCast]
      have e5 : s + 2 * i + 1 + 1 = s + 2 * (i + 1) := by omega
      rw [e5]
      refine ih (i + 1) _ (by simp [hv]) (by omega) (by omega) fun j hj => ?_
      rw [List.getElem?_set]
      split
      · rename_i e; subst e; simp [h2, mkOwn]
      · rename_i e
        have hj' : j < i := by omega
        simp only [List.getElem?_set, e, if_false]; exact ht j hj'
    · have e : i = a0.length := by omega
      subst e
      simp only [Int.lt_irrefl, decide_false, cond_false]
      exact ⟨v, rfl, hv, ht⟩
theorem markOwnS_eq {fl : Nat} {a0 : List Ow} {s : Nat} (hs : s ≤ 8388608) (hl : a0.length ≤ 1048576) (hf : 1048576 < fl) :
    ∃ m : List Ow, l_markOwnS fl a0 s = some (((s + 2 * a0.length : Nat) : Int), m) ∧ m.length = a0.length ∧ ∀ j, j < a0.length → m[j]? = some (mkOwn (s + 2 * j)) := by
  obtain ⟨m, h1, h2, h3⟩ := markOwnS_L0 (fl := fl) hs hl fl 0 a0 rfl (by omega) (by omega) (fun j hj => by omega)
  refine ⟨m, ?_, h2, h3⟩
  unfold l_markOwnS
  simp only [Nat.mul_zero, Nat.add_zero, show ((0 : Nat) : Int) = 0 from rfl] at h1
  rw [h1]; rfl
theorem heldOwnS_L0 {fl : Nat} {m : List Ow} {s : Nat} (hs : s ≤ 8388608) (hl : m.length ≤ 1048576) (hm : ∀ j, j < m.length → m[j]? = some (mkOwn (s + 2 * j))) : ∀ (fuel i : Nat), i ≤ m.length → m.length - i < fuel →
    l_heldOwnS_L0 fl m fuel ((s + 2 * i : Nat) : Int) i = some (.out (((s + 2 * m.length : Nat) : Int), (m.length : Int))) := by
  intro fuel
  induction fuel with
  | zero => intro i _ h; omega
  | succ fuel ih =>
    intro i hi hf
    rw [l_heldOwnS_L0.eq_2]
    by_cases h : i < m.length
    · have e := hm i h
      rw [List.getElem?_eq_getElem h, Option.some.injEq] at e
      rw [decide_eq_true (by omega : (i : Int) < (m.length : Int)), cond_true, idx_nat h]
      simp only [obs, e, mkOwn_sp, mkOwn_tg, bne_self_eq_false, cof]
      rw [c1 _ (by omega)]
      simp only [obs, remO3, bne_self_eq_false, cof]
      rw [c1 _ (by omega), c1 i (by omega)]
      simp only [obs, remO3, bne_self_eq_false, cof]
      have e5 : s + 2 * i + 1 + 1 = s + 2 * (i + 1) := by omega
      rw [e5]
      exact ih (i + 1) (by omega) (by omega)
    · have e : i = m.length := by omega
      subst e
      simp only [Int.lt_irrefl, decide_false, cof]
theorem heldOwnS_eq {fl : Nat} {m : List Ow} {s : Nat} (hs : s ≤ 8388608) (hl : m.length ≤ 1048576) (hm : ∀ j, j < m.length → m[j]? = some (mkOwn (s + 2 * j))) (hf : 1048576 < fl) : l_heldOwnS fl m s = some ((s + 2 * m.length : Nat) : Int) := by
  have h1 := heldOwnS_L0 (fl := fl) hs hl hm fl 0 (by omega) (by omega)
  unfold l_heldOwnS
  simp only [Nat.mul_zero, Nat.add_zero, show ((0 : Nat) : Int) = 0 from rfl] at h1
  rw [h1]; rfl
theorem szOwnS_eq {fl : Nat} {a : List Ow} {left : Int} (h1 : (a.length : Int) ≤ 9223372036854775807) (h0 : 0 ≤ left ∧ left ≤ 1048576) : l_szOwnS fl a left = some (sub0 left a.length) := by
  unfold l_szOwnS sub0
  rw [ck_in (by omega)]
  simp only [obs]
  by_cases h : left - (a.length : Int) < 0
  · rw [decide_eq_true h, cot, if_pos h]
  · rw [decide_eq_false h, cof, if_neg h]
theorem szIntS_eq {fl : Nat} {a : List Int} {left : Int} (h1 : (a.length : Int) ≤ 9223372036854775807) (h0 : 0 ≤ left ∧ left ≤ 1048576) : l_szIntS fl a left = some (sub0 left a.length) := by
  unfold l_szIntS sub0
  rw [ck_in (by omega)]
  simp only [obs]
  by_cases h : left - (a.length : Int) < 0
  · rw [decide_eq_true h, cot, if_pos h]
  · rw [decide_eq_false h, cof, if_neg h]
theorem szFrameS_eq {fl : Nat} {a : List F} {left : Int} (h1 : (a.length : Int) ≤ 9223372036854775807) (h0 : 0 ≤ left ∧ left ≤ 1048576) : l_szFrameS fl a left = some (sub0 left a.length) := by
  unfold l_szFrameS sub0
  rw [ck_in (by omega)]
  simp only [obs]
  by_cases h : left - (a.length : Int) < 0
  · rw [decide_eq_true h, cot, if_pos h]
  · rw [decide_eq_false h, cof, if_neg h]
theorem sub0_step {left : Int} {n1 n2 : Nat} {f : Int → Option Int} (h0 : 0 ≤ left ∧ left ≤ 1048576) (h : 0 ≤ left - n1 ∧ left - n1 ≤ 1048576 → f (left - n1) = some (sub0 (left - n1) n2)) : cond (decide (sub0 left n1 < 0)) (some (-1)) (f (sub0 left n1)) = some (sub0 left (n1 + n2)) := by
  by_cases c : left - (n1 : Int) < 0
  · have e1 : sub0 left n1 = -1 := by unfold sub0; rw [if_pos c]
    have e2 : sub0 left (n1 + n2) = -1 := by unfold sub0; rw [if_pos (by omega)]
    rw [e1, e2]; rfl
  · have e1 : sub0 left n1 = left - n1 := by unfold sub0; rw [if_neg c]
    rw [e1, decide_eq_false c, cof, h (by omega)]
    unfold sub0
    have : left - ((n1 + n2 : Nat) : Int) = left - n1 - n2 := by omega
    rw [this]
theorem sub0_end {left : Int} {n1 : Nat} (h0 : 0 ≤ left ∧ left ≤ 1048576) : cond (decide (sub0 left n1 < 0)) (some (-1)) (some (sub0 left n1)) = some (sub0 left n1) := by
  by_cases c : left - (n1 : Int) < 0
  · have e1 : sub0 left n1 = -1 := by unfold sub0; rw [if_pos c]
    rw [e1]; rfl
  · have e1 : sub0 left n1 = left - n1 := by unfold sub0; rw [if_neg c]
    rw [e1, decide_eq_false c, cof]
theorem sub0_cases (n : Nat) : (n ≤ 1048576 ∧ decide (sub0 1048576 n < 0) = false) ∨ (1048576 < n ∧ decide (sub0 1048576 n < 0) = true) := by
  unfold sub0
  by_cases c : (1048576 : Int) - n < 0
  · right; rw [if_pos c]; exact ⟨by omega, rfl⟩
  · left; rw [if_neg c, decide_eq_false c]; exact ⟨by omega, rfl⟩
end Go.Proofs.YtbgodaeccgjdgaaGreatDoor
