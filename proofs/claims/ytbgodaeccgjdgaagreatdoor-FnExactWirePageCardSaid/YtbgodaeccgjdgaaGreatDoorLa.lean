/- Plain laws of the law's own helpers: copies, equality, marks. -/
import Derived.Test.YtbgodaeccgjdgaaGreatDoorGp
set_option linter.unusedSimpArgs false
set_option linter.unusedVariables false
namespace Go.Proofs.YtbgodaeccgjdgaaGreatDoor
open Go.RowKit
theorem obs {α β : Type} {x : α} {f : α → Option β} : Option.bind (some x) f = f x := by rw [Option.bind_some]
theorem cof {α : Type} {x y : α} : cond false x y = y := by rw [cond_false]
theorem cot {α : Type} {x y : α} : cond true x y = x := by rw [cond_true]
theorem idx_set_nat {α : Type} {l : List α} {i : Nat} {x : α} (h : i < l.length) : idx (l.set i x) (i : Int) = some x := by
  rw [idx_nat (by simpa using h)]; simp
theorem c1 (n : Nat) (h : n ≤ 16777216) : ck ((n : Int) + 1) = some ((n + 1 : Nat) : Int) := by rw [ck_in (by omega)]; rfl
theorem ck_succ {n : Nat} (h : n ≤ 2097152) : ck ((n : Int) + 1) = some ((n + 1 : Nat) : Int) := by rw [ck_in (by omega)]; rfl

theorem toIntS_L0 {fl : Nat} {a0 : List Int} (hl : a0.length ≤ 1048576) : ∀ (fuel i : Nat) (v : List Int), v.length = a0.length → i ≤ a0.length → a0.length - i < fuel → (∀ j, j < i → v[j]? = a0[j]?) → l_toIntS_L0 fl a0 fuel v i = some (.out (a0, (a0.length : Int)))
  | 0, i, v, _, _, h, _ => by omega
  | fuel + 1, i, v, hv, hi, hf, ht => by
    unfold l_toIntS_L0
    by_cases h : i < a0.length
    · have h2 : i < v.length := by omega
      rw [decide_eq_true (by omega : (i : Int) < (a0.length : Int)), cond_true, idx_nat h, idx_nat h2, ck_succ (by omega)]
      simp only [obs]
      refine toIntS_L0 hl fuel (i + 1) _ (by simp [hv]) (by omega) (by omega) fun j hj => ?_
      rw [Int.toNat_natCast, List.getElem?_set]
      split
      · rename_i e; subst e; simp [h2, h]
      · exact ht j (by omega)
    · have e : i = a0.length := by omega
      subst e
      simp only [Int.lt_irrefl, decide_false, cond_false]
      have : v = a0 := by
        apply List.ext_getElem?
        intro j
        by_cases hj : j < a0.length
        · exact ht j hj
        · rw [List.getElem?_eq_none (by omega), List.getElem?_eq_none (by omega)]
      rw [this]
theorem mkO_nat {n : Nat} (h : n ≤ 1048576) : mkO (n : Int) = some n := by
  unfold mkO; rw [if_pos (by simp [maxLen]; omega)]; simp
theorem toIntS_eq {fl : Nat} {a0 : List Int} (hl : a0.length ≤ 1048576) (hf : 1048576 < fl) : l_toIntS fl a0 = some a0 := by
  unfold l_toIntS
  rw [mkO_nat hl]
  simp only [obs]
  have := toIntS_L0 (fl := fl) hl fl 0 (List.replicate a0.length 0) (by simp) (by omega) (by omega) (fun j hj => by omega)
  rw [show ((0 : Nat) : Int) = 0 from rfl] at this
  rw [this]; rfl
theorem toFrameS_L0 {fl : Nat} {a0 : List F} (hl : a0.length ≤ 1048576) : ∀ (fuel i : Nat) (v : List F), v.length = a0.length → i ≤ a0.length → a0.length - i < fuel → (∀ j, j < i → v[j]? = a0[j]?) → l_toFrameS_L0 fl a0 fuel v i = some (.out (a0, (a0.length : Int)))
  | 0, i, v, _, _, h, _ => by omega
  | fuel + 1, i, v, hv, hi, hf, ht => by
    unfold l_toFrameS_L0
    by_cases h : i < a0.length
    · have h2 : i < v.length := by omega
      rw [decide_eq_true (by omega : (i : Int) < (a0.length : Int)), cond_true, idx_nat h, idx_nat h2, ck_succ (by omega)]
      simp only [obs, l_toFrame, l_toKey]
      refine toFrameS_L0 hl fuel (i + 1) _ (by simp [hv]) (by omega) (by omega) fun j hj => ?_
      rw [Int.toNat_natCast, List.getElem?_set]
      split
      · rename_i e; subst e; simp [h2, h]
      · exact ht j (by omega)
    · have e : i = a0.length := by omega
      subst e
      simp only [Int.lt_irrefl, decide_false, cond_false]
      have : v = a0 := by
        apply List.ext_getElem?
        intro j
        by_cases hj : j < a0.length
        · exact ht j hj
        · rw [List.getElem?_eq_none (by omega), List.getElem?_eq_none (by omega)]
      rw [this]
theorem toFrameS_eq {fl : Nat} {a0 : List F} (hl : a0.length ≤ 1048576) (hf : 1048576 < fl) : l_toFrameS fl a0 = some a0 := by
  unfold l_toFrameS
  rw [mkO_nat hl]
  simp only [obs]
  have := toFrameS_L0 (fl := fl) hl fl 0 (List.replicate a0.length ⟨false, ⟨0, 0⟩, 0, 0⟩) (by simp) (by omega) (by omega) (fun j hj => by omega)
  rw [show ((0 : Nat) : Int) = 0 from rfl] at this
  rw [this]; rfl
theorem toTable_eq {fl : Nat} {t : T} (hl : t.b.length + t.f.length ≤ 1048576) (hf : 1048576 < fl) : l_toTable fl t = some t := by
  unfold l_toTable
  rw [toIntS_eq (by omega) hf, toFrameS_eq (by omega) hf]; rfl

theorem eqIntS_L0 {fl : Nat} {l : List Int} (hl : l.length ≤ 1048576) : ∀ (fuel i : Nat), i ≤ l.length → l.length - i < fuel → l_eqIntS_L0 fl l l fuel i = some (.out (l.length : Int))
  | 0, i, _, h => by omega
  | fuel + 1, i, hi, hf => by
    unfold l_eqIntS_L0
    by_cases h : i < l.length
    · rw [decide_eq_true (by omega : (i : Int) < (l.length : Int)), cond_true, idx_nat h, ck_succ (by omega)]
      simp only [obs, bne_self_eq_false, cond_false]
      exact eqIntS_L0 hl fuel (i + 1) (by omega) (by omega)
    · have e : i = l.length := by omega
      subst e
      simp only [Int.lt_irrefl, decide_false, cond_false]
theorem eqIntS_self {fl : Nat} {l : List Int} (hl : l.length ≤ 1048576) (hf : 1048576 < fl) : l_eqIntS fl l l = some true := by
  unfold l_eqIntS
  have := eqIntS_L0 (fl := fl) hl fl 0 (by omega) (by omega)
  rw [show ((0 : Nat) : Int) = 0 from rfl] at this
  simp only [bne_self_eq_false, cond_false, this, obs]
theorem eqFrame_self {fl : Nat} (f : F) : l_eqFrame fl f f = some true := by simp [l_eqFrame, l_eqKey]
theorem eqFrameS_L0 {fl : Nat} {l : List F} (hl : l.length ≤ 1048576) : ∀ (fuel i : Nat), i ≤ l.length → l.length - i < fuel → l_eqFrameS_L0 fl l l fuel i = some (.out (l.length : Int))
  | 0, i, _, h => by omega
  | fuel + 1, i, hi, hf => by
    unfold l_eqFrameS_L0
    by_cases h : i < l.length
    · rw [decide_eq_true (by omega : (i : Int) < (l.length : Int)), cond_true, idx_nat h, ck_succ (by omega)]
      simp only [obs, eqFrame_self, Bool.not_true, cond_false]
      exact eqFrameS_L0 hl fuel (i + 1) (by omega) (by omega)
    · have e : i = l.length := by omega
      subst e
      simp only [Int.lt_irrefl, decide_false, cond_false]
theorem eqFrameS_self {fl : Nat} {l : List F} (hl : l.length ≤ 1048576) (hf : 1048576 < fl) : l_eqFrameS fl l l = some true := by
  unfold l_eqFrameS
  have := eqFrameS_L0 (fl := fl) hl fl 0 (by omega) (by omega)
  rw [show ((0 : Nat) : Int) = 0 from rfl] at this
  simp only [bne_self_eq_false, cond_false, this, obs]
theorem eqTable_self {fl : Nat} {t : T} (hl : t.b.length + t.f.length ≤ 1048576) (hf : 1048576 < fl) : l_eqTable fl t t = some true := by
  unfold l_eqTable
  rw [eqIntS_self (by omega) hf, eqFrameS_self (by omega) hf]; rfl

theorem markIntS_L0 {fl : Nat} {a0 : List Int} {s : Nat} (hs : s ≤ 1048576) (hl : a0.length ≤ 1048576) : ∀ (fuel i : Nat) (v : List Int), v.length = a0.length → i ≤ a0.length → a0.length - i < fuel → (∀ j, j < i → v[j]? = some ((s + j : Nat) : Int)) →
    ∃ m : List Int, l_markIntS_L0 fl a0 fuel v ((s + i : Nat) : Int) i = some (.out (m, ((s + a0.length : Nat) : Int), (a0.length : Int))) ∧ m.length = a0.length ∧ ∀ j, j < a0.length → m[j]? = some ((s + j : Nat) : Int)
  | 0, i, v, _, _, h, _ => by omega
  | fuel + 1, i, v, hv, hi, hf, ht => by
    unfold l_markIntS_L0
    by_cases h : i < a0.length
    · have h2 : i < v.length := by omega
      rw [decide_eq_true (by omega : (i : Int) < (a0.length : Int)), cond_true, idx_nat h2, ck_succ (by omega), ck_succ (by omega)]
      simp only [obs]
      refine markIntS_L0 hs hl fuel (i + 1) _ (by simp [hv]) (by omega) (by omega) fun j hj => ?_
      rw [Int.toNat_natCast, List.getElem?_set]
      split
      · rename_i e; subst e; simp [h2]
      · exact ht j (by omega)
    · have e : i = a0.length := by omega
      subst e
      simp only [Int.lt_irrefl, decide_false, cond_false]
      exact ⟨v, rfl, hv, ht⟩
theorem markIntS_eq {fl : Nat} {a0 : List Int} {s : Nat} (hs : s ≤ 1048576) (hl : a0.length ≤ 1048576) (hf : 1048576 < fl) :
    ∃ m : List Int, l_markIntS fl a0 s = some (((s + a0.length : Nat) : Int), m) ∧ m.length = a0.length ∧ ∀ j, j < a0.length → m[j]? = some ((s + j : Nat) : Int) := by
  obtain ⟨m, h1, h2, h3⟩ := markIntS_L0 (fl := fl) hs hl fl 0 a0 rfl (by omega) (by omega) (fun j hj => by omega)
  refine ⟨m, ?_, h2, h3⟩
  unfold l_markIntS
  simp only [Nat.add_zero, show ((0 : Nat) : Int) = 0 from rfl] at h1
  rw [h1]; rfl
theorem heldIntS_L0 {fl : Nat} {m : List Int} {s : Nat} (hs : s ≤ 1048576) (hl : m.length ≤ 1048576) (hm : ∀ j, j < m.length → m[j]? = some ((s + j : Nat) : Int)) : ∀ (fuel i : Nat), i ≤ m.length → m.length - i < fuel →
    l_heldIntS_L0 fl m fuel ((s + i : Nat) : Int) i = some (.out (((s + m.length : Nat) : Int), (m.length : Int)))
  | 0, i, _, h => by omega
  | fuel + 1, i, hi, hf => by
    unfold l_heldIntS_L0
    by_cases h : i < m.length
    · have e := hm i h
      rw [List.getElem?_eq_getElem h, Option.some.injEq] at e
      rw [decide_eq_true (by omega : (i : Int) < (m.length : Int)), cond_true, idx_nat h, ck_succ (by omega), ck_succ (by omega)]
      simp only [obs, e, bne_self_eq_false, cond_false]
      exact heldIntS_L0 hs hl hm fuel (i + 1) (by omega) (by omega)
    · have e : i = m.length := by omega
      subst e
      simp only [Int.lt_irrefl, decide_false, cond_false]
theorem heldIntS_eq {fl : Nat} {m : List Int} {s : Nat} (hs : s ≤ 1048576) (hl : m.length ≤ 1048576) (hm : ∀ j, j < m.length → m[j]? = some ((s + j : Nat) : Int)) (hf : 1048576 < fl) : l_heldIntS fl m s = some ((s + m.length : Nat) : Int) := by
  have h1 := heldIntS_L0 (fl := fl) hs hl hm fl 0 (by omega) (by omega)
  unfold l_heldIntS
  simp only [Nat.add_zero, show ((0 : Nat) : Int) = 0 from rfl] at h1
  rw [h1]; rfl

def mkF (c : Nat) : F := ⟨((c : Int).tmod 3 == 0), ⟨((c + 1 : Nat) : Int), ((c + 1 + 1 : Nat) : Int)⟩, ((c + 1 + 1 + 1 : Nat) : Int), ((c + 1 + 1 + 1 + 1 : Nat) : Int)⟩
theorem mkF_u (c : Nat) : (mkF c).u = ((c : Int).tmod 3 == 0) := by rw [mkF]
theorem mkF_s (c : Nat) : (mkF c).k.s = ((c + 1 : Nat) : Int) := by rw [mkF]
theorem mkF_p (c : Nat) : (mkF c).k.p = ((c + 1 + 1 : Nat) : Int) := by rw [mkF]
theorem mkF_r (c : Nat) : (mkF c).r = ((c + 1 + 1 + 1 : Nat) : Int) := by rw [mkF]
theorem mkF_n (c : Nat) : (mkF c).nx = ((c + 1 + 1 + 1 + 1 : Nat) : Int) := by rw [mkF]
theorem remO3 (c : Int) : remO c 3 = some (c.tmod 3) := by simp [remO]
theorem markFrameS_L0 {fl : Nat} {a0 : List F} {s : Nat} (hs : s ≤ 1048577) (hl : a0.length ≤ 1048576) : ∀ (fuel i : Nat) (v : List F), v.length = a0.length → i ≤ a0.length → a0.length - i < fuel → (∀ j, j < i → v[j]? = some (mkF (s + 5 * j))) →
    ∃ m : List F, l_markFrameS_L0 fl a0 fuel v ((s + 5 * i : Nat) : Int) i = some (.out (m, ((s + 5 * a0.length : Nat) : Int), (a0.length : Int))) ∧ m.length = a0.length ∧ ∀ j, j < a0.length → m[j]? = some (mkF (s + 5 * j)) := by
  intro fuel
  induction fuel with
  | zero => intro i v _ _ h _; omega
  | succ fuel ih =>
    intro i v hv hi hf ht
    rw [l_markFrameS_L0.eq_2]
    by_cases h : i < a0.length
    · have h2 : i < v.length := by omega
      rw [decide_eq_true (by omega : (i : Int) < (a0.length : Int)), cond_true, remO3, idx_nat h2, c1 (s + 5 * i) (by omega)]
      simp only [obs, Int.toNat_natCast]
      rw [idx_set_nat (by simpa using h2), c1 _ (by omega)]
      simp only [obs, Int.toNat_natCast]
      rw [idx_set_nat (by simpa using h2), c1 _ (by omega)]
      simp only [obs, Int.toNat_natCast]
      rw [idx_set_nat (by simpa using h2), c1 _ (by omega)]
      simp only [obs, Int.toNat_natCast]
      rw [idx_set_nat (by simpa using h2), c1 _ (by omega), c1 i (by omega)]
      simp only [obs, Int.toNat_natCast]
      have e5 : s + 5 * i + 1 + 1 + 1 + 1 + 1 = s + 5 * (i + 1) := by omega
      rw [e5]
      refine ih (i + 1) _ (by simp [hv]) (by omega) (by omega) fun j hj => ?_
      rw [List.getElem?_set]
      split
      · rename_i e; subst e; simp [h2, mkF]
      · rename_i e
        have hj' : j < i := by omega
        simp only [List.getElem?_set, e, if_false]
        exact ht j hj'
    · have e : i = a0.length := by omega
      subst e
      simp only [Int.lt_irrefl, decide_false, cond_false]
      exact ⟨v, rfl, hv, ht⟩
theorem markFrameS_eq {fl : Nat} {a0 : List F} {s : Nat} (hs : s ≤ 1048577) (hl : a0.length ≤ 1048576) (hf : 1048576 < fl) :
    ∃ m : List F, l_markFrameS fl a0 s = some (((s + 5 * a0.length : Nat) : Int), m) ∧ m.length = a0.length ∧ ∀ j, j < a0.length → m[j]? = some (mkF (s + 5 * j)) := by
  obtain ⟨m, h1, h2, h3⟩ := markFrameS_L0 (fl := fl) hs hl fl 0 a0 rfl (by omega) (by omega) (fun j hj => by omega)
  refine ⟨m, ?_, h2, h3⟩
  unfold l_markFrameS
  simp only [Nat.mul_zero, Nat.add_zero, show ((0 : Nat) : Int) = 0 from rfl] at h1
  rw [h1]; rfl
theorem heldFrameS_L0 {fl : Nat} {m : List F} {s : Nat} (hs : s ≤ 1048577) (hl : m.length ≤ 1048576) (hm : ∀ j, j < m.length → m[j]? = some (mkF (s + 5 * j))) : ∀ (fuel i : Nat), i ≤ m.length → m.length - i < fuel →
    l_heldFrameS_L0 fl m fuel ((s + 5 * i : Nat) : Int) i = some (.out (((s + 5 * m.length : Nat) : Int), (m.length : Int))) := by
  intro fuel
  induction fuel with
  | zero => intro i _ h; omega
  | succ fuel ih =>
    intro i hi hf
    rw [l_heldFrameS_L0.eq_2]
    by_cases h : i < m.length
    · have e := hm i h
      rw [List.getElem?_eq_getElem h, Option.some.injEq] at e
      rw [decide_eq_true (by omega : (i : Int) < (m.length : Int)), cond_true, remO3, idx_nat h, c1 (s + 5 * i) (by omega)]
      simp only [obs, e, mkF_u, mkF_s, mkF_p, mkF_r, mkF_n, bne_self_eq_false, cof]
      rw [c1 _ (by omega)]
      simp only [obs, bne_self_eq_false, cof]
      rw [c1 _ (by omega)]
      simp only [obs, bne_self_eq_false, cof]
      rw [c1 _ (by omega)]
      simp only [obs, bne_self_eq_false, cof]
      rw [c1 _ (by omega), c1 i (by omega)]
      simp only [obs, bne_self_eq_false, cof]
      have e5 : s + 5 * i + 1 + 1 + 1 + 1 + 1 = s + 5 * (i + 1) := by omega
      rw [e5]
      exact ih (i + 1) (by omega) (by omega)
    · have e : i = m.length := by omega
      subst e
      simp only [Int.lt_irrefl, decide_false, cof]
theorem heldFrameS_eq {fl : Nat} {m : List F} {s : Nat} (hs : s ≤ 1048577) (hl : m.length ≤ 1048576) (hm : ∀ j, j < m.length → m[j]? = some (mkF (s + 5 * j))) (hf : 1048576 < fl) : l_heldFrameS fl m s = some ((s + 5 * m.length : Nat) : Int) := by
  have h1 := heldFrameS_L0 (fl := fl) hs hl hm fl 0 (by omega) (by omega)
  unfold l_heldFrameS
  simp only [Nat.mul_zero, Nat.add_zero, show ((0 : Nat) : Int) = 0 from rfl] at h1
  rw [h1]; rfl
end Go.Proofs.YtbgodaeccgjdgaaGreatDoor
