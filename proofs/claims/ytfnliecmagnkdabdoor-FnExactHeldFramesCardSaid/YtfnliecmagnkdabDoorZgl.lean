/- The plain laws that exactHeldFrames_true rests on. -/
import Derived.Test.YtfnliecmagnkdabDoorBp
import Derived.Test.YtfnliecmagnkdabDoorPure2
import Derived.Test.YtfnliecmagnkdabDoorCpy
set_option linter.unusedSimpArgs false
set_option linter.unusedVariables false
namespace Go.Proofs.YtfnliecmagnkdabDoor
open Go.RowKit
variable {fl : Nat}
theorem obs {α β : Type} {x : α} {f : α → Option β} : Option.bind (some x) f = f x := by rw [Option.bind_some]
theorem cof {α : Type} {x y : α} : cond false x y = y := by rw [cond_false]
theorem cot {α : Type} {x y : α} : cond true x y = x := by rw [cond_true]
theorem idx_set_nat {α : Type} {l : List α} {i : Nat} {x : α} (h : i < l.length) : idx (l.set i x) (i : Int) = some x := by
  rw [idx_nat (by simpa using h)]; simp
theorem c1 (n : Nat) (h : n ≤ 16777216) : ck ((n : Int) + 1) = some ((n + 1 : Nat) : Int) := by rw [ck_in (by omega)]; rfl
theorem ck_succ {n : Nat} (h : n ≤ 2097152) : ck ((n : Int) + 1) = some ((n + 1 : Nat) : Int) := by rw [ck_in (by omega)]; rfl

theorem toIntS_L0 {fl : Nat} {a0 : List Int} (hl : a0.length ≤ 1048576) : ∀ (fuel i : Nat) (v : List Int), v.length = a0.length → i ≤ a0.length → a0.length - i < fuel → (∀ j, j < i → v[j]? = a0[j]?) → l_toIntS_L0 fl a0 fuel v i = some (.out (a0, (a0.length : Int)))
  | 0, i, v, _, _, h, _ => by omega
  | fuel + 1, i, v, hv, hi, hf, ht => by
    unfold l_toIntS_L0
    by_cases h : i < a0.length
    · have h2 : i < v.length := by omega
      rw [decide_eq_true (by omega : (i : Int) < (a0.length : Int)), cond_true, idx_nat h, idx_nat h2, ck_succ (by omega)]
      simp only [obs]
      refine toIntS_L0 hl fuel (i + 1) _ (by simp [hv]) (by omega) (by omega) fun j hj => ?_
      rw [Int.toNat_natCast, List.getElem?_set]
      split
      · rename_i e; subst e; simp [h2, h]
      · exact ht j (by omega)
    · have e : i = a0.length := by omega
      subst e
      simp only [Int.lt_irrefl, decide_false, cond_false]
      have : v = a0 := by
        apply List.ext_getElem?
        intro j
        by_cases hj : j < a0.length
        · exact ht j hj
        · rw [List.getElem?_eq_none (by omega), List.getElem?_eq_none (by omega)]
      rw [this]
theorem mkO_nat {n : Nat} (h : n ≤ 1048576) : mkO (n : Int) = some n := by
  unfold mkO; rw [if_pos (by simp [maxLen]; omega)]; simp
theorem toIntS_eq {fl : Nat} {a0 : List Int} (hl : a0.length ≤ 1048576) (hf : 1048576 < fl) : l_toIntS fl a0 = some a0 := by
  unfold l_toIntS
  rw [mkO_nat hl]
  simp only [obs]
  have := toIntS_L0 (fl := fl) hl fl 0 (List.replicate a0.length 0) (by simp) (by omega) (by omega) (fun j hj => by omega)
  rw [show ((0 : Nat) : Int) = 0 from rfl] at this
  rw [this]; rfl
theorem toFrameS_L0 {fl : Nat} {a0 : List F} (hl : a0.length ≤ 1048576) : ∀ (fuel i : Nat) (v : List F), v.length = a0.length → i ≤ a0.length → a0.length - i < fuel → (∀ j, j < i → v[j]? = a0[j]?) → l_toFrameS_L0 fl a0 fuel v i = some (.out (a0, (a0.length : Int)))
  | 0, i, v, _, _, h, _ => by omega
  | fuel + 1, i, v, hv, hi, hf, ht => by
    unfold l_toFrameS_L0
    by_cases h : i < a0.length
    · have h2 : i < v.length := by omega
      rw [decide_eq_true (by omega : (i : Int) < (a0.length : Int)), cond_true, idx_nat h, idx_nat h2, ck_succ (by omega)]
      simp only [obs, l_toFrame, l_toKey]
      refine toFrameS_L0 hl fuel (i + 1) _ (by simp [hv]) (by omega) (by omega) fun j hj => ?_
      rw [Int.toNat_natCast, List.getElem?_set]
      split
      · rename_i e; subst e; simp [h2, h]
      · exact ht j (by omega)
    · have e : i = a0.length := by omega
      subst e
      simp only [Int.lt_irrefl, decide_false, cond_false]
      have : v = a0 := by
        apply List.ext_getElem?
        intro j
        by_cases hj : j < a0.length
        · exact ht j hj
        · rw [List.getElem?_eq_none (by omega), List.getElem?_eq_none (by omega)]
      rw [this]
theorem toFrameS_eq {fl : Nat} {a0 : List F} (hl : a0.length ≤ 1048576) (hf : 1048576 < fl) : l_toFrameS fl a0 = some a0 := by
  unfold l_toFrameS
  rw [mkO_nat hl]
  simp only [obs]
  have := toFrameS_L0 (fl := fl) hl fl 0 (List.replicate a0.length ⟨false, ⟨0, 0⟩, 0, 0⟩) (by simp) (by omega) (by omega) (fun j hj => by omega)
  rw [show ((0 : Nat) : Int) = 0 from rfl] at this
  rw [this]; rfl
theorem toTable_eq {fl : Nat} {t : T} (hl : t.b.length + t.f.length ≤ 1048576) (hf : 1048576 < fl) : l_toTable fl t = some t := by
  unfold l_toTable
  rw [toIntS_eq (by omega) hf, toFrameS_eq (by omega) hf]; rfl

theorem eqIntS_L0 {fl : Nat} {l : List Int} (hl : l.length ≤ 1048576) : ∀ (fuel i : Nat), i ≤ l.length → l.length - i < fuel → l_eqIntS_L0 fl l l fuel i = some (.out (l.length : Int))
  | 0, i, _, h => by omega
  | fuel + 1, i, hi, hf => by
    unfold l_eqIntS_L0
    by_cases h : i < l.length
    · rw [decide_eq_true (by omega : (i : Int) < (l.length : Int)), cond_true, idx_nat h, ck_succ (by omega)]
      simp only [obs, bne_self_eq_false, cond_false]
      exact eqIntS_L0 hl fuel (i + 1) (by omega) (by omega)
    · have e : i = l.length := by omega
      subst e
      simp only [Int.lt_irrefl, decide_false, cond_false]
theorem eqIntS_self {fl : Nat} {l : List Int} (hl : l.length ≤ 1048576) (hf : 1048576 < fl) : l_eqIntS fl l l = some true := by
  unfold l_eqIntS
  have := eqIntS_L0 (fl := fl) hl fl 0 (by omega) (by omega)
  rw [show ((0 : Nat) : Int) = 0 from rfl] at this
  simp only [bne_self_eq_false, cond_false, this, obs]
theorem eqFrame_self {fl : Nat} (f : F) : l_eqFrame fl f f = some true := by simp [l_eqFrame, l_eqKey]
theorem eqFrameS_L0 {fl : Nat} {l : List F} (hl : l.length ≤ 1048576) : ∀ (fuel i : Nat), i ≤ l.length → l.length - i < fuel → l_eqFrameS_L0 fl l l fuel i = some (.out (l.length : Int))
  | 0, i, _, h => by omega
  | fuel + 1, i, hi, hf => by
    unfold l_eqFrameS_L0
    by_cases h : i < l.length
    · rw [decide_eq_true (by omega : (i : Int) < (l.length : Int)), cond_true, idx_nat h, ck_succ (by omega)]
      simp only [obs, eqFrame_self, Bool.not_true, cond_false]
      exact eqFrameS_L0 hl fuel (i + 1) (by omega) (by omega)
    · have e : i = l.length := by omega
      subst e
      simp only [Int.lt_irrefl, decide_false, cond_false]
theorem eqFrameS_self {fl : Nat} {l : List F} (hl : l.length ≤ 1048576) (hf : 1048576 < fl) : l_eqFrameS fl l l = some true := by
  unfold l_eqFrameS
  have := eqFrameS_L0 (fl := fl) hl fl 0 (by omega) (by omega)
  rw [show ((0 : Nat) : Int) = 0 from rfl] at this
  simp only [bne_self_eq_false, cond_false, this, obs]
theorem eqTable_self {fl : Nat} {t : T} (hl : t.b.length + t.f.length ≤ 1048576) (hf : 1048576 < fl) : l_eqTable fl t t = some true := by
  unfold l_eqTable
  rw [eqIntS_self (by omega) hf, eqFrameS_self (by omega) hf]; rfl

theorem markIntS_L0 {fl : Nat} {a0 : List Int} {s : Nat} (hs : s ≤ 1048576) (hl : a0.length ≤ 1048576) : ∀ (fuel i : Nat) (v : List Int), v.length = a0.length → i ≤ a0.length → a0.length - i < fuel → (∀ j, j < i → v[j]? = some ((s + j : Nat) : Int)) →
    ∃ m : List Int, l_markIntS_L0 fl a0 fuel v ((s + i : Nat) : Int) i = some (.out (m, ((s + a0.length : Nat) : Int), (a0.length : Int))) ∧ m.length = a0.length ∧ ∀ j, j < a0.length → m[j]? = some ((s + j : Nat) : Int)
  | 0, i, v, _, _, h, _ => by omega
  | fuel + 1, i, v, hv, hi, hf, ht => by
    unfold l_markIntS_L0
    by_cases h : i < a0.length
    · have h2 : i < v.length := by omega
      rw [decide_eq_true (by omega : (i : Int) < (a0.length : Int)), cond_true, idx_nat h2, ck_succ (by omega), ck_succ (by omega)]
      simp only [obs]
      refine markIntS_L0 hs hl fuel (i + 1) _ (by simp [hv]) (by omega) (by omega) fun j hj => ?_
      rw [Int.toNat_natCast, List.getElem?_set]
      split
      · rename_i e; subst e; simp [h2]
      · exact ht j (by omega)
    · have e : i = a0.length := by omega
      subst e
      simp only [Int.lt_irrefl, decide_false, cond_false]
      exact ⟨v, rfl, hv, ht⟩
theorem markIntS_eq {fl : Nat} {a0 : List Int} {s : Nat} (hs : s ≤ 1048576) (hl : a0.length ≤ 1048576) (hf : 1048576 < fl) :
    ∃ m : List Int, l_markIntS fl a0 s = some (((s + a0.length : Nat) : Int), m) ∧ m.length = a0.length ∧ ∀ j, j < a0.length → m[j]? = some ((s + j : Nat) : Int) := by
  obtain ⟨m, h1, h2, h3⟩ := markIntS_L0 (fl := fl) hs hl fl 0 a0 rfl (by omega) (by omega) (fun j hj => by omega)
  refine ⟨m, ?_, h2, h3⟩
  unfold l_markIntS
  simp only [Nat.add_zero, show ((0 : Nat) : Int) = 0 from rfl] at h1
  rw [h1]; rfl
theorem heldIntS_L0 {fl : Nat} {m : List Int} {s : Nat} (hs : s ≤ 1048576) (hl : m.length ≤ 1048576) (hm : ∀ j, j < m.length → m[j]? = some ((s + j : Nat) : Int)) : ∀ (fuel i : Nat), i ≤ m.length → m.length - i < fuel →
    l_heldIntS_L0 fl m fuel ((s + i : Nat) : Int) i = some (.out (((s + m.length : Nat) : Int), (m.length : Int)))
  | 0, i, _, h => by omega
  | fuel + 1, i, hi, hf => by
    unfold l_heldIntS_L0
    by_cases h : i < m.length
    · have e := hm i h
      rw [List.getElem?_eq_getElem h, Option.some.injEq] at e
      rw [decide_eq_true (by omega : (i : Int) < (m.length : Int)), cond_true, idx_nat h, ck_succ (by omega), ck_succ (by omega)]
      simp only [obs, e, bne_self_eq_false, cond_false]
      exact heldIntS_L0 hs hl hm fuel (i + 1) (by omega) (by omega)
    · have e : i = m.length := by omega
      subst e
      simp only [Int.lt_irrefl, decide_false, cond_false]
theorem heldIntS_eq {fl : Nat} {m : List Int} {s : Nat} (hs : s ≤ 1048576) (hl : m.length ≤ 1048576) (hm : ∀ j, j < m.length → m[j]? = some ((s + j : Nat) : Int)) (hf : 1048576 < fl) : l_heldIntS fl m s = some ((s + m.length : Nat) : Int) := by
  have h1 := heldIntS_L0 (fl := fl) hs hl hm fl 0 (by omega) (by omega)
  unfold l_heldIntS
  simp only [Nat.add_zero, show ((0 : Nat) : Int) = 0 from rfl] at h1
  rw [h1]; rfl

def mkF (c : Nat) : F := ⟨((c : Int).tmod 3 == 0), ⟨((c + 1 : Nat) : Int), ((c + 1 + 1 : Nat) : Int)⟩, ((c + 1 + 1 + 1 : Nat) : Int), ((c + 1 + 1 + 1 + 1 : Nat) : Int)⟩
theorem mkF_u (c : Nat) : (mkF c).u = ((c : Int).tmod 3 == 0) := by rw [mkF]
theorem mkF_s (c : Nat) : (mkF c).k.s = ((c + 1 : Nat) : Int) := by rw [mkF]
theorem mkF_p (c : Nat) : (mkF c).k.p = ((c + 1 + 1 : Nat) : Int) := by rw [mkF]
theorem mkF_r (c : Nat) : (mkF c).r = ((c + 1 + 1 + 1 : Nat) : Int) := by rw [mkF]
theorem mkF_n (c : Nat) : (mkF c).nx = ((c + 1 + 1 + 1 + 1 : Nat) : Int) := by rw [mkF]
theorem remO3 (c : Int) : remO c 3 = some (c.tmod 3) := by simp [remO]
theorem markFrameS_L0 {fl : Nat} {a0 : List F} {s : Nat} (hs : s ≤ 1048577) (hl : a0.length ≤ 1048576) : ∀ (fuel i : Nat) (v : List F), v.length = a0.length → i ≤ a0.length → a0.length - i < fuel → (∀ j, j < i → v[j]? = some (mkF (s + 5 * j))) →
    ∃ m : List F, l_markFrameS_L0 fl a0 fuel v ((s + 5 * i : Nat) : Int) i = some (.out (m, ((s + 5 * a0.length : Nat) : Int), (a0.length : Int))) ∧ m.length = a0.length ∧ ∀ j, j < a0.length → m[j]? = some (mkF (s + 5 * j)) := by
  intro fuel
  induction fuel with
  | zero => intro i v _ _ h _; omega
  | succ fuel ih =>
    intro i v hv hi hf ht
    rw [l_markFrameS_L0.eq_2]
    by_cases h : i < a0.length
    · have h2 : i < v.length := by omega
      rw [decide_eq_true (by omega : (i : Int) < (a0.length : Int)), cond_true, remO3, idx_nat h2, c1 (s + 5 * i) (by omega)]
      simp only [obs, Int.toNat_natCast]
      rw [idx_set_nat (by simpa using h2), c1 _ (by omega)]
      simp only [obs, Int.toNat_natCast]
      rw [idx_set_nat (by simpa using h2), c1 _ (by omega)]
      simp only [obs, Int.toNat_natCast]
      rw [idx_set_nat (by simpa using h2), c1 _ (by omega)]
      simp only [obs, Int.toNat_natCast]
      rw [idx_set_nat (by simpa using h2), c1 _ (by omega), c1 i (by omega)]
      simp only [obs, Int.toNat_natCast]
      have e5 : s + 5 * i + 1 + 1 + 1 + 1 + 1 = s + 5 * (i + 1) := by omega
      rw [e5]
      refine ih (i + 1) _ (by simp [hv]) (by omega) (by omega) fun j hj => ?_
      rw [List.getElem?_set]
      split
      · rename_i e; subst e; simp [h2, mkF]
      · rename_i e
        have hj' : j < i := by omega
        simp only [List.getElem?_set, e, if_false]
        exact ht j hj'
    · have e : i = a0.length := by omega
      subst e
      simp only [Int.lt_irrefl, decide_false, cond_false]
      exact ⟨v, rfl, hv, ht⟩
theorem markFrameS_eq {fl : Nat} {a0 : List F} {s : Nat} (hs : s ≤ 1048577) (hl : a0.length ≤ 1048576) (hf : 1048576 < fl) :
    ∃ m : List F, l_markFrameS fl a0 s = some (((s + 5 * a0.length : Nat) : Int), m) ∧ m.length = a0.length ∧ ∀ j, j < a0.length → m[j]? = some (mkF (s + 5 * j)) := by
  obtain ⟨m, h1, h2, h3⟩ := markFrameS_L0 (fl := fl) hs hl fl 0 a0 rfl (by omega) (by omega) (fun j hj => by omega)
  refine ⟨m, ?_, h2, h3⟩
  unfold l_markFrameS
  simp only [Nat.mul_zero, Nat.add_zero, show ((0 : Nat) : Int) = 0 from rfl] at h1
  rw [h1]; rfl
theorem heldFrameS_L0 {fl : Nat} {m : List F} {s : Nat} (hs : s ≤ 1048577) (hl : m.length ≤ 1048576) (hm : ∀ j, j < m.length → m[j]? = some (mkF (s + 5 * j))) : ∀ (fuel i : Nat), i ≤ m.length → m.length - i < fuel →
    l_heldFrameS_L0 fl m fuel ((s + 5 * i : Nat) : Int) i = some (.out (((s + 5 * m.length : Nat) : Int), (m.length : Int))) := by
  intro fuel
  induction fuel with
  | zero => intro i _ h; omega
  | succ fuel ih =>
    intro i hi hf
    rw [l_heldFrameS_L0.eq_2]
    by_cases h : i < m.length
    · have e := hm i h
      rw [List.getElem?_eq_getElem h, Option.some.injEq] at e
      rw [decide_eq_true (by omega : (i : Int) < (m.length : Int)), cond_true, remO3, idx_nat h, c1 (s + 5 * i) (by omega)]
      simp only [obs, e, mkF_u, mkF_s, mkF_p, mkF_r, mkF_n, bne_self_eq_false, cof]
      rw [c1 _ (by omega)]
      simp only [obs, bne_self_eq_false, cof]
      rw [c1 _ (by omega)]
      simp only [obs, bne_self_eq_false, cof]
      rw [c1 _ (by omega)]
      simp only [obs, bne_self_eq_false, cof]
      rw [c1 _ (by omega), c1 i (by omega)]
      simp only [obs, bne_self_eq_false, cof]
      have e5 : s + 5 * i + 1 + 1 + 1 + 1 + 1 = s + 5 * (i + 1) := by omega
      rw [e5]
      exact ih (i + 1) (by omega) (by omega)
    · have e : i = m.length := by omega
      subst e
      simp only [Int.lt_irrefl, decide_false, cof]
theorem heldFrameS_eq {fl : Nat} {m : List F} {s : Nat} (hs : s ≤ 1048577) (hl : m.length ≤ 1048576) (hm : ∀ j, j < m.length → m[j]? = some (mkF (s + 5 * j))) (hf : 1048576 < fl) : l_heldFrameS fl m s = some ((s + 5 * m.length : Nat) : Int) := by
  have h1 := heldFrameS_L0 (fl := fl) hs hl hm fl 0 (by omega) (by omega)
  unfold l_heldFrameS
  simp only [Nat.mul_zero, Nat.add_zero, show ((0 : Nat) : Int) = 0 from rfl] at h1
  rw [h1]; rfl

theorem within_eq (a b : Int) : i_within fl a b = some (within a b) := by
  unfold i_within within; cases decide (0 ≤ a) <;> rfl
theorem iKey_eq (k : K) : i_KeyValid fl k = some (keyOk k) := by
  unfold i_KeyValid keyOk; rw [within_eq, within_eq]; cases within k.s 16 <;> rfl
theorem sKey_eq (k : K) : s_KeyValid fl k = some (keyOk k) := by
  unfold s_KeyValid keyOk s_l1Space s_l1Page within
  cases decide (0 ≤ k.s) <;> cases decide (k.s < 16) <;> cases decide (0 ≤ k.p) <;> rfl
theorem hash_bd {k : K} (hk : keyOk k = true) : 0 ≤ k.s * 256 ∧ k.s * 256 ≤ 3840 ∧ 0 ≤ k.s * 256 + k.p ∧ k.s * 256 + k.p ≤ 4095 := by
  rw [keyOk_iff] at hk; omega
theorem sHash_eq {k : K} {n : Int} (hk : keyOk k = true) (h1 : 1 ≤ n) (h2 : n ≤ 16) : s_l2Hash fl k n = some (hashI k n) := by
  obtain ⟨b1, b2, b3, b4⟩ := hash_bd hk
  unfold s_l2Hash hashI
  generalize hz : k.s * 256 + k.p = z at *
  rw [ck_in (by omega)]; simp only [obs]
  rw [hz, ck_in (by omega)]; simp only [obs]
  rw [ck_in (by omega)]; simp only [obs]
  have e1 : remO (z * 2654435761) 4294967296 = some (z * 2654435761 % 4294967296) := by
    unfold remO; rw [if_neg (by decide), Int.tmod_eq_emod_of_nonneg (by omega)]
  rw [e1]; simp only [obs]
  generalize hy : z * 2654435761 % 4294967296 = y
  have y1 : 0 ≤ y ∧ y < 4294967296 := by omega
  have y2 : 0 ≤ y * n := Int.mul_nonneg y1.1 (by omega)
  have y3 : y * n ≤ 4294967296 * 16 := Int.mul_le_mul (by omega) h2 (by omega) (by omega)
  rw [ck_in (by omega)]; simp only [obs]
  have e2 : quoO (y * n) 4294967296 = some (y * n / 4294967296) := by
    unfold quoO; rw [if_neg (by decide), Int.tdiv_eq_ediv_of_nonneg y2, ck_in (by omega)]
  rw [e2]; simp only [obs]
/-! ### copies -/
/-! ### the place of a key -/
theorem find1_eq (f : F) (k : K) : i_Table_find_1 fl f k = some (hasKey k f) := by
  unfold i_Table_find_1 hasKey
  rw [show (f.k == k) = decide (f.k = k) from rfl]
  cases f.u <;> simp
theorem indexFind_L0 {l : List F} {k : K} (hl : l.length ≤ 1048576) : ∀ (fuel i : Nat), i ≤ l.length → l.length - i < fuel → (∀ j, (h : j < l.length) → j < i → hasKey k l[j] = false) →
    (slices_IndexFunc_Frame_of_i_Table_find_1_L0 fl l k fuel i = some (.ret (findF l k))) ∨ (slices_IndexFunc_Frame_of_i_Table_find_1_L0 fl l k fuel i = some (.out (l.length : Int)) ∧ findF l k = -1) := by
  intro fuel
  induction fuel with
  | zero => intro i _ h _; omega
  | succ fuel ih =>
    intro i hi hf ht
    rw [slices_IndexFunc_Frame_of_i_Table_find_1_L0.eq_2]
    by_cases h : i < l.length
    · rw [decide_eq_true (by omega : (i : Int) < (l.length : Int)), cot, idx_nat h]
      simp only [obs, find1_eq]
      cases hk : hasKey k l[i] with
      | true => left; rw [cot, findF_some h hk (fun j hj => ht j (by omega) hj)]
      | false =>
        rw [cof, ck_succ (by omega)]
        simp only [obs]
        refine ih (i + 1) (by omega) (by omega) fun j hj hji => ?_
        by_cases e : j = i
        · subst e; exact hk
        · exact ht j hj (by omega)
    · have e : i = l.length := by omega
      subst e
      right
      simp only [Int.lt_irrefl, decide_false, cof]
      exact ⟨trivial, findF_none fun j hj => ht j hj hj⟩
theorem find_eq {t : T} {k : K} (hl : t.f.length ≤ 1048576) (hf : 1048576 < fl) : i_Table_find fl t k = some (findF t.f k) := by
  unfold i_Table_find slices_IndexFunc_Frame_of_i_Table_find_1
  rcases indexFind_L0 (fl := fl) (l := t.f) (k := k) hl fl 0 (by omega) (by omega) (fun j _ hj => by omega) with h | ⟨h, e⟩
  · rw [show ((0 : Nat) : Int) = 0 from rfl] at h
    rw [h]; simp only [obs]
  · rw [show ((0 : Nat) : Int) = 0 from rfl] at h
    rw [h]; simp only [obs, e]

/-! ### a chain -/
theorem chain_L0 {t : T} {b : Nat} (hl : t.f.length ≤ 1048576) : ∀ (fuel : Nat) (L : List Int) (i : Int), L.length ≤ t.f.length → t.f.length - L.length < fuel → PathL t b L i →
    s_l3Chain_L0 fl t fuel L i = some (.ret (chainL t b)) ∧ (chainL t b).2 = false ∨ s_l3Chain_L0 fl t fuel L i = some (.out ((chainL t b).1, -1)) ∧ (chainL t b).2 = true := by
  intro fuel
  induction fuel with
  | zero => intro L i _ h _; omega
  | succ fuel ih =>
    intro L i hL hf hp
    rw [s_l3Chain_L0.eq_2]
    by_cases h1 : i = -1
    · subst h1
      right
      rw [hp.fin]
      simp
    · rw [show (i != -1) = true from by simpa using h1, cot]
      by_cases h2 : i < 0
      · left
        rw [decide_eq_true h2]
        simp only [cot, obs]
        rw [hp.out h1 (fun j e => by omega)]
        exact ⟨rfl, rfl⟩
      rw [decide_eq_false h2]
      simp only [cof, obs]
      by_cases h3 : (t.f.length : Int) ≤ i
      · left
        rw [decide_eq_true h3]
        simp only [cot, obs]
        rw [hp.out h1 (fun j e hj => by omega)]
        exact ⟨rfl, rfl⟩
      rw [decide_eq_false h3]
      simp only [cof, obs]
      by_cases h4 : (t.f.length : Int) ≤ (L.length : Int)
      · left
        rw [decide_eq_true h4]
        simp only [cot, obs]
        rw [hp.full h1 (by omega)]
        exact ⟨rfl, rfl⟩
      rw [decide_eq_false h4]
      simp only [cof, obs]
      obtain ⟨j, rfl⟩ : ∃ j : Nat, i = j := ⟨i.toNat, by omega⟩
      have hj : j < t.f.length := by omega
      rw [idx_nat hj]
      simp only [obs]
      cases hu : t.f[j].u with
      | false =>
        left
        simp only [Bool.not_false, cot]
        rw [hp.out h1 (fun j' e hj' hu' => by
          have : j' = j := by omega
          subst this
          rw [hu] at hu'; cases hu')]
        exact ⟨rfl, rfl⟩
      | true =>
        simp only [Bool.not_true, cof]
        rw [cnt_in (by simp; omega)]
        simp only [obs]
        exact ih _ _ (by simp; omega) (by simp; omega) (hp.step (by omega) hj hu)
theorem chain_eq {t : T} {b : Nat} (hb : b < t.b.length) (hl : t.f.length ≤ 1048576) (hf : 1048576 < fl) : s_l3Chain fl t (b : Int) = some (chainL t b) := by
  unfold s_l3Chain
  rw [idx_nat hb]
  simp only [obs]
  rcases chain_L0 (fl := fl) hl fl [] t.b[b] (by simp) (by simp; omega) (PathL.start hb) with ⟨h, e⟩ | ⟨h, e⟩
  · rw [h]; simp only [obs]
  · rw [h]; simp only [obs, ← e]

theorem sFind_L0 {t : T} {k : K} (ht : TOk t) (x4 : List Int × Bool) (hm : ∀ x ∈ x4.1, ∃ j : Nat, x = j ∧ ∃ h : j < t.f.length, t.f[j].u = true) (hl : x4.1.length ≤ 1048576) : ∀ (fuel i : Nat), i ≤ x4.1.length → x4.1.length - i < fuel → (∀ j, (h : j < x4.1.length) → j < i → ∀ h : (x4.1[j]).toNat < t.f.length, t.f[(x4.1[j]).toNat].k ≠ k) →
    (∃ s, s_l3Find_L0 fl t k x4 fuel i = some (.ret (findF t.f k, s))) ∨ (s_l3Find_L0 fl t k x4 fuel i = some (.out (x4.1.length : Int)) ∧ ∀ x ∈ x4.1, ∀ h : x.toNat < t.f.length, t.f[x.toNat].k ≠ k) := by
  intro fuel
  induction fuel with
  | zero => intro i _ h _; omega
  | succ fuel ih =>
    intro i hi hf hn
    rw [s_l3Find_L0.eq_2]
    by_cases h : i < x4.1.length
    · obtain ⟨j, e, hj, hu⟩ := hm x4.1[i] (List.getElem_mem h)
      rw [decide_eq_true (by omega : (i : Int) < (x4.1.length : Int)), cot, idx_nat h]
      simp only [obs, e]
      rw [idx_nat hj]
      simp only [obs]
      by_cases hk : t.f[j].k = k
      · left
        rw [show (t.f[j].k == k) = true from by simpa using hk, cot, ck_succ (by omega)]
        simp only [obs]
        rw [find_at ht.ks hj hu hk]
        exact ⟨_, rfl⟩
      · rw [show (t.f[j].k == k) = false from by simpa using hk, cof, ck_succ (by omega)]
        simp only [obs]
        refine ih (i + 1) (by omega) (by omega) fun j' hj' hlt hb => ?_
        by_cases e' : j' = i
        · subst e'
          have e2 : x4.1[j'].toNat = j := by rw [e]; simp
          simp only [e2]
          exact hk
        · exact hn j' hj' (by omega) hb
    · have e : i = x4.1.length := by omega
      subst e
      right
      simp only [Int.lt_irrefl, decide_false, cof]
      refine ⟨trivial, fun x hx hb => ?_⟩
      obtain ⟨j, hj, rfl⟩ := List.getElem_of_mem hx
      exact hn j hj hj hb
theorem sFind_eq {t : T} {k : K} (ht : TOk t) (hk : keyOk k = true) (hf : 1048576 < fl) : ∃ s, s_l3Find fl t k = some (findF t.f k, s) := by
  have h1 := ht.f1
  have h2 := ht.f2
  have h3 := ht.b1
  have h4 := ht.b2
  obtain ⟨hb, he⟩ := bucketT_lt hk h3 h4
  unfold s_l3Find
  rw [sHash_eq hk (by omega) (by omega)]
  simp only [obs, he]
  rw [chain_eq hb (by omega) hf]
  simp only [obs]
  have hlen := chainL_len (t := t) (b := bucketT t k)
  rcases sFind_L0 (fl := fl) (k := k) ht (chainL t (bucketT t k)) chainL_mem (by omega) fl 0 (by omega) (by omega) (fun j _ hj => by omega) with ⟨s, h⟩ | ⟨h, hn⟩
  · rw [show ((0 : Nat) : Int) = 0 from rfl] at h
    rw [h]; simp only [obs]
    exact ⟨s, rfl⟩
  · rw [show ((0 : Nat) : Int) = 0 from rfl] at h
    rw [h]; simp only [obs]
    rw [ht.none hb (L := (chainL t (bucketT t k)).1) (ok := (chainL t (bucketT t k)).2) rfl hn]
    exact ⟨_, rfl⟩











theorem takeO_nat {α : Type} {l : List α} {i : Nat} (h : i ≤ l.length) : takeO l (i : Int) = some (l.take i) := by
  unfold takeO; rw [if_pos (by omega)]; simp
/-! ### a new table -/



/-! ### notes -/
def nt0 : Nt := ⟨⟨0, 0⟩, 0⟩
def hasN (k : K) (x : Nt) : Bool := decide (x.k = k)
def noteF (l : List Nt) (k : K) : Int := match l.findIdx? (hasN k) with | some i => (i : Int) | none => -1
def kset (l : List Nt) : List K := l.map (·.k)
theorem noteF_spec (l : List Nt) (k : K) : (noteF l k = -1 ∧ ∀ x ∈ l, x.k ≠ k) ∨ ∃ i, ∃ h : i < l.length, noteF l k = (i : Int) ∧ l[i].k = k ∧ ∀ j, (hj : j < i) → (l[j]'(by omega)).k ≠ k := by
  cases h : l.findIdx? (hasN k) with
  | none =>
    left
    refine ⟨by simp [noteF, h], fun x hx => ?_⟩
    have := List.findIdx?_eq_none_iff.1 h x hx
    simpa [hasN] using this
  | some i =>
    right
    obtain ⟨hi, h1, h2⟩ := List.findIdx?_eq_some_iff_getElem.1 h
    exact ⟨i, hi, by simp [noteF, h], by simpa [hasN] using h1, fun j hj => by simpa [hasN] using h2 j hj⟩
theorem noteF_some {l : List Nt} {k : K} {i : Nat} (hi : i < l.length) (h : l[i].k = k) (h' : ∀ j, (hj : j < i) → (l[j]'(by omega)).k ≠ k) : noteF l k = (i : Int) := by
  have : l.findIdx? (hasN k) = some i := List.findIdx?_eq_some_iff_getElem.2 ⟨hi, by simp [hasN, h], fun j hj => by simpa [hasN] using h' j hj⟩
  simp [noteF, this]
theorem noteF_none {l : List Nt} {k : K} (h : ∀ x ∈ l, x.k ≠ k) : noteF l k = -1 := by
  have : l.findIdx? (hasN k) = none := List.findIdx?_eq_none_iff.2 fun x hx => by simpa [hasN] using h x hx
  simp [noteF, this]
theorem noteF_mem {l : List Nt} {k : K} : 0 ≤ noteF l k ↔ k ∈ kset l := by
  unfold kset
  rcases noteF_spec l k with ⟨e, h⟩ | ⟨i, hi, e, h, _⟩
  · rw [e]
    constructor
    · intro h'; omega
    · intro h'; obtain ⟨x, hx, hk⟩ := List.mem_map.1 h'; exact absurd hk (h x hx)
  · rw [e]
    exact ⟨fun _ => List.mem_map.2 ⟨l[i], List.getElem_mem hi, h⟩, fun _ => by omega⟩
theorem noteF_neg {l : List Nt} {k : K} : noteF l k < 0 ↔ k ∉ kset l := by rw [← noteF_mem]; omega
theorem noteF_get {l : List Nt} {k : K} (h : 0 ≤ noteF l k) : ∃ i, ∃ hi : i < l.length, noteF l k = (i : Int) ∧ l[i].k = k ∧ l.getD (noteF l k).toNat nt0 = l[i] := by
  rcases noteF_spec l k with ⟨e, _⟩ | ⟨i, hi, e, h1, _⟩
  · omega
  · exact ⟨i, hi, e, h1, by rw [e]; simp [hi]⟩
theorem kset_inj {l : List Nt} (hn : (kset l).Nodup) {x y : Nt} (hx : x ∈ l) (hy : y ∈ l) (h : x.k = y.k) : x = y := by
  induction l with
  | nil => cases hx
  | cons z l ih =>
    simp only [kset, List.map_cons, List.nodup_cons] at hn
    rcases List.mem_cons.1 hx with e | e <;> rcases List.mem_cons.1 hy with e' | e'
    · rw [e, e']
    · subst e; exact absurd (List.mem_map.2 ⟨y, e', h.symm⟩) hn.1
    · subst e'; exact absurd (List.mem_map.2 ⟨x, e, h⟩) hn.1
    · exact ih hn.2 e e'
def dropN (l : List Nt) (k : K) : List Nt := l.filter fun x => decide (x.k ≠ k)
theorem dropN_mem {l : List Nt} {k : K} {x : Nt} : x ∈ dropN l k ↔ x ∈ l ∧ x.k ≠ k := by simp [dropN]
theorem kset_drop {l : List Nt} {k q : K} : q ∈ kset (dropN l k) ↔ q ∈ kset l ∧ q ≠ k := by
  simp only [kset, List.mem_map, dropN_mem]
  constructor
  · rintro ⟨x, ⟨a, b⟩, rfl⟩; exact ⟨⟨x, a, rfl⟩, b⟩
  · rintro ⟨⟨x, a, rfl⟩, b⟩; exact ⟨x, ⟨a, b⟩, rfl⟩
theorem kset_nodup_filter {l : List Nt} {p : Nt → Bool} (h : (kset l).Nodup) : (kset (l.filter p)).Nodup := by
  unfold kset at *
  exact h.sublist (List.filter_sublist.map _)
theorem dropN_le {l : List Nt} {k : K} : (dropN l k).length ≤ l.length := List.length_filter_le _ _
/-! ### valid -/
structure COk (t : T) (c : Cp) : Prop where
  n4 : c.n.length ≤ 4
  w4 : c.w.length ≤ 4
  nk : ∀ x ∈ c.n, keyOk x.k = true
  nn : (kset c.n).Nodup
  wn : (kset c.w).Nodup
  nt : ∀ x ∈ c.n, x.k ∉ kset c.w → findF t.f x.k = x.fr ∧ 0 ≤ x.fr
  nw : ∀ x ∈ c.n, ∀ y ∈ c.w, y.k = x.k → y = x ∧ findF t.f x.k < 0
  ws : ∀ y ∈ c.w, y.k ∈ kset c.n
  wf : ∀ y ∈ c.w, (0 ≤ y.fr ∧ y.fr < t.f.length) ∧ (t.f.getD y.fr.toNat freeF).u = false
theorem COk.wsub {t : T} {c : Cp} (h : COk t c) : ∀ y ∈ c.w, y ∈ c.n := fun y hy => by
  obtain ⟨x, hx, e⟩ := List.mem_map.1 (h.ws y hy)
  rw [(h.nw x hx y hy e.symm).1]; exact hx
structure SyOk (s : Sy) : Prop where
  t : TOk s.t
  c1 : 1 ≤ s.c.length
  c2 : s.c.length ≤ 4
  c : ∀ c ∈ s.c, COk s.t c
noncomputable def sysOk (s : Sy) : Bool := @decide (SyOk s) (Classical.propDecidable _)
theorem sysOk_iff {s : Sy} : sysOk s = true ↔ SyOk s := by unfold sysOk; exact @decide_eq_true_iff _ (Classical.propDecidable _)
/-! ### what becomes of a system -/
def cp0 : Cp := ⟨[], []⟩
def heldB (s : Sy) (fr : Int) (k : K) : Bool := s.c.any fun c => c.w.any fun x => x.fr == fr || x.k == k
noncomputable def heldS (s : Sy) : List Int := if sysOk s then ((List.range s.t.f.length).map fun (i : Nat) => (i : Int)).filter fun f => heldB s f ⟨-1, 0⟩ else []

/-! ### they stay valid -/
theorem COk.drop {t : T} {c : Cp} (h : COk t c) (q : K) : COk t ⟨dropN c.n q, dropN c.w q⟩ := by
  refine ⟨Nat.le_trans dropN_le h.n4, Nat.le_trans dropN_le h.w4, fun x hx => h.nk x (dropN_mem.1 hx).1, kset_nodup_filter h.nn, kset_nodup_filter h.wn, fun x hx hw => ?_, fun x hx y hy e => h.nw x (dropN_mem.1 hx).1 y (dropN_mem.1 hy).1 e, fun y hy => ?_, fun y hy => h.wf y (dropN_mem.1 hy).1⟩
  · obtain ⟨a, b⟩ := dropN_mem.1 hx
    exact h.nt x a fun hm => hw (kset_drop.2 ⟨hm, b⟩)
  · obtain ⟨a, b⟩ := dropN_mem.1 hy
    exact kset_drop.2 ⟨h.ws y a, b⟩
theorem COk.congr {t t' : T} {c : Cp} (h : COk t c) (hl : t'.f.length = t.f.length) (hf : ∀ x ∈ c.n, findF t'.f x.k = findF t.f x.k) (hu : ∀ y ∈ c.w, (t'.f.getD y.fr.toNat freeF).u = (t.f.getD y.fr.toNat freeF).u) : COk t' c :=
  ⟨h.n4, h.w4, h.nk, h.nn, h.wn, fun x hx hw => by rw [hf x hx]; exact h.nt x hx hw, fun x hx y hy e => by rw [hf x hx]; exact h.nw x hx y hy e, h.ws, fun y hy => by rw [hl, hu y hy]; exact h.wf y hy⟩
theorem findF_congr {l l' : List F} {k : K} (hl : l'.length = l.length) (h : ∀ j, (hj : j < l.length) → hasKey k (l'[j]'(by omega)) = hasKey k l[j]) : findF l' k = findF l k := by
  rcases findF_spec l k with ⟨e, h1⟩ | ⟨i, hi, e, h1, h2⟩
  · rw [e]
    exact findF_none fun j hj => by rw [h j (by omega)]; exact h1 _ (List.getElem_mem _)
  · rw [e]
    exact findF_some (by omega) (by rw [h i hi]; exact h1) fun j hj => by rw [h j (by omega)]; exact h2 j hj
theorem map_find {t : T} {k q : K} {fr : Nat} {r : Int} (hi : fr < t.f.length) (hu : t.f[fr].u = false) (hq : q ≠ k) : findF (mapT t k fr r).f q = findF t.f q := by
  refine findF_congr (by simp [mapT]) fun j hj => ?_
  simp only [mapT, List.getElem_set]
  split
  · rename_i e; subst e; simp [hasKey, hu, Ne.symm hq]
  · rfl
theorem COk.map {t : T} {c : Cp} (h : COk t c) {k : K} {fr : Nat} {r : Int} (hi : fr < t.f.length) (hu : t.f[fr].u = false) (hk : findF t.f k < 0) (hh : ∀ y ∈ c.w, y.fr ≠ (fr : Int) ∧ y.k ≠ k) : COk (mapT t k fr r) c := by
  refine h.congr (by simp [mapT]) (fun x hx => map_find hi hu fun e => ?_) fun y hy => ?_
  · by_cases hw : x.k ∈ kset c.w
    · obtain ⟨y, hy, e'⟩ := List.mem_map.1 hw
      exact (hh y hy).2 (e'.trans e)
    · obtain ⟨a, b⟩ := h.nt x hx hw
      rw [e] at a; omega
  · have := (h.wf y hy).1
    have hne : fr ≠ y.fr.toNat := fun e => (hh y hy).1 (by omega)
    simp [mapT, List.getD, List.getElem?_set_ne hne]

/-! ### loops -/
theorem loop_first {R : Type} {L : Nat → Int → Option (LO Int R)} {n : Nat} (p : Nat → Bool) (r : Nat → R)
    (step : ∀ fuel (i : Nat), i < n → L (fuel + 1) (i : Int) = cond (p i) (some (.ret (r i))) (L fuel ((i + 1 : Nat) : Int)))
    (fin : ∀ fuel, L (fuel + 1) (n : Int) = some (.out (n : Int))) : ∀ fuel i, i ≤ n → n - i < fuel → (∀ j, j < i → p j = false) →
    (∃ m, m < n ∧ p m = true ∧ (∀ j, j < m → p j = false) ∧ L fuel (i : Int) = some (.ret (r m))) ∨ ((∀ j, j < n → p j = false) ∧ L fuel (i : Int) = some (.out (n : Int)))
  | 0, i, _, h, _ => by omega
  | fuel + 1, i, hi, hf, ht => by
    by_cases h : i < n
    · rw [step fuel i h]
      cases hp : p i with
      | true => left; exact ⟨i, h, hp, ht, by rw [cot]⟩
      | false =>
        rw [cof]
        exact loop_first p r step fin fuel (i + 1) (by omega) (by omega) fun j hj => by
          by_cases e : j = i
          · subst e; exact hp
          · exact ht j (by omega)
    · have e : i = n := by omega
      subst e
      right; exact ⟨ht, fin fuel⟩
theorem loop_first0 {R : Type} {L : Nat → Int → Option (LO Int R)} {n : Nat} (p : Nat → Bool) (r : Nat → R) (hn : n ≤ 1048576) (hf : 1048576 < fl)
    (step : ∀ fuel (i : Nat), i < n → L (fuel + 1) (i : Int) = cond (p i) (some (.ret (r i))) (L fuel ((i + 1 : Nat) : Int)))
    (fin : ∀ fuel, L (fuel + 1) (n : Int) = some (.out (n : Int))) :
    (∃ m, m < n ∧ p m = true ∧ (∀ j, j < m → p j = false) ∧ L fl 0 = some (.ret (r m))) ∨ ((∀ j, j < n → p j = false) ∧ L fl 0 = some (.out (n : Int))) :=
  loop_first p r step fin fl 0 (by omega) (by omega) (fun j hj => by omega)
theorem loop_fold {σ O : Type} {L : Nat → σ → Int → Option O} {n : Nat} (g : Nat → σ → σ) (Inv : Nat → σ → Prop) (out : σ → O)
    (step : ∀ fuel (i : Nat) s, i < n → Inv i s → L (fuel + 1) s (i : Int) = L fuel (g i s) ((i + 1 : Nat) : Int) ∧ Inv (i + 1) (g i s))
    (fin : ∀ fuel s, Inv n s → L (fuel + 1) s (n : Int) = some (out s)) : ∀ fuel i s, i ≤ n → n - i < fuel → Inv i s → ∃ s', Inv n s' ∧ L fuel s (i : Int) = some (out s')
  | 0, i, s, _, h, _ => by omega
  | fuel + 1, i, s, hi, hf, ht => by
    by_cases h : i < n
    · obtain ⟨h1, h2⟩ := step fuel i s h ht
      rw [h1]
      exact loop_fold g Inv out step fin fuel (i + 1) _ (by omega) (by omega) h2
    · have e : i = n := by omega
      subst e
      exact ⟨s, ht, fin fuel s ht⟩
theorem loop_fold0 {σ O : Type} {L : Nat → σ → Int → Option O} {n : Nat} (g : Nat → σ → σ) (Inv : Nat → σ → Prop) (out : σ → O) (hn : n ≤ 1048576) (hf : 1048576 < fl) (s : σ) (h0 : Inv 0 s)
    (step : ∀ fuel (i : Nat) s, i < n → Inv i s → L (fuel + 1) s (i : Int) = L fuel (g i s) ((i + 1 : Nat) : Int) ∧ Inv (i + 1) (g i s))
    (fin : ∀ fuel s, Inv n s → L (fuel + 1) s (n : Int) = some (out s)) : ∃ s', Inv n s' ∧ L fl s 0 = some (out s') :=
  loop_fold g Inv out step fin fl 0 s (by omega) (by omega) h0
theorem lt_dec {i n : Nat} (h : i < n) : decide ((i : Int) < (n : Int)) = true := decide_eq_true (by omega)
theorem nlt_dec (n : Nat) : decide ((n : Int) < (n : Int)) = false := by simp

/-! ### notes are found -/
theorem sNote_eq {l : List Nt} {k : K} (hl : l.length ≤ 1048576) (hf : 1048576 < fl) : s_l8Find fl l k = some (noteF l k) := by
  unfold s_l8Find
  rcases loop_first0 (L := s_l8Find_L0 fl l k) (n := l.length) (fun i => (l.getD i nt0).k == k) (fun i => (i : Int)) hl hf (fun fuel i h => by
      rw [s_l8Find_L0.eq_2, lt_dec h, cot, idx_nat h, ck_succ (by omega)]
      simp only [obs, List.getD_eq_getElem?_getD, List.getElem?_eq_getElem h, Option.getD_some]) (fun fuel => by rw [s_l8Find_L0.eq_2, nlt_dec, cof]) with ⟨m, h1, h2, h3, e⟩ | ⟨h1, e⟩
  · rw [e]; simp only [obs]
    congr 1
    refine (noteF_some h1 (by simpa [h1] using h2) fun j hj => ?_).symm
    have := h3 j hj; simpa [show j < l.length by omega] using this
  · rw [e]; simp only [obs]
    congr 1
    refine (noteF_none fun x hx => ?_).symm
    obtain ⟨j, hj, rfl⟩ := List.getElem_of_mem hx
    have := h1 j hj; simpa [hj] using this
theorem iNote_eq {l : List Nt} {k : K} (hl : l.length ≤ 1048576) (hf : 1048576 < fl) : i_noteOf fl l k = some (noteF l k) := by
  unfold i_noteOf slices_IndexFunc_Note_of_i_noteOf_1
  rcases loop_first0 (L := slices_IndexFunc_Note_of_i_noteOf_1_L0 fl l k) (n := l.length) (fun i => (l.getD i nt0).k == k) (fun i => (i : Int)) hl hf (fun fuel i h => by
      rw [slices_IndexFunc_Note_of_i_noteOf_1_L0.eq_2, lt_dec h, cot, idx_nat h, ck_succ (by omega)]
      simp only [obs, i_noteOf_1, List.getD_eq_getElem?_getD, List.getElem?_eq_getElem h, Option.getD_some]) (fun fuel => by rw [slices_IndexFunc_Note_of_i_noteOf_1_L0.eq_2, nlt_dec, cof]) with ⟨m, h1, h2, h3, e⟩ | ⟨h1, e⟩
  · rw [e]; simp only [obs]
    congr 1
    refine (noteF_some h1 (by simpa [h1] using h2) fun j hj => ?_).symm
    have := h3 j hj; simpa [show j < l.length by omega] using this
  · rw [e]; simp only [obs]
    congr 1
    refine (noteF_none fun x hx => ?_).symm
    obtain ⟨j, hj, rfl⟩ := List.getElem_of_mem hx
    have := h1 j hj; simpa [hj] using this

/-! ### each once -/
def dupB (l : List Nt) (i : Nat) : Bool := decide (0 ≤ noteF (l.take i) (l.getD i nt0).k)
theorem dup_nodup {l : List Nt} : (kset l).Nodup ↔ ∀ i, i < l.length → dupB l i = false := by
  rw [List.nodup_iff_pairwise_ne, List.pairwise_iff_getElem]
  simp only [kset, List.length_map, List.getElem_map]
  constructor
  · intro h i hi
    unfold dupB
    rw [decide_eq_false_iff_not, noteF_mem]
    intro hm
    obtain ⟨x, hx, e⟩ := List.mem_map.1 hm
    obtain ⟨j, hj, rfl⟩ := List.getElem_of_mem hx
    have hj2 : j < i := by simp at hj; omega
    have := h j i (by omega) hi hj2
    simp [hi] at e
    exact this e
  · intro h i j hi hj hij e
    have := h j hj
    unfold dupB at this
    rw [decide_eq_false_iff_not, noteF_mem] at this
    refine this (List.mem_map.2 ⟨l[i], List.mem_take_iff_getElem.2 ⟨i, by omega, rfl⟩, ?_⟩)
    simp [hj, e]

/-! ### a processor is valid -/
def badN (t : T) (c : Cp) (i : Nat) : Bool :=
  (!keyOk (c.n.getD i nt0).k || dupB c.n i) || ((decide (noteF c.w (c.n.getD i nt0).k < 0) && (decide (findF t.f (c.n.getD i nt0).k < 0) || findF t.f (c.n.getD i nt0).k != (c.n.getD i nt0).fr)) ||
    (decide (0 ≤ noteF c.w (c.n.getD i nt0).k) && (decide (0 ≤ findF t.f (c.n.getD i nt0).k) || c.w.getD (noteF c.w (c.n.getD i nt0).k).toNat nt0 != c.n.getD i nt0)))
def badW (t : T) (c : Cp) (i : Nat) : Bool :=
  (((decide (noteF c.n (c.w.getD i nt0).k < 0) || dupB c.w i) || decide ((c.w.getD i nt0).fr < 0)) || decide ((t.f.length : Int) ≤ (c.w.getD i nt0).fr)) || (t.f.getD (c.w.getD i nt0).fr.toNat freeF).u
theorem COk_iff {t : T} {c : Cp} : COk t c ↔ (c.n.length ≤ 4 ∧ c.w.length ≤ 4) ∧ (∀ i, i < c.n.length → badN t c i = false) ∧ ∀ i, i < c.w.length → badW t c i = false := by
  constructor
  · intro h
    refine ⟨⟨h.n4, h.w4⟩, fun i hi => ?_, fun i hi => ?_⟩
    · have hx : c.n[i] ∈ c.n := List.getElem_mem hi
      have e : c.n.getD i nt0 = c.n[i] := by simp [hi]
      unfold badN
      rw [dup_nodup.1 h.nn i hi, e, h.nk _ hx]
      by_cases hw : noteF c.w c.n[i].k < 0
      · obtain ⟨a, b⟩ := h.nt _ hx (noteF_neg.1 hw)
        simp [hw, a, b]
      · obtain ⟨m, hm, e1, hk, e2⟩ := noteF_get (show 0 ≤ noteF c.w c.n[i].k by omega)
        obtain ⟨a, b⟩ := h.nw _ hx c.w[m] (List.getElem_mem hm) hk
        rw [e2, a]
        simp [hw, b]
    · have hy : c.w[i] ∈ c.w := List.getElem_mem hi
      have e : c.w.getD i nt0 = c.w[i] := by simp [hi]
      unfold badW
      rw [dup_nodup.1 h.wn i hi, e]
      obtain ⟨⟨a, b⟩, d⟩ := h.wf _ hy
      have := noteF_mem.2 (h.ws _ hy)
      rw [d]
      simp
      omega
  · rintro ⟨⟨h1, h2⟩, h3, h4⟩
    have hN : ∀ i, (hi : i < c.n.length) → keyOk c.n[i].k = true ∧ dupB c.n i = false ∧ (noteF c.w c.n[i].k < 0 → 0 ≤ findF t.f c.n[i].k ∧ findF t.f c.n[i].k = c.n[i].fr) ∧ (0 ≤ noteF c.w c.n[i].k → findF t.f c.n[i].k < 0 ∧ c.w.getD (noteF c.w c.n[i].k).toNat nt0 = c.n[i]) := fun i hi => by
      have e : c.n.getD i nt0 = c.n[i] := by simp [hi]
      have := h3 i hi
      unfold badN at this
      rw [e] at this
      simp only [Bool.or_eq_false_iff, Bool.and_eq_false_iff, Bool.not_eq_false', decide_eq_false_iff_not, bne_eq_false_iff_eq] at this
      obtain ⟨⟨a, b⟩, d, f⟩ := this
      refine ⟨a, b, fun hw => ?_, fun hw => ?_⟩
      · rcases d with d | d
        · omega
        · exact ⟨by omega, d.2⟩
      · rcases f with f | f
        · omega
        · exact ⟨by omega, f.2⟩
    have hW : ∀ i, (hi : i < c.w.length) → 0 ≤ noteF c.n c.w[i].k ∧ dupB c.w i = false ∧ (0 ≤ c.w[i].fr ∧ c.w[i].fr < t.f.length) ∧ (t.f.getD c.w[i].fr.toNat freeF).u = false := fun i hi => by
      have e : c.w.getD i nt0 = c.w[i] := by simp [hi]
      have := h4 i hi
      unfold badW at this
      rw [e] at this
      simp only [Bool.or_eq_false_iff, decide_eq_false_iff_not] at this
      obtain ⟨⟨⟨⟨a, b⟩, d⟩, f⟩, g⟩ := this
      exact ⟨by omega, b, ⟨by omega, by omega⟩, g⟩
    refine ⟨h1, h2, fun x hx => ?_, dup_nodup.2 fun i hi => (hN i hi).2.1, dup_nodup.2 fun i hi => (hW i hi).2.1, fun x hx hw => ?_, fun x hx y hy e => ?_, fun y hy => ?_, fun y hy => ?_⟩
    · obtain ⟨i, hi, rfl⟩ := List.getElem_of_mem hx; exact (hN i hi).1
    · obtain ⟨i, hi, rfl⟩ := List.getElem_of_mem hx
      obtain ⟨a, b⟩ := (hN i hi).2.2.1 (noteF_neg.2 hw)
      exact ⟨b, by omega⟩
    · obtain ⟨i, hi, rfl⟩ := List.getElem_of_mem hx
      have hm : c.n[i].k ∈ kset c.w := List.mem_map.2 ⟨y, hy, e⟩
      obtain ⟨a, b⟩ := (hN i hi).2.2.2 (noteF_mem.2 hm)
      obtain ⟨m, hm', e1, hk, e2⟩ := noteF_get (noteF_mem.2 hm)
      refine ⟨?_, a⟩
      rw [e2] at b
      rw [← b]
      exact kset_inj (dup_nodup.2 fun i hi => (hW i hi).2.1) hy (List.getElem_mem hm') (e.trans hk.symm)
    · obtain ⟨i, hi, rfl⟩ := List.getElem_of_mem hy; exact noteF_mem.1 (hW i hi).1
    · obtain ⟨i, hi, rfl⟩ := List.getElem_of_mem hy; exact (hW i hi).2.2
noncomputable def cpuB (t : T) (c : Cp) : Bool := @decide (COk t c) (Classical.propDecidable _)
theorem cpuB_iff {t : T} {c : Cp} : cpuB t c = true ↔ COk t c := by unfold cpuB; exact @decide_eq_true_iff _ (Classical.propDecidable _)
theorem cpuB_not {t : T} {c : Cp} (h : ¬ COk t c) : cpuB t c = false := by
  cases e : cpuB t c with
  | false => rfl
  | true => exact absurd (cpuB_iff.1 e) h
theorem tk {α : Type} {l : List α} {i : Nat} (h : i < l.length) : takeO l (i : Int) = some (l.take i) := takeO_nat (by omega)
theorem len4 (n : Nat) : decide (4 < (n : Int)) = decide (4 < n) := by congr 1; apply propext; omega
theorem sCpu_eq {t : T} {c : Cp} (ht : TOk t) (hn : c.n.length ≤ 1048576) (hw : c.w.length ≤ 1048576) (hf : 1048576 < fl) : s_l8Cpu fl t c = some (cpuB t c) := by
  have g2 := ht.f2
  unfold s_l8Cpu
  rw [len4, len4]
  by_cases h1' : 4 < c.n.length
  · rw [decide_eq_true h1', cpuB_not (fun h => by have := h.n4; omega)]; simp only [cot, obs]
  have h1 : c.n.length ≤ 4 := by omega
  by_cases h2' : 4 < c.w.length
  · rw [decide_eq_false (by omega : ¬ 4 < c.n.length), decide_eq_true h2', cpuB_not (fun h => by have := h.w4; omega)]; simp only [cot, cof, obs]
  have h2 : c.w.length ≤ 4 := by omega
  rw [decide_eq_false (by omega : ¬ 4 < c.n.length), decide_eq_false (by omega : ¬ 4 < c.w.length)]
  simp only [cof, obs]
  rcases loop_first0 (L := s_l8Cpu_L0 fl t c) (n := c.n.length) (badN t c) (fun _ => false) hn hf (fun fuel i h => by
      rw [s_l8Cpu_L0.eq_2, lt_dec h, cot, idx_nat h, tk h, ck_succ (by omega)]
      have e : c.n.getD i nt0 = c.n[i] := by simp [h]
      unfold badN dupB
      rw [e]
      simp only [obs, sKey_eq, sNote_eq hw hf, sNote_eq (l := c.n.take i) (by simp; omega) hf]
      cases hk : keyOk c.n[i].k with
      | false => simp only [Bool.not_false, cot, obs, Bool.true_or]
      | true =>
        obtain ⟨s, hs⟩ := sFind_eq (fl := fl) ht hk hf
        simp only [Bool.not_true, cof, obs, Bool.false_or]
        cases hd : decide (0 ≤ noteF (c.n.take i) c.n[i].k) with
        | true => simp only [cot, Bool.true_or]
        | false =>
          simp only [cof, Bool.false_or, hs, obs]
          by_cases hq : noteF c.w c.n[i].k < 0
          · rw [decide_eq_true hq, decide_eq_false (by omega : ¬ 0 ≤ noteF c.w c.n[i].k)]
            simp only [cot, cof, Bool.true_and, Bool.false_and, Bool.or_false]
            cases decide (findF t.f c.n[i].k < 0) <;> cases (findF t.f c.n[i].k != c.n[i].fr) <;> simp only [cot, cof, obs, Bool.or_true, Bool.or_false, Bool.true_or, Bool.false_or]
          · obtain ⟨m, hm, e1, hk1, e2⟩ := noteF_get (show 0 ≤ noteF c.w c.n[i].k by omega)
            rw [decide_eq_false hq, decide_eq_true (by omega : 0 ≤ noteF c.w c.n[i].k), e2, e1, idx_nat hm]
            simp only [cot, cof, Bool.true_and, Bool.false_and, Bool.false_or, obs]
            cases decide (0 ≤ findF t.f c.n[i].k) <;> cases (c.w[m] != c.n[i]) <;> simp only [cot, cof, obs, Bool.or_true, Bool.or_false, Bool.true_or, Bool.false_or])
      (fun fuel => by rw [s_l8Cpu_L0.eq_2, nlt_dec, cof]) with ⟨m, a1, a2, _, e⟩ | ⟨a1, e⟩
  · rw [e]; simp only [obs]
    rw [cpuB_not fun h => by have := (COk_iff.1 h).2.1 m a1; rw [a2] at this; cases this]
  rw [e]; simp only [obs]
  rcases loop_first0 (L := s_l8Cpu_L1 fl t c) (n := c.w.length) (badW t c) (fun _ => false) hw hf (fun fuel i h => by
      rw [s_l8Cpu_L1.eq_2, lt_dec h, cot, idx_nat h, tk h, ck_succ (by omega)]
      have e : c.w.getD i nt0 = c.w[i] := by simp [h]
      unfold badW dupB
      rw [e]
      simp only [obs, sNote_eq hn hf, sNote_eq (l := c.w.take i) (by simp; omega) hf]
      cases decide (noteF c.n c.w[i].k < 0) with
      | true => simp only [cot, obs, Bool.true_or]
      | false =>
        cases decide (0 ≤ noteF (c.w.take i) c.w[i].k) with
        | true => simp only [cot, cof, obs, Bool.true_or, Bool.false_or]
        | false =>
          by_cases q1 : c.w[i].fr < 0
          · rw [decide_eq_true q1]; simp only [cot, cof, obs, Bool.true_or, Bool.false_or]
          by_cases q2 : (t.f.length : Int) ≤ c.w[i].fr
          · rw [decide_eq_false q1, decide_eq_true q2]; simp only [cot, cof, obs, Bool.true_or, Bool.false_or]
          rw [decide_eq_false q1, decide_eq_false q2]
          obtain ⟨f, hf1⟩ : ∃ f : Nat, c.w[i].fr = f := ⟨c.w[i].fr.toNat, by omega⟩
          have hf2 : f < t.f.length := by omega
          rw [hf1, idx_nat hf2]
          simp only [cot, cof, obs, Bool.false_or, Int.toNat_natCast, List.getD_eq_getElem?_getD, List.getElem?_eq_getElem hf2, Option.getD_some])
      (fun fuel => by rw [s_l8Cpu_L1.eq_2, nlt_dec, cof]) with ⟨m, b1, b2, _, e'⟩ | ⟨b1, e'⟩
  · rw [e']; simp only [obs]
    rw [cpuB_not fun h => by have := (COk_iff.1 h).2.2 m b1; rw [b2] at this; cases this]
  · rw [e']; simp only [obs]
    rw [cpuB_iff.2 (COk_iff.2 ⟨⟨h1, h2⟩, a1, b1⟩)]
theorem each_eq {l : List Nt} (hl : l.length ≤ 1048576) (hf : 1048576 < fl) : ∃ b, i_each fl l = some b ∧ (b = true ↔ l.length ≤ 4 ∧ ∀ i, i < l.length → keyOk (l.getD i nt0).k = true ∧ dupB l i = false) := by
  unfold i_each
  rcases loop_first0 (L := i_each_L0 fl l) (n := l.length) (fun i => !keyOk (l.getD i nt0).k || dupB l i) (fun _ => false) hl hf (fun fuel i h => by
      rw [i_each_L0.eq_2, lt_dec h, cot, idx_nat h, tk h, ck_succ (by omega)]
      have e : l.getD i nt0 = l[i] := by simp [h]
      unfold dupB
      rw [e]
      simp only [obs, iKey_eq, iNote_eq (l := l.take i) (by simp; omega) hf]
      cases keyOk l[i].k <;> simp only [Bool.not_true, Bool.not_false, cot, cof, obs, Bool.true_or, Bool.false_or])
      (fun fuel => by rw [i_each_L0.eq_2, nlt_dec, cof]) with ⟨m, a1, a2, _, e⟩ | ⟨a1, e⟩
  · rw [e]; simp only [obs]
    refine ⟨false, rfl, by simp, fun h => ?_⟩
    obtain ⟨b1, b2⟩ := h.2 m a1
    rw [b1, b2] at a2; cases a2
  · rw [e]; simp only [obs]
    refine ⟨_, rfl, fun h => ⟨by have := of_decide_eq_true h; omega, fun i hi => ?_⟩, fun h => decide_eq_true (by omega)⟩
    have := a1 i hi
    simpa using this

def bad1 (t : T) (c : Cp) (i : Nat) : Bool :=
  cond (decide (0 ≤ noteF c.w (c.n.getD i nt0).k)) (c.w.getD (noteF c.w (c.n.getD i nt0).k).toNat nt0 != c.n.getD i nt0 || decide (0 ≤ findF t.f (c.n.getD i nt0).k)) (decide (findF t.f (c.n.getD i nt0).k < 0) || findF t.f (c.n.getD i nt0).k != (c.n.getD i nt0).fr)
def bad2 (t : T) (c : Cp) (i : Nat) : Bool :=
  (decide (noteF c.n (c.w.getD i nt0).k < 0) || !within (c.w.getD i nt0).fr t.f.length) || (t.f.getD (c.w.getD i nt0).fr.toNat freeF).u
theorem bad1_eq {t : T} {c : Cp} {i : Nat} : badN t c i = ((!keyOk (c.n.getD i nt0).k || dupB c.n i) || bad1 t c i) := by
  unfold badN bad1
  congr 1
  by_cases h : 0 ≤ noteF c.w (c.n.getD i nt0).k
  · rw [decide_eq_true h, decide_eq_false (by omega : ¬ noteF c.w (c.n.getD i nt0).k < 0), cot, Bool.false_and, Bool.false_or, Bool.true_and, Bool.or_comm]
  · rw [decide_eq_false h, decide_eq_true (by omega : noteF c.w (c.n.getD i nt0).k < 0), cof, Bool.false_and, Bool.or_false, Bool.true_and]
theorem bad2_eq {t : T} {c : Cp} {i : Nat} : badW t c i = (dupB c.w i || bad2 t c i) := by
  unfold badW bad2 within
  have e1 : decide ((c.w.getD i nt0).fr < 0) = !decide (0 ≤ (c.w.getD i nt0).fr) := by rw [← decide_not]; congr 1; apply propext; omega
  have e2 : decide ((t.f.length : Int) ≤ (c.w.getD i nt0).fr) = !decide ((c.w.getD i nt0).fr < (t.f.length : Int)) := by rw [← decide_not]; congr 1; apply propext; omega
  rw [e1, e2]
  cases decide (noteF c.n (c.w.getD i nt0).k < 0) <;> cases dupB c.w i <;> cases decide (0 ≤ (c.w.getD i nt0).fr) <;> cases decide ((c.w.getD i nt0).fr < (t.f.length : Int)) <;> rfl
theorem iL1_eq {s : Sy} {c : Cp} (ht : s.t.f.length ≤ 1048576) (hn : c.n.length ≤ 1048576) (hw : c.w.length ≤ 1048576) (hf : 1048576 < fl) :
    (∃ m, m < c.n.length ∧ bad1 s.t c m = true ∧ (∀ j, j < m → bad1 s.t c j = false) ∧ i_SystemValid_L1 fl s c fl 0 = some (.ret false)) ∨ ((∀ j, j < c.n.length → bad1 s.t c j = false) ∧ i_SystemValid_L1 fl s c fl 0 = some (.out (c.n.length : Int))) :=
  loop_first0 (L := i_SystemValid_L1 fl s c) (n := c.n.length) (bad1 s.t c) (fun _ => false) hn hf (fun fuel i h => by
      rw [i_SystemValid_L1.eq_2, lt_dec h, cot, idx_nat h, ck_succ (by omega)]
      have e : c.n.getD i nt0 = c.n[i] := by simp [h]
      unfold bad1
      rw [e]
      simp only [obs, find_eq ht hf, iNote_eq hw hf]
      by_cases hq : 0 ≤ noteF c.w c.n[i].k
      · obtain ⟨m, hm, e1, hk1, e2⟩ := noteF_get hq
        rw [decide_eq_true hq, e2, e1, idx_nat hm]
        simp only [cot, obs]
        cases (c.w[m] != c.n[i]) <;> simp only [cot, cof, obs, Bool.true_or, Bool.false_or]
      · rw [decide_eq_false hq]
        simp only [cof]
        cases decide (findF s.t.f c.n[i].k < 0) <;> simp only [cot, cof, obs, Bool.true_or, Bool.false_or])
      (fun fuel => by rw [i_SystemValid_L1.eq_2, nlt_dec, cof])
theorem iL2_eq {s : Sy} {c : Cp} (ht : s.t.f.length ≤ 1048576) (hn : c.n.length ≤ 1048576) (hw : c.w.length ≤ 1048576) (hf : 1048576 < fl) :
    (∃ m, m < c.w.length ∧ bad2 s.t c m = true ∧ (∀ j, j < m → bad2 s.t c j = false) ∧ i_SystemValid_L2 fl s c fl 0 = some (.ret false)) ∨ ((∀ j, j < c.w.length → bad2 s.t c j = false) ∧ i_SystemValid_L2 fl s c fl 0 = some (.out (c.w.length : Int))) :=
  loop_first0 (L := i_SystemValid_L2 fl s c) (n := c.w.length) (bad2 s.t c) (fun _ => false) hw hf (fun fuel i h => by
      rw [i_SystemValid_L2.eq_2, lt_dec h, cot, idx_nat h, ck_succ (by omega)]
      have e : c.w.getD i nt0 = c.w[i] := by simp [h]
      unfold bad2
      rw [e]
      simp only [obs, iNote_eq hn hf, within_eq]
      cases decide (noteF c.n c.w[i].k < 0) with
      | true => simp only [cot, obs, Bool.true_or]
      | false =>
        cases hq : within c.w[i].fr s.t.f.length with
        | false => simp only [cot, cof, obs, Bool.not_false, Bool.true_or, Bool.false_or]
        | true =>
          have := within_iff.1 hq
          obtain ⟨f, hf1⟩ : ∃ f : Nat, c.w[i].fr = f := ⟨c.w[i].fr.toNat, by omega⟩
          have hf2 : f < s.t.f.length := by omega
          rw [hf1, idx_nat hf2]
          simp only [cot, cof, obs, Bool.not_true, Bool.false_or, Int.toNat_natCast, List.getD_eq_getElem?_getD, List.getElem?_eq_getElem hf2, Option.getD_some])
      (fun fuel => by rw [i_SystemValid_L2.eq_2, nlt_dec, cof])
/-- small enough that nothing overflows -/
def small (s : Sy) : Prop := s.t.b.length + s.t.f.length ≤ 1048576 ∧ s.c.length ≤ 1048576 ∧ ∀ c ∈ s.c, c.n.length + c.w.length ≤ 1048576
theorem sysOk_of {s : Sy} : sysOk s = (tableOk s.t && (decide (1 ≤ s.c.length) && decide (s.c.length ≤ 4)) && (List.range s.c.length).all fun i => cpuB s.t (s.c.getD i cp0)) := by
  rw [Bool.eq_iff_iff, sysOk_iff]
  simp only [Bool.and_eq_true, decide_eq_true_eq, List.all_eq_true, List.mem_range, cpuB_iff, tableOk_iff]
  constructor
  · intro h
    exact ⟨⟨h.t, h.c1, h.c2⟩, fun i hi => h.c _ (by simp [hi])⟩
  · rintro ⟨⟨h1, h2, h3⟩, h4⟩
    refine ⟨h1, h2, h3, fun c hc => ?_⟩
    obtain ⟨i, hi, rfl⟩ := List.getElem_of_mem hc
    have := h4 i hi
    simpa [hi] using this
theorem valid_fin {s : Sy} (h1 : tableOk s.t = true) (h2 : 1 ≤ s.c.length) (h3 : s.c.length ≤ 4) : sysOk s = (List.range s.c.length).all fun i => cpuB s.t (s.c.getD i cp0) := by
  rw [sysOk_of, h1, decide_eq_true h2, decide_eq_true h3]; simp only [Bool.true_and]
theorem all_no {n m : Nat} {p : Nat → Bool} (h : m < n) (hp : p m = false) : (List.range n).all p = false := by
  rw [List.all_eq_false]; exact ⟨m, List.mem_range.2 h, by simp [hp]⟩
theorem all_yes {n : Nat} {p : Nat → Bool} (h : ∀ j, j < n → p j = true) : (List.range n).all p = true := by
  rw [List.all_eq_true]; exact fun x hx => h x (List.mem_range.1 hx)
theorem lt1 (n : Nat) : decide ((n : Int) < 1) = !decide (1 ≤ n) := by rw [← decide_not]; congr 1; apply propext; omega
theorem gt4 (n : Nat) : decide (4 < (n : Int)) = !decide (n ≤ 4) := by rw [← decide_not]; congr 1; apply propext; omega
theorem sValid_eq {s : Sy} (hs : small s) (hf : 1048576 < fl) : s_SystemValid fl s = some (sysOk s) := by
  unfold s_SystemValid s_TableValid
  rw [lt1, gt4]
  cases h1 : tableOk s.t with
  | false => rw [sysOk_of, h1]; simp [obs]
  | true =>
    simp only [obs, Bool.not_true, cof]
    by_cases h2 : 1 ≤ s.c.length
    case neg => rw [sysOk_of, decide_eq_false h2]; simp [obs]
    by_cases h3 : s.c.length ≤ 4
    case neg => rw [sysOk_of, decide_eq_true h2, decide_eq_false h3]; simp [obs]
    rw [valid_fin h1 h2 h3, decide_eq_true h2, decide_eq_true h3]
    simp only [Bool.not_true, cof, obs]
    rcases loop_first0 (L := s_SystemValid_L0 fl s) (n := s.c.length) (fun i => !cpuB s.t (s.c.getD i cp0)) (fun _ => false) hs.2.1 hf (fun fuel i h => by
        rw [s_SystemValid_L0.eq_2, lt_dec h, cot, idx_nat h, ck_succ (by omega)]
        have e : s.c.getD i cp0 = s.c[i] := by simp [h]
        have hc := hs.2.2 s.c[i] (List.getElem_mem h)
        rw [e]
        simp only [obs, sCpu_eq (tableOk_iff.1 h1) (by omega : s.c[i].n.length ≤ 1048576) (by omega) hf])
        (fun fuel => by rw [s_SystemValid_L0.eq_2, nlt_dec, cof]) with ⟨m, a1, a2, _, e⟩ | ⟨a1, e⟩
    · rw [e]; simp only [obs]; rw [all_no a1 (by simpa using a2)]
    · rw [e]; simp only [obs]; rw [all_yes (fun j hj => by simpa using a1 j hj)]
theorem iCpu_bad {t : T} {c : Cp} {b1 b2 : Bool} (e1 : b1 = true ↔ c.n.length ≤ 4 ∧ ∀ i, i < c.n.length → keyOk (c.n.getD i nt0).k = true ∧ dupB c.n i = false) (e2 : b2 = true ↔ c.w.length ≤ 4 ∧ ∀ i, i < c.w.length → keyOk (c.w.getD i nt0).k = true ∧ dupB c.w i = false) :
    COk t c ↔ b1 = true ∧ b2 = true ∧ (∀ i, i < c.n.length → bad1 t c i = false) ∧ ∀ i, i < c.w.length → bad2 t c i = false := by
  constructor
  · intro h
    obtain ⟨⟨a, b⟩, h3, h4⟩ := COk_iff.1 h
    refine ⟨e1.2 ⟨a, fun i hi => ?_⟩, e2.2 ⟨b, fun i hi => ?_⟩, fun i hi => ?_, fun i hi => ?_⟩
    · have := h3 i hi; rw [bad1_eq] at this; simp only [Bool.or_eq_false_iff, Bool.not_eq_false'] at this; exact this.1
    · have := h4 i hi; rw [bad2_eq] at this; simp only [Bool.or_eq_false_iff] at this
      refine ⟨?_, this.1⟩
      have hm : c.w[i] ∈ c.w := List.getElem_mem hi
      have := h.nk _ (h.wsub _ hm)
      simpa [hi] using this
    · have := h3 i hi; rw [bad1_eq] at this; simp only [Bool.or_eq_false_iff] at this; exact this.2
    · have := h4 i hi; rw [bad2_eq] at this; simp only [Bool.or_eq_false_iff] at this; exact this.2
  · rintro ⟨h1, h2, h3, h4⟩
    obtain ⟨a, a'⟩ := e1.1 h1
    obtain ⟨b, b'⟩ := e2.1 h2
    exact COk_iff.2 ⟨⟨a, b⟩, fun i hi => by rw [bad1_eq, (a' i hi).1, (a' i hi).2, h3 i hi]; rfl, fun i hi => by rw [bad2_eq, (b' i hi).2, h4 i hi]; rfl⟩
theorem iValid_eq {s : Sy} (hs : small s) (hf : 1048576 < fl) : i_SystemValid fl s = some (sysOk s) := by
  unfold i_SystemValid i_TableValid
  rw [lt1, gt4]
  cases h1 : tableOk s.t with
  | false => rw [sysOk_of, h1]; simp [obs]
  | true =>
    simp only [obs, Bool.not_true, cof]
    by_cases h2 : 1 ≤ s.c.length
    case neg => rw [sysOk_of, decide_eq_false h2]; simp [obs]
    by_cases h3 : s.c.length ≤ 4
    case neg => rw [sysOk_of, decide_eq_true h2, decide_eq_false h3]; simp [obs]
    rw [valid_fin h1 h2 h3, decide_eq_true h2, decide_eq_true h3]
    simp only [Bool.not_true, cof, obs]
    rcases loop_first0 (L := i_SystemValid_L0 fl s) (n := s.c.length) (fun i => !cpuB s.t (s.c.getD i cp0)) (fun _ => false) hs.2.1 hf (fun fuel i h => by
        rw [i_SystemValid_L0.eq_2, lt_dec h, cot, idx_nat h, ck_succ (by omega)]
        have e : s.c.getD i cp0 = s.c[i] := by simp [h]
        have hc := hs.2.2 s.c[i] (List.getElem_mem h)
        have ht : s.t.f.length ≤ 1048576 := by have := hs.1; omega
        rw [e]
        obtain ⟨b1, q1, e1⟩ := each_eq (fl := fl) (l := s.c[i].n) (by omega) hf
        obtain ⟨b2, q2, e2⟩ := each_eq (fl := fl) (l := s.c[i].w) (by omega) hf
        have key := iCpu_bad (t := s.t) e1 e2
        simp only [obs, q1, q2]
        cases b1 with
        | false => rw [cpuB_not (fun h => by cases (key.1 h).1)]; simp only [Bool.not_false, cot, obs]
        | true =>
          cases b2 with
          | false => rw [cpuB_not (fun h => by cases (key.1 h).2.1)]; simp only [Bool.not_false, Bool.not_true, cof, cot, obs]
          | true =>
            simp only [Bool.not_true, cof, obs]
            rcases iL1_eq (fl := fl) (s := s) (c := s.c[i]) ht (by omega) (by omega) hf with ⟨m, a1, a2, _, e⟩ | ⟨a1, e⟩
            · rw [e, cpuB_not (fun h => by have := (key.1 h).2.2.1 m a1; rw [a2] at this; cases this)]; simp only [Bool.not_false, cot, obs]
            rw [e]; simp only [obs]
            rcases iL2_eq (fl := fl) (s := s) (c := s.c[i]) ht (by omega) (by omega) hf with ⟨m, a3, a4, _, e⟩ | ⟨a3, e⟩
            · rw [e, cpuB_not (fun h => by have := (key.1 h).2.2.2 m a3; rw [a4] at this; cases this)]; simp only [Bool.not_false, cot, obs]
            rw [e, cpuB_iff.2 (key.2 ⟨rfl, rfl, a1, a3⟩)]; simp only [Bool.not_true, cof, obs])
        (fun fuel => by rw [i_SystemValid_L0.eq_2, nlt_dec, cof]) with ⟨m, a1, a2, _, e⟩ | ⟨a1, e⟩
    · rw [e]; simp only [obs]; rw [all_no a1 (by simpa using a2)]
    · rw [e]; simp only [obs]; rw [all_yes (fun j hj => by simpa using a1 j hj)]

def tot : List Cp → Nat
  | [] => 0
  | c :: l => c.n.length + c.w.length + tot l
theorem tot_mem {l : List Cp} {c : Cp} (h : c ∈ l) : c.n.length + c.w.length ≤ tot l := by
  induction l with
  | nil => cases h
  | cons d l ih =>
    rcases List.mem_cons.1 h with e | e
    · subst e; simp only [tot]; omega
    · have := ih e; simp only [tot]; omega
theorem tot_drop {l : List Cp} {i : Nat} (h : i < l.length) : tot (l.drop i) = l[i].n.length + l[i].w.length + tot (l.drop (i + 1)) := by
  rw [List.drop_eq_getElem_cons h]; rfl
theorem tot_take {l : List Cp} {i : Nat} (h : i < l.length) : tot (l.take (i + 1)) = tot (l.take i) + (l[i].n.length + l[i].w.length) := by
  induction l generalizing i with
  | nil => simp at h
  | cons d l ih =>
    cases i with
    | zero => simp [tot]
    | succ i =>
      have := ih (i := i) (by simpa using h)
      simp only [List.take_succ_cons, tot, List.getElem_cons_succ] at this ⊢
      omega
theorem tot_split (l : List Cp) (i : Nat) : tot l = tot (l.take i) + tot (l.drop i) := by
  induction l generalizing i with
  | nil => simp [tot]
  | cons d l ih =>
    cases i with
    | zero => simp [tot]
    | succ i => have := ih i; simp only [List.take_succ_cons, List.drop_succ_cons, tot]; omega
structure sm (s : Sy) : Prop where
  t : s.t.b.length + s.t.f.length ≤ 1048576
  c : s.c.length + tot s.c ≤ 1048576
theorem sm.small {s : Sy} (h : sm s) : small s := ⟨h.t, by have := h.c; omega, fun c hc => by have := tot_mem hc; have := h.c; omega⟩
/-- no slice is longer than a machine has room for -/
def lens (s : Sy) : Prop := (s.t.b.length : Int) ≤ 9223372036854775807 ∧ (s.t.f.length : Int) ≤ 9223372036854775807 ∧ (s.c.length : Int) ≤ 9223372036854775807 ∧ ∀ c ∈ s.c, (c.n.length : Int) ≤ 9223372036854775807 ∧ (c.w.length : Int) ≤ 9223372036854775807
theorem szNote_eq {l : List Nt} {a : Int} (h0 : 0 ≤ a) (h1 : a ≤ 1048576) (hl : (l.length : Int) ≤ 9223372036854775807) : (l_szNoteS fl l a = some (a - (l.length : Int)) ∧ 0 ≤ a - (l.length : Int)) ∨ l_szNoteS fl l a = some (-1) := by
  unfold l_szNoteS
  rw [ck_in (by omega)]
  simp only [obs]
  by_cases h : a - (l.length : Int) < 0
  · right; rw [decide_eq_true h, cot]
  · left; rw [decide_eq_false h, cof]; exact ⟨rfl, by omega⟩
theorem szCpu_eq {c : Cp} {a : Int} (h0 : 0 ≤ a) (h1 : a ≤ 1048576) (hn : (c.n.length : Int) ≤ 9223372036854775807) (hw : (c.w.length : Int) ≤ 9223372036854775807) : (∃ v, l_szCpu fl c a = some v ∧ 0 ≤ v ∧ v + (c.n.length + c.w.length : Nat) = a) ∨ l_szCpu fl c a = some (-1) := by
  unfold l_szCpu
  rcases szNote_eq (fl := fl) h0 h1 hn with ⟨e, h2⟩ | e
  · rw [e]
    simp only [obs, decide_eq_false (by omega : ¬ a - (c.n.length : Int) < 0), cof]
    rcases szNote_eq (fl := fl) (l := c.w) h2 (by omega) hw with ⟨e, h3⟩ | e
    · rw [e]
      simp only [obs, decide_eq_false (by omega : ¬ a - (c.n.length : Int) - (c.w.length : Int) < 0), cof]
      left; exact ⟨_, rfl, h3, by omega⟩
    · rw [e]; right; rfl
  · rw [e]; right; rfl
theorem szCpus_L0 {l : List Cp} (hl : l.length ≤ 1048576) (hs : ∀ c ∈ l, (c.n.length : Int) ≤ 9223372036854775807 ∧ (c.w.length : Int) ≤ 9223372036854775807) : ∀ (fuel i : Nat) (a : Int), i ≤ l.length → l.length - i < fuel → 0 ≤ a → a ≤ 1048576 →
    (∃ v, l_szCpuS_L0 fl l fuel a (i : Int) = some (.out (v, (l.length : Int))) ∧ 0 ≤ v ∧ v + (tot (l.drop i) : Nat) = a) ∨ l_szCpuS_L0 fl l fuel a (i : Int) = some (.ret (-1))
  | 0, i, a, _, h, _, _ => by omega
  | fuel + 1, i, a, hi, hf, h0, h1 => by
    rw [l_szCpuS_L0.eq_2]
    by_cases h : i < l.length
    · obtain ⟨q1, q2⟩ := hs l[i] (List.getElem_mem h)
      rw [lt_dec h, cot, idx_nat h, ck_succ (by omega)]
      simp only [obs]
      rcases szCpu_eq (fl := fl) h0 h1 q1 q2 with ⟨v, e, h2, h3⟩ | e
      · rw [e]
        simp only [obs, decide_eq_false (by omega : ¬ v < 0), cof]
        rcases szCpus_L0 hl hs fuel (i + 1) v (by omega) (by omega) h2 (by omega) with ⟨u, e, h4, h5⟩ | e
        · left; exact ⟨u, e, h4, by rw [tot_drop h]; omega⟩
        · right; exact e
      · rw [e]; right; rfl
    · have e : i = l.length := by omega
      subst e
      rw [nlt_dec, cof]
      left; exact ⟨a, rfl, h0, by simp [tot]⟩
theorem szSystem_eq {s : Sy} (h : lens s) (hf : 1048576 < fl) : (sm s ∧ ∃ x, l_szSystem fl s 1048576 = some x ∧ decide (x < 0) = false) ∨ ∃ x, l_szSystem fl s 1048576 = some x ∧ decide (x < 0) = true := by
  obtain ⟨h1, h2, h3, h4⟩ := h
  unfold l_szSystem l_szCpuS
  have ht : (∃ x, l_szTable fl s.t 1048576 = some x ∧ 0 ≤ x ∧ x + (s.t.b.length + s.t.f.length : Nat) = 1048576) ∨ l_szTable fl s.t 1048576 = some (-1) := by
    unfold l_szTable l_szIntS l_szFrameS
    rw [ck_in (by omega)]
    simp only [obs]
    by_cases q1 : (1048576 : Int) - (s.t.b.length : Int) < 0
    · rw [decide_eq_true q1]; right; rfl
    rw [decide_eq_false q1]
    simp only [cof, obs, decide_eq_false q1]
    rw [ck_in (by omega)]
    simp only [obs]
    by_cases q2 : (1048576 : Int) - (s.t.b.length : Int) - (s.t.f.length : Int) < 0
    · rw [decide_eq_true q2]; right; rfl
    rw [decide_eq_false q2]
    simp only [cof, obs, decide_eq_false q2]
    left; exact ⟨_, rfl, by omega, by omega⟩
  rcases ht with ⟨x, e, p1, p2⟩ | e
  · rw [e]
    simp only [obs, decide_eq_false (by omega : ¬ x < 0), cof]
    rw [ck_in (by omega)]
    simp only [obs]
    by_cases q3 : x - (s.c.length : Int) < 0
    · rw [decide_eq_true q3]; right; exact ⟨-1, rfl, rfl⟩
    rw [decide_eq_false q3]
    simp only [cof, obs]
    rcases szCpus_L0 (fl := fl) (l := s.c) (by omega) h4 fl 0 (x - (s.c.length : Int)) (by omega) (by omega) (by omega) (by omega) with ⟨v, e, p3, p4⟩ | e
    · rw [show ((0 : Nat) : Int) = 0 from rfl] at e
      rw [e]
      simp only [obs, decide_eq_false (by omega : ¬ v < 0), cof]
      rw [List.drop_zero] at p4
      left; exact ⟨⟨by omega, by omega⟩, v, rfl, decide_eq_false (by omega)⟩
    · rw [show ((0 : Nat) : Int) = 0 from rfl] at e
      rw [e]; right; exact ⟨-1, rfl, rfl⟩
  · rw [e]; right; exact ⟨-1, rfl, rfl⟩
/-! ### copies -/
theorem all_of {α : Type} {v a : List α} (hl : v.length = a.length) (h : ∀ j, j < a.length → v[j]? = a[j]?) : v = a := by
  apply List.ext_getElem?
  intro j
  by_cases hj : j < a.length
  · exact h j hj
  · rw [List.getElem?_eq_none (by omega), List.getElem?_eq_none (by omega)]
theorem toNoteS_eq {a : List Nt} (hl : a.length ≤ 1048576) (hf : 1048576 < fl) : l_toNoteS fl a = some a := by
  unfold l_toNoteS
  rw [mkO_nat hl]
  simp only [obs]
  obtain ⟨v, ⟨h1, h2⟩, e⟩ := loop_fold0 (L := fun fu v i => l_toNoteS_L0 fl a fu v i) (n := a.length) (fun i v => v.set i (a.getD i nt0)) (fun i v => v.length = a.length ∧ ∀ j, j < i → v[j]? = a[j]?) (fun v => LO.out (v, (a.length : Int))) hl hf (List.replicate a.length (⟨(⟨0, 0⟩ : K), 0⟩ : Nt)) ⟨by simp, fun j hj => by omega⟩
    (fun fuel i v h hi => by
      obtain ⟨q1, q2⟩ := hi
      have h' : i < v.length := by omega
      refine ⟨?_, by simpa using q1, fun j hj => ?_⟩
      · show l_toNoteS_L0 fl a (fuel + 1) v i = _
        rw [l_toNoteS_L0.eq_2, lt_dec h, cot, idx_nat h, idx_nat h', ck_succ (by omega)]
        simp only [obs, l_toNote, l_toKey, Int.toNat_natCast, List.getD_eq_getElem?_getD, List.getElem?_eq_getElem h, Option.getD_some]
      · rw [List.getElem?_set]
        split
        · rename_i e; subst e; simp [h', h]
        · exact q2 j (by omega))
    (fun fuel v hv => by show l_toNoteS_L0 fl a (fuel + 1) v _ = _; rw [l_toNoteS_L0.eq_2, nlt_dec, cof])
  rw [show l_toNoteS_L0 fl a fl (List.replicate a.length (⟨(⟨0, 0⟩ : K), 0⟩ : Nt)) 0 = _ from e]
  simp only [obs, all_of h1 h2]
theorem toCpuS_eq {a : List Cp} (hl : a.length ≤ 1048576) (hs : ∀ c ∈ a, c.n.length + c.w.length ≤ 1048576) (hf : 1048576 < fl) : l_toCpuS fl a = some a := by
  unfold l_toCpuS
  rw [mkO_nat hl]
  simp only [obs]
  obtain ⟨v, ⟨h1, h2⟩, e⟩ := loop_fold0 (L := fun fu v i => l_toCpuS_L0 fl a fu v i) (n := a.length) (fun i v => v.set i (a.getD i cp0)) (fun i v => v.length = a.length ∧ ∀ j, j < i → v[j]? = a[j]?) (fun v => LO.out (v, (a.length : Int))) hl hf (List.replicate a.length (⟨[], []⟩ : Cp)) ⟨by simp, fun j hj => by omega⟩
    (fun fuel i v h hi => by
      obtain ⟨q1, q2⟩ := hi
      have h' : i < v.length := by omega
      have hc := hs a[i] (List.getElem_mem h)
      refine ⟨?_, by simpa using q1, fun j hj => ?_⟩
      · show l_toCpuS_L0 fl a (fuel + 1) v i = _
        rw [l_toCpuS_L0.eq_2, lt_dec h, cot, idx_nat h, idx_nat h', ck_succ (by omega)]
        simp only [obs, l_toCpu, toNoteS_eq (by omega : a[i].n.length ≤ 1048576) hf, toNoteS_eq (by omega : a[i].w.length ≤ 1048576) hf, Int.toNat_natCast, List.getD_eq_getElem?_getD, List.getElem?_eq_getElem h, Option.getD_some]
      · rw [List.getElem?_set]
        split
        · rename_i e; subst e; simp [h', h]
        · exact q2 j (by omega))
    (fun fuel v hv => by show l_toCpuS_L0 fl a (fuel + 1) v _ = _; rw [l_toCpuS_L0.eq_2, nlt_dec, cof])
  rw [show l_toCpuS_L0 fl a fl (List.replicate a.length (⟨[], []⟩ : Cp)) 0 = _ from e]
  simp only [obs, all_of h1 h2]
theorem toSystem_eq {s : Sy} (h : sm s) (hf : 1048576 < fl) : l_toSystem fl s = some s := by
  unfold l_toSystem
  rw [toTable_eq h.t hf, toCpuS_eq h.small.2.1 h.small.2.2 hf]; simp only [obs]
/-! ### equality -/
theorem eqNote_self (x : Nt) : l_eqNote fl x x = some true := by simp [l_eqNote, l_eqKey]
theorem eqNoteS_self {a : List Nt} (hl : a.length ≤ 1048576) (hf : 1048576 < fl) : l_eqNoteS fl a a = some true := by
  unfold l_eqNoteS
  rcases loop_first0 (L := l_eqNoteS_L0 fl a a) (n := a.length) (fun _ => false) (fun _ => false) hl hf (fun fuel i h => by
      rw [l_eqNoteS_L0.eq_2, lt_dec h, cot, idx_nat h, ck_succ (by omega)]
      simp only [obs, eqNote_self, Bool.not_true, cof]) (fun fuel => by rw [l_eqNoteS_L0.eq_2, nlt_dec, cof]) with ⟨_, _, h, _⟩ | ⟨_, e⟩
  · cases h
  · rw [e]; simp only [bne_self_eq_false, cof, obs]
theorem eqCpuS_self {a : List Cp} (hl : a.length ≤ 1048576) (hs : ∀ c ∈ a, c.n.length + c.w.length ≤ 1048576) (hf : 1048576 < fl) : l_eqCpuS fl a a = some true := by
  unfold l_eqCpuS
  rcases loop_first0 (L := l_eqCpuS_L0 fl a a) (n := a.length) (fun _ => false) (fun _ => false) hl hf (fun fuel i h => by
      have hc := hs a[i] (List.getElem_mem h)
      rw [l_eqCpuS_L0.eq_2, lt_dec h, cot, idx_nat h, ck_succ (by omega)]
      simp only [obs, l_eqCpu, eqNoteS_self (by omega : a[i].n.length ≤ 1048576) hf, eqNoteS_self (by omega : a[i].w.length ≤ 1048576) hf, Bool.not_true, cof]) (fun fuel => by rw [l_eqCpuS_L0.eq_2, nlt_dec, cof]) with ⟨_, _, h, _⟩ | ⟨_, e⟩
  · cases h
  · rw [e]; simp only [bne_self_eq_false, cof, obs]
theorem eqSystem_self {s : Sy} (h : sm s) (hf : 1048576 < fl) : l_eqSystem fl s s = some true := by
  unfold l_eqSystem
  rw [eqTable_self h.t hf, eqCpuS_self h.small.2.1 h.small.2.2 hf]; simp only [obs, Bool.not_true, cof]

theorem take_s {α : Type} : ∀ {l : List α} {i : Nat} (h : i < l.length), l.take (i + 1) = l.take i ++ [l[i]]
  | [], i, h => by simp at h
  | x :: l, 0, h => by simp
  | x :: l, i + 1, h => by
    have := take_s (l := l) (i := i) (by simpa using h)
    simp only [List.take_succ_cons, this, List.getElem_cons_succ, List.cons_append]
/-! ### copies -/
/-! ### a key is dropped -/
/-! ### giving up -/

/-! ### giving up -/
/-! ### settling -/
/-! ### looking -/

def mkN (c : Nat) : Nt := ⟨⟨(c : Int), ((c + 1 : Nat) : Int)⟩, ((c + 1 + 1 : Nat) : Int)⟩
theorem mkN_s (c : Nat) : (mkN c).k.s = (c : Int) := by rw [mkN]
theorem mkN_p (c : Nat) : (mkN c).k.p = ((c + 1 : Nat) : Int) := by rw [mkN]
theorem mkN_f (c : Nat) : (mkN c).fr = ((c + 1 + 1 : Nat) : Int) := by rw [mkN]
def mkNs (s n : Nat) : List Nt := (List.range n).map fun j => mkN (s + 3 * j)
theorem mkNs_len (s n : Nat) : (mkNs s n).length = n := by simp [mkNs]
theorem mkNs_get {s n j : Nat} (h : j < n) : (mkNs s n)[j]? = some (mkN (s + 3 * j)) := by simp [mkNs, h]
theorem markNoteS_L0 {a : List Nt} {s : Nat} (hs : s ≤ 12000000) (hl : a.length ≤ 1048576) : ∀ (fuel i : Nat) (v : List Nt), v.length = a.length → i ≤ a.length → a.length - i < fuel → (∀ j, j < i → v[j]? = some (mkN (s + 3 * j))) →
    l_markNoteS_L0 fl a fuel v ((s + 3 * i : Nat) : Int) i = some (.out (mkNs s a.length, ((s + 3 * a.length : Nat) : Int), (a.length : Int))) := by
  intro fuel
  induction fuel with
  | zero => intro i v _ _ h _; omega
  | succ fuel ih =>
    intro i v hv hi hf ht
    rw [l_markNoteS_L0.eq_2]
    by_cases h : i < a.length
    · have h2 : i < v.length := by omega
      rw [lt_dec h, cot, idx_nat h2, c1 (s + 3 * i) (by omega)]
      simp only [obs, Int.toNat_natCast]
      rw [idx_set_nat (by simpa using h2), c1 _ (by omega)]
      simp only [obs, Int.toNat_natCast]
      rw [idx_set_nat (by simpa using h2), c1 _ (by omega), c1 i (by omega)]
      simp only [obs, Int.toNat_natCast]
      have e5 : s + 3 * i + 1 + 1 + 1 = s + 3 * (i + 1) := by omega
      rw [e5]
      refine ih (i + 1) _ (by simp [hv]) (by omega) (by omega) fun j hj => ?_
      rw [List.getElem?_set]
      split
      · rename_i e; subst e; simp [h2, mkN]
      · rename_i e
        have hj' : j < i := by omega
        simp only [List.getElem?_set, e, if_false]
        exact ht j hj'
    · have e : i = a.length := by omega
      subst e
      rw [nlt_dec, cof]
      have : v = mkNs s a.length := all_of (by rw [mkNs_len]; exact hv) fun j hj => by
        rw [mkNs_len] at hj
        rw [ht j hj, mkNs_get hj]
      rw [this]
theorem markNoteS_eq {a : List Nt} {s : Nat} (hs : s ≤ 12000000) (hl : a.length ≤ 1048576) (hf : 1048576 < fl) : l_markNoteS fl a s = some (((s + 3 * a.length : Nat) : Int), mkNs s a.length) := by
  have h := markNoteS_L0 (fl := fl) hs hl fl 0 a rfl (by omega) (by omega) (fun j hj => by omega)
  unfold l_markNoteS
  simp only [Nat.mul_zero, Nat.add_zero, show ((0 : Nat) : Int) = 0 from rfl] at h
  rw [h]; simp only [obs]
theorem heldNoteS_eq {s n : Nat} (hs : s ≤ 12000000) (hl : n ≤ 1048576) (hf : 1048576 < fl) : l_heldNoteS fl (mkNs s n) s = some ((s + 3 * n : Nat) : Int) := by
  have key : ∀ (fuel i : Nat), i ≤ n → n - i < fuel → l_heldNoteS_L0 fl (mkNs s n) fuel ((s + 3 * i : Nat) : Int) i = some (.out (((s + 3 * n : Nat) : Int), (n : Int))) := by
    intro fuel
    induction fuel with
    | zero => intro i _ h; omega
    | succ fuel ih =>
      intro i hi hf
      rw [l_heldNoteS_L0.eq_2, mkNs_len]
      by_cases h : i < n
      · have e := mkNs_get (s := s) h
        have h' : i < (mkNs s n).length := by rw [mkNs_len]; exact h
        rw [List.getElem?_eq_getElem h', Option.some.injEq] at e
        rw [lt_dec h, cot, idx_nat h', c1 (s + 3 * i) (by omega)]
        simp only [obs, e, mkN_s, mkN_p, mkN_f, bne_self_eq_false, cof]
        rw [c1 _ (by omega)]
        simp only [obs, bne_self_eq_false, cof]
        rw [c1 _ (by omega), c1 i (by omega)]
        simp only [obs, bne_self_eq_false, cof]
        have e5 : s + 3 * i + 1 + 1 + 1 = s + 3 * (i + 1) := by omega
        rw [e5]
        exact ih (i + 1) (by omega) (by omega)
      · have e : i = n := by omega
        subst e
        rw [nlt_dec, cof]
  have h := key fl 0 (by omega) (by omega)
  unfold l_heldNoteS
  simp only [Nat.mul_zero, Nat.add_zero, show ((0 : Nat) : Int) = 0 from rfl] at h
  rw [h]; simp only [obs]
def mkC : Nat → List Cp → List Cp
  | _, [] => []
  | s, c :: l => ⟨mkNs s c.n.length, mkNs (s + 3 * c.n.length) c.w.length⟩ :: mkC (s + 3 * (c.n.length + c.w.length)) l
theorem mkC_len : ∀ (l : List Cp) (s : Nat), (mkC s l).length = l.length
  | [], _ => rfl
  | c :: l, s => by simp [mkC, mkC_len l]
theorem mkC_get : ∀ {l : List Cp} {s i : Nat} (h : i < l.length), (mkC s l)[i]? = some ⟨mkNs (s + 3 * tot (l.take i)) l[i].n.length, mkNs (s + 3 * tot (l.take i) + 3 * l[i].n.length) l[i].w.length⟩
  | [], _, _, h => by simp at h
  | c :: l, s, 0, h => by simp [mkC, tot]
  | c :: l, s, i + 1, h => by
    have := mkC_get (l := l) (s := s + 3 * (c.n.length + c.w.length)) (i := i) (by simpa using h)
    simp only [mkC, List.getElem?_cons_succ, this, List.take_succ_cons, tot, List.getElem_cons_succ]
    rw [show s + 3 * (c.n.length + c.w.length) + 3 * tot (l.take i) = s + 3 * (c.n.length + c.w.length + tot (l.take i)) from by omega]
theorem markCpuS_eq {a : List Cp} {s : Nat} (hs : s ≤ 6000000) (hl : a.length + tot a ≤ 1048576) (hf : 1048576 < fl) : l_markCpuS fl a s = some (((s + 3 * tot a : Nat) : Int), mkC s a) := by
  have key : ∀ (fuel i : Nat) (v : List Cp), v.length = a.length → i ≤ a.length → a.length - i < fuel → (∀ j, j < i → v[j]? = (mkC s a)[j]?) → (∀ j, i ≤ j → v[j]? = a[j]?) →
      l_markCpuS_L0 fl a fuel v ((s + 3 * tot (a.take i) : Nat) : Int) i = some (.out (mkC s a, ((s + 3 * tot a : Nat) : Int), (a.length : Int))) := by
    intro fuel
    induction fuel with
    | zero => intro i v _ _ h _; omega
    | succ fuel ih =>
      intro i v hv hi hf' ht hr
      rw [l_markCpuS_L0.eq_2]
      by_cases h : i < a.length
      · have h2 : i < v.length := by omega
        have e1 : v[i] = a[i] := by
          have := hr i (Nat.le_refl _)
          rw [List.getElem?_eq_getElem h, List.getElem?_eq_getElem h2] at this
          simpa using this
        have hm := tot_mem (List.getElem_mem h)
        have hsp := tot_split a i
        have htk := tot_take h
        have hsp1 := tot_split a (i + 1)
        rw [lt_dec h, cot, idx_nat h2, e1, c1 i (by omega)]
        simp only [obs]
        rw [markNoteS_eq (by omega) (by omega) hf]
        simp only [obs]
        rw [markNoteS_eq (by omega) (by omega) hf]
        simp only [obs, Int.toNat_natCast]
        rw [show s + 3 * tot (a.take i) + 3 * a[i].n.length + 3 * a[i].w.length = s + 3 * tot (a.take (i + 1)) from by omega]
        refine ih (i + 1) _ (by simpa using hv) (by omega) (by omega) (fun j hj => ?_) (fun j hj => ?_)
        · rw [List.getElem?_set]
          split
          · rename_i e; subst e; rw [mkC_get h]
          · exact ht j (by omega)
        · rw [List.getElem?_set_ne (by omega)]; exact hr j (by omega)
      · have e : i = a.length := by omega
        subst e
        rw [nlt_dec, cof, List.take_length]
        rw [show v = mkC s a from all_of (by rw [mkC_len]; exact hv) fun j hj => ht j (by rw [mkC_len] at hj; exact hj)]
  have h := key fl 0 a rfl (by omega) (by omega) (fun j hj => by omega) (fun _ _ => rfl)
  unfold l_markCpuS
  simp only [List.take_zero, tot, Nat.mul_zero, Nat.add_zero, show ((0 : Nat) : Int) = 0 from rfl] at h
  rw [h]; simp only [obs]
theorem heldCpuS_eq {a : List Cp} {s : Nat} (hs : s ≤ 6000000) (hl : a.length + tot a ≤ 1048576) (hf : 1048576 < fl) : l_heldCpuS fl (mkC s a) s = some ((s + 3 * tot a : Nat) : Int) := by
  have key : ∀ (fuel i : Nat), i ≤ a.length → a.length - i < fuel → l_heldCpuS_L0 fl (mkC s a) fuel ((s + 3 * tot (a.take i) : Nat) : Int) i = some (.out (((s + 3 * tot a : Nat) : Int), (a.length : Int))) := by
    intro fuel
    induction fuel with
    | zero => intro i _ h; omega
    | succ fuel ih =>
      intro i hi hf'
      rw [l_heldCpuS_L0.eq_2, mkC_len]
      by_cases h : i < a.length
      · have h' : i < (mkC s a).length := by rw [mkC_len]; exact h
        have e := mkC_get (s := s) h
        rw [List.getElem?_eq_getElem h', Option.some.injEq] at e
        have hm := tot_mem (List.getElem_mem h)
        have hsp := tot_split a i
        have htk := tot_take h
        have hsp1 := tot_split a (i + 1)
        rw [lt_dec h, cot, idx_nat h', c1 i (by omega)]
        simp only [obs, e]
        rw [heldNoteS_eq (by omega) (by omega) hf]
        simp only [obs]
        rw [decide_eq_false (by omega), cof, heldNoteS_eq (by omega) (by omega) hf]
        simp only [obs]
        rw [decide_eq_false (by omega), cof]
        rw [show s + 3 * tot (a.take i) + 3 * a[i].n.length + 3 * a[i].w.length = s + 3 * tot (a.take (i + 1)) from by omega]
        exact ih (i + 1) (by omega) (by omega)
      · have e : i = a.length := by omega
        subst e
        rw [nlt_dec, cof, List.take_length]
  have h := key fl 0 (by omega) (by omega)
  unfold l_heldCpuS
  simp only [List.take_zero, tot, Nat.mul_zero, Nat.add_zero, show ((0 : Nat) : Int) = 0 from rfl] at h
  rw [h]; simp only [obs]
/-- what is marked is held -/
theorem markSystem_held {s : Sy} (h : sm s) (hf : 1048576 < fl) : ∃ (v : Int) (b : List Int) (f : List F) (c : List Cp), l_markSystem fl s 1 = some (v, b, f, c) ∧ decide (v < 0) = false ∧ l_heldSystem fl ⟨⟨b, f⟩, c⟩ 1 = some v := by
  have ht := h.t
  have hc := h.c
  obtain ⟨b, h1, h2, h3⟩ := markIntS_eq (fl := fl) (a0 := s.t.b) (s := 1) (by omega) (by omega) hf
  obtain ⟨f, g1, g2, g3⟩ := markFrameS_eq (fl := fl) (a0 := s.t.f) (s := 1 + s.t.b.length) (by omega) (by omega) hf
  have h1' : l_markIntS fl s.t.b 1 = _ := h1
  have k1 : l_heldIntS fl b 1 = _ := heldIntS_eq (fl := fl) (m := b) (s := 1) (by omega) (by omega) (fun j hj => h3 j (by omega)) hf
  have k2 := heldFrameS_eq (fl := fl) (m := f) (s := 1 + s.t.b.length) (by omega) (by omega) (fun j hj => g3 j (by omega)) hf
  have k3 := markCpuS_eq (fl := fl) (a := s.c) (s := 1 + s.t.b.length + 5 * s.t.f.length) (by omega) hc hf
  have k4 := heldCpuS_eq (fl := fl) (a := s.c) (s := 1 + s.t.b.length + 5 * s.t.f.length) (by omega) hc hf
  refine ⟨((1 + s.t.b.length + 5 * s.t.f.length + 3 * tot s.c : Nat) : Int), b, f, mkC (1 + s.t.b.length + 5 * s.t.f.length) s.c, ?_, decide_eq_false (by omega), ?_⟩
  · unfold l_markSystem l_markTable
    rw [h1']
    simp only [obs]
    rw [g1]
    simp only [obs]
    rw [k3]
    simp only [obs]
  · unfold l_heldSystem l_heldTable
    rw [k1]
    simp only [obs, h2]
    rw [decide_eq_false (by omega), cof, k2]
    simp only [obs, g2]
    rw [decide_eq_false (by omega), cof]
    simp only [obs]
    rw [decide_eq_false (by omega), cof, k4]
    simp only [obs]
    rw [decide_eq_false (by omega), cof]

def hitB (fr : Int) (k : K) (x : Nt) : Bool := x.fr == fr || x.k == k
theorem heldB_eq (s : Sy) (fr : Int) (k : K) : heldB s fr k = s.c.any fun c => c.w.any (hitB fr k) := rfl
theorem sHeld_L1 {s : Sy} {fr : Int} {k : K} {i : Nat} (hi : i < s.c.length) (hw : s.c[i].w.length ≤ 1048576) (hf : 1048576 < fl) :
    (s.c[i].w.any (hitB fr k) = true ∧ s_l8Held_L1 fl s fr k (i : Int) fl 0 = some (.ret true)) ∨ (s.c[i].w.any (hitB fr k) = false ∧ ∃ v, s_l8Held_L1 fl s fr k (i : Int) fl 0 = some (.out v)) := by
  rcases loop_first0 (L := s_l8Held_L1 fl s fr k (i : Int)) (n := s.c[i].w.length) (fun j => hitB fr k (s.c[i].w.getD j nt0)) (fun _ => true) hw hf (fun fuel j h => by
      rw [s_l8Held_L1.eq_2, idx_nat hi]
      simp only [obs]
      rw [lt_dec h, cot, idx_nat h, ck_succ (by omega)]
      have eg : s.c[i].w.getD j nt0 = s.c[i].w[j] := by simp [h]
      rw [eg]
      unfold hitB
      simp only [obs]
      cases (s.c[i].w[j].fr == fr) <;> simp only [cot, cof, obs, Bool.true_or, Bool.false_or]) (fun fuel => by rw [s_l8Held_L1.eq_2, idx_nat hi]; simp only [obs]; rw [nlt_dec, cof]) with ⟨m, h1, h2, h3, e⟩ | ⟨h1, e⟩
  · left
    refine ⟨?_, e⟩
    rw [List.any_eq_true]
    exact ⟨s.c[i].w[m], List.getElem_mem h1, by simpa [h1] using h2⟩
  · right
    refine ⟨?_, _, e⟩
    rw [List.any_eq_false]
    intro x hx
    obtain ⟨j, hj, rfl⟩ := List.getElem_of_mem hx
    have := h1 j hj
    simpa [hj] using this
theorem sHeld_eq {s : Sy} {fr : Int} {k : K} (hs : small s) (hf : 1048576 < fl) : s_l8Held fl s fr k = some (heldB s fr k) := by
  unfold s_l8Held
  rcases loop_first0 (L := s_l8Held_L0 fl s fr k) (n := s.c.length) (fun i => (s.c.getD i cp0).w.any (hitB fr k)) (fun _ => true) hs.2.1 hf (fun fuel i hi => by
      have hc := hs.2.2 s.c[i] (List.getElem_mem hi)
      have eg : s.c.getD i cp0 = s.c[i] := by simp [hi]
      rw [s_l8Held_L0.eq_2, lt_dec hi, cot, ck_succ (by have := hs.2.1; omega), eg]
      rcases sHeld_L1 (fl := fl) (fr := fr) (k := k) hi (by omega) hf with ⟨a, e⟩ | ⟨a, v, e⟩
      · rw [e, a]; simp only [obs, cot]
      · rw [e, a]; simp only [obs, cof]) (fun fuel => by rw [s_l8Held_L0.eq_2, nlt_dec, cof]) with ⟨m, h1, h2, h3, e⟩ | ⟨h1, e⟩
  · rw [e]; simp only [obs]
    congr 1; symm
    rw [heldB_eq, List.any_eq_true]
    exact ⟨s.c[m], List.getElem_mem h1, by simpa [h1] using h2⟩
  · rw [e]; simp only [obs]
    congr 1; symm
    rw [heldB_eq, List.any_eq_false]
    intro c hc
    obtain ⟨j, hj, rfl⟩ := List.getElem_of_mem hc
    have := h1 j hj
    simpa [hj] using this

/-! ### unmapping -/
/-! ### new systems -/

/-! ### drawing -/
def Wd (m : Nat) (s : Sy) : Prop := 1 ≤ s.t.b.length ∧ s.t.b.length + s.t.f.length ≤ 40 + 2 * m ∧ s.c.length ≤ 4 ∧ ∀ c ∈ s.c, c.n.length ≤ 4 + m ∧ c.w.length ≤ 4 + m
theorem Wd.small {m : Nat} {s : Sy} (h : Wd m s) (hm : m ≤ 100) : Go.Proofs.YtfnliecmagnkdabDoor.small s := ⟨by have := h.2.1; omega, by have := h.2.2.1; omega, fun c hc => by have := h.2.2.2 c hc; omega⟩

/-! ### looking again -/


def waits (l : List Cp) : List Int := l.flatMap fun c => c.w.map (·.fr)
theorem iHeld_L1 {c : Cp} (hw : c.w.length ≤ 1048576) (hf : 1048576 < fl) (v : List Int) (hv : v.length ≤ 1048576) : ∃ j, i_HeldFrames_L1 fl c fl 0 v = some (.out (j, v ++ c.w.map (·.fr))) := by
  obtain ⟨u, hu, e⟩ := loop_fold0 (L := fun fu (u : List Int) j => i_HeldFrames_L1 fl c fu j u) (n := c.w.length) (fun j u => u ++ [(c.w.getD j nt0).fr]) (fun j u => u = v ++ (c.w.take j).map (·.fr)) (fun u => LO.out ((c.w.length : Int), u)) hw hf v (by simp)
    (fun fuel j u hj hI => by
      have eg : c.w.getD j nt0 = c.w[j] := by simp [hj]
      have hl : u.length ≤ 1048576 + j := by rw [hI]; simp; omega
      refine ⟨?_, by rw [hI, take_s hj, eg, List.map_append, List.append_assoc]; rfl⟩
      show i_HeldFrames_L1 fl c (fuel + 1) j u = _
      rw [i_HeldFrames_L1.eq_2, lt_dec hj, cot, idx_nat hj, ck_succ (by omega), eg]
      simp only [obs]
      rw [cnt_in (by simp; omega)]
      simp only [obs])
    (fun fuel u hu => by show i_HeldFrames_L1 fl c (fuel + 1) _ u = _; rw [i_HeldFrames_L1.eq_2, nlt_dec, cof])
  rw [List.take_length] at hu
  exact ⟨_, by rw [← hu]; exact e⟩
theorem waits_snoc (l : List Cp) (c : Cp) : waits (l ++ [c]) = waits l ++ c.w.map (·.fr) := by simp [waits]
theorem waits_le {l : List Cp} {t : T} (h : ∀ c ∈ l, COk t c) : (waits l).length ≤ 4 * l.length := by
  induction l with
  | nil => simp [waits]
  | cons c l ih =>
    have := ih fun d hd => h d (by simp [hd])
    have h1 := (h c (by simp)).w4
    simp only [waits, List.flatMap_cons, List.length_append, List.length_map, List.length_cons] at this ⊢
    omega
def heldI (s : Sy) : List Int := Lib.compact (srt (waits s.c))
noncomputable def heldR (s : Sy) : List Int := if sysOk s then heldI s else []
theorem iHeld_eq {s : Sy} (hs : small s) (hf : 1048576 < fl) : i_HeldFrames fl s = some (heldR s) := by
  unfold i_HeldFrames heldR
  rw [iValid_eq hs hf]
  simp only [obs]
  cases h : sysOk s with
  | false => simp [obs]
  | true =>
    simp only [Bool.not_true, cof, if_true]
    have hv := sysOk_iff.1 h
    have hc2 := hv.c2
    have hwl := waits_le hv.c
    obtain ⟨u, hu, e⟩ := loop_fold0 (L := fun fu (u : List Int) j => i_HeldFrames_L0 fl s fu j u) (n := s.c.length) (fun j u => u ++ (s.c.getD j cp0).w.map (·.fr)) (fun j u => u = waits (s.c.take j)) (fun u => LO.out ((s.c.length : Int), u)) (by omega) hf [] (by simp [waits])
      (fun fuel j u hj hI => by
        have eg : s.c.getD j cp0 = s.c[j] := by simp [hj]
        have hle : u.length ≤ 16 := by
          have := waits_le (l := s.c.take j) (t := s.t) fun c hc => hv.c c (List.mem_of_mem_take hc)
          rw [hI]
          have h2 : (s.c.take j).length ≤ 4 := by simp; omega
          omega
        have hw4 := (hv.c _ (List.getElem_mem hj)).w4
        refine ⟨?_, by rw [hI, take_s hj, eg, waits_snoc]⟩
        show i_HeldFrames_L0 fl s (fuel + 1) j u = _
        rw [i_HeldFrames_L0.eq_2, lt_dec hj, cot, idx_nat hj, ck_succ (by omega), eg]
        simp only [obs]
        obtain ⟨q, e2⟩ := iHeld_L1 (fl := fl) (c := s.c[j]) (by omega) hf u (by omega)
        rw [e2]
        simp only [obs])
      (fun fuel u hu => by show i_HeldFrames_L0 fl s (fuel + 1) _ u = _; rw [i_HeldFrames_L0.eq_2, nlt_dec, cof])
    rw [show i_HeldFrames_L0 fl s fl 0 [] = _ from e]
    simp only [obs]
    rw [List.take_length] at hu
    unfold slices_Sort_Int slices_Compact_Int
    rw [if_pos (by rw [hu]; omega)]
    simp only [obs]
    rw [if_pos (by rw [srt_len, hu]; omega), hu]
    simp only [obs]
    rfl

/-! ### unmapping and settling -/

/-! ### sorted lists -/
theorem sorted_ext : ∀ {a b : List Int}, a.Pairwise (· < ·) → b.Pairwise (· < ·) → (∀ x, x ∈ a ↔ x ∈ b) → a = b
  | [], [], _, _, _ => rfl
  | [], y :: b, _, _, h => absurd ((h y).2 (by simp)) (by simp)
  | x :: a, [], _, _, h => absurd ((h x).1 (by simp)) (by simp)
  | x :: a, y :: b, ha, hb, h => by
    rw [List.pairwise_cons] at ha hb
    have e : x = y := by
      have h1 := (h x).1 (by simp)
      have h2 := (h y).2 (by simp)
      rcases List.mem_cons.1 h1 with e | e
      · exact e
      · rcases List.mem_cons.1 h2 with e' | e'
        · exact e'.symm
        · have := hb.1 x e; have := ha.1 y e'; omega
    subst e
    rw [sorted_ext ha.2 hb.2 fun z => ⟨fun hz => ?_, fun hz => ?_⟩]
    · have := (h z).1 (by simp [hz])
      rcases List.mem_cons.1 this with e | e
      · have := ha.1 z hz; omega
      · exact e
    · have := (h z).2 (by simp [hz])
      rcases List.mem_cons.1 this with e | e
      · have := hb.1 z hz; omega
      · exact e
theorem srt_mem {l : List Int} {x : Int} : x ∈ srt l ↔ x ∈ l := by unfold srt; exact List.mem_mergeSort
theorem srt_sorted (l : List Int) : (srt l).Pairwise (· ≤ ·) := by
  unfold srt
  have := List.pairwise_mergeSort (le := fun x y : Int => decide (x ≤ y)) (fun a b c h1 h2 => by simp at *; omega) (fun a b => by simp; omega) l
  exact this.imp fun h => by simpa using h
theorem compact_spec (d : Array Int) (hs : ∀ i j, i ≤ j → j < d.size → d[i]! ≤ d[j]!) : ∀ m, m ≤ d.size → (Lib.compactUpTo d m).Pairwise (· < ·) ∧ ∀ x, x ∈ Lib.compactUpTo d m ↔ ∃ j, j < m ∧ d[j]! = x
  | 0, _ => ⟨by simp [Lib.compactUpTo], fun x => by simp [Lib.compactUpTo]⟩
  | m + 1, hm => by
    obtain ⟨h1, h2⟩ := compact_spec d hs m (by omega)
    rw [Lib.compactUpTo_succ]
    cases hk : Lib.keeps d m with
    | false =>
      simp only [Bool.false_eq_true, if_false, List.append_nil]
      refine ⟨h1, fun x => (h2 x).trans ⟨fun ⟨j, a, b⟩ => ⟨j, by omega, b⟩, fun ⟨j, a, b⟩ => ?_⟩⟩
      by_cases e : j = m
      · subst e
        have : ¬ (j = 0 ∨ d[j]! ≠ d[j - 1]!) := by simpa [Lib.keeps] using hk
        have h0 : j ≠ 0 := fun e => this (.inl e)
        have h3 : d[j]! = d[j - 1]! := Classical.byContradiction fun e => this (.inr e)
        exact ⟨j - 1, by omega, by rw [← h3]; exact b⟩
      · exact ⟨j, by omega, b⟩
    | true =>
      simp only [if_true]
      have hk' : m = 0 ∨ d[m]! ≠ d[m - 1]! := by simpa [Lib.keeps] using hk
      refine ⟨?_, fun x => ?_⟩
      · rw [List.pairwise_append]
        refine ⟨h1, by simp, fun a ha b hb => ?_⟩
        simp at hb
        subst hb
        obtain ⟨j, hj, rfl⟩ := (h2 a).1 ha
        rcases hk' with e | e
        · omega
        · have q1 := hs j (m - 1) (by omega) (by omega)
          have q2 := hs (m - 1) m (by omega) (by omega)
          omega
      · rw [List.mem_append, h2]
        simp only [List.mem_singleton]
        constructor
        · rintro (⟨j, a, b⟩ | e)
          · exact ⟨j, by omega, b⟩
          · exact ⟨m, by omega, e.symm⟩
        · rintro ⟨j, a, b⟩
          by_cases e : j = m
          · subst e; exact .inr b.symm
          · exact .inl ⟨j, by omega, b⟩
theorem compact_sorted {l : List Int} (h : l.Pairwise (· ≤ ·)) : (Lib.compact l).Pairwise (· < ·) ∧ ∀ x, x ∈ Lib.compact l ↔ x ∈ l := by
  have hs : ∀ i j, i ≤ j → j < l.toArray.size → l.toArray[i]! ≤ l.toArray[j]! := fun i j hij hj => by
    have hj' : j < l.length := by simpa using hj
    have hi' : i < l.length := by omega
    have e1 : l.toArray[i]! = l[i] := by simp [hi', getElem!_pos]
    have e2 : l.toArray[j]! = l[j] := by simp [hj', getElem!_pos]
    rw [e1, e2]
    rcases Nat.lt_or_eq_of_le hij with e | e
    · exact List.pairwise_iff_getElem.1 h i j hi' hj' e
    · subst e; exact Int.le_refl _
  obtain ⟨h1, h2⟩ := compact_spec l.toArray hs l.length (by simp)
  refine ⟨h1, fun x => (h2 x).trans ⟨fun ⟨j, hj, e⟩ => ?_, fun hx => ?_⟩⟩
  · have : l.toArray[j]! = l[j] := by simp [hj, getElem!_pos]
    rw [← e, this]; exact List.getElem_mem hj
  · obtain ⟨j, hj, rfl⟩ := List.getElem_of_mem hx
    exact ⟨j, hj, by simp [hj, getElem!_pos]⟩
/-! ### the held frames -/
theorem heldI_mem {s : Sy} {x : Int} : x ∈ heldI s ↔ ∃ c ∈ s.c, ∃ y ∈ c.w, y.fr = x := by
  unfold heldI
  rw [(compact_sorted (srt_sorted _)).2, srt_mem]
  simp only [waits, List.mem_flatMap, List.mem_map]
theorem heldI_sorted (s : Sy) : (heldI s).Pairwise (· < ·) := by unfold heldI; exact (compact_sorted (srt_sorted _)).1
theorem heldB_frame {s : Sy} (hv : SyOk s) {x : Int} : heldB s x ⟨-1, 0⟩ = true ↔ ∃ c ∈ s.c, ∃ y ∈ c.w, y.fr = x := by
  rw [heldB_eq, List.any_eq_true]
  constructor
  · rintro ⟨c, hc, h⟩
    obtain ⟨y, hy, h2⟩ := List.any_eq_true.1 h
    refine ⟨c, hc, y, hy, ?_⟩
    simp only [hitB, Bool.or_eq_true, beq_iff_eq] at h2
    rcases h2 with e | e
    · exact e
    · have hok := hv.c c hc
      have := hok.nk y (hok.wsub y hy)
      rw [e] at this
      exact absurd this (by decide)
  · rintro ⟨c, hc, y, hy, e⟩
    exact ⟨c, hc, List.any_eq_true.2 ⟨y, hy, by simp [hitB, e]⟩⟩
theorem heldS_eq {s : Sy} : heldS s = heldR s := by
  unfold heldS heldR
  split
  · rename_i h
    have hv := sysOk_iff.1 h
    refine sorted_ext ?_ (heldI_sorted s) fun x => ?_
    · refine List.Pairwise.filter _ ?_
      rw [List.pairwise_map]
      exact List.pairwise_lt_range.imp fun h => by omega
    · rw [heldI_mem, List.mem_filter, heldB_frame hv]
      constructor
      · exact fun h => h.2
      · rintro ⟨c, hc, y, hy, e⟩
        have := ((hv.c c hc).wf y hy).1
        refine ⟨List.mem_map.2 ⟨x.toNat, List.mem_range.2 (by omega), by omega⟩, c, hc, y, hy, e⟩
  · rfl
theorem range_snoc (i : Nat) : (List.range (i + 1)).map (fun (i : Nat) => (i : Int)) = (List.range i).map (fun (i : Nat) => (i : Int)) ++ [(i : Int)] := by rw [List.range_succ, List.map_append]; rfl
theorem sHeldF_eq {s : Sy} (hs : small s) (hf : 1048576 < fl) : s_HeldFrames fl s = some (heldR s) := by
  rw [← heldS_eq]
  unfold s_HeldFrames heldS
  have ht := hs.1
  cases h : sysOk s with
  | false =>
    have : s_HeldFrames_L0 fl s fl ([] : List Int) 0 = some (.out ([], 0)) := by
      obtain ⟨m, rfl⟩ : ∃ m, fl = m + 1 := ⟨fl - 1, by omega⟩
      rw [s_HeldFrames_L0.eq_2, sValid_eq hs hf, h]
      cases decide ((0 : Int) < (s.t.f.length : Int)) <;> simp only [cot, cof, obs]
    rw [this]
    simp only [obs]
    rfl
  | true =>
    obtain ⟨v, h1, e⟩ := loop_fold0 (L := fun fu v i => s_HeldFrames_L0 fl s fu v i) (n := s.t.f.length) (fun i v => if heldB s (i : Int) ⟨-1, 0⟩ then v ++ [(i : Int)] else v) (fun i v => v = ((List.range i).map fun (i : Nat) => (i : Int)).filter fun f => heldB s f ⟨-1, 0⟩) (fun v => LO.out (v, (s.t.f.length : Int))) (by omega) hf [] (by simp)
      (fun fuel i v hi hI => by
        have hl : v.length ≤ i := by rw [hI]; exact Nat.le_trans (List.length_filter_le _ _) (by simp)
        refine ⟨?_, ?_⟩
        · show s_HeldFrames_L0 fl s (fuel + 1) v i = _
          rw [s_HeldFrames_L0.eq_2, lt_dec hi, cot, sValid_eq hs hf, h]
          simp only [obs, cot]
          rw [sHeld_eq hs hf, ck_succ (by omega)]
          simp only [obs]
          cases heldB s (i : Int) ⟨-1, 0⟩ with
          | true => rw [cot, cnt_in (by simp; omega)]; simp only [obs]; rfl
          | false => rw [cof]; rfl
        · rw [range_snoc, List.filter_append, ← hI]
          cases hb : heldB s (i : Int) ⟨-1, 0⟩ <;> simp [hb])
      (fun fuel v hv => by show s_HeldFrames_L0 fl s (fuel + 1) v _ = _; rw [s_HeldFrames_L0.eq_2, nlt_dec, cof]; simp only [obs, cof])
    rw [show s_HeldFrames_L0 fl s fl ([] : List Int) 0 = _ from e]
    simp only [obs, h1]
    rfl
theorem heldR_le {s : Sy} : (heldR s).length ≤ 100 := by
  unfold heldR
  split
  · rename_i h
    have hv := sysOk_iff.1 h
    have h1 := waits_le hv.c
    have h2 := hv.c2
    have h3 := compact_le (srt (waits s.c))
    rw [srt_len] at h3
    unfold heldI
    omega
  · simp
theorem exactHeldFrames_true (s : Sy) (h : lens s) : l_FnExactHeldFrames 1048577 s = some true := by
  have hf : 1048576 < 1048577 := by decide
  generalize hfl : 1048577 = fl at hf
  unfold l_FnExactHeldFrames
  rcases szSystem_eq (fl := fl) h hf with ⟨hs, x, e, hx⟩ | ⟨x, e, hx⟩
  · have hl := heldR_le (s := s)
    obtain ⟨v1, b1, f1, k1, m1, n1, _⟩ := markSystem_held (fl := fl) hs hf
    obtain ⟨b, h1, h2, h3⟩ := markIntS_eq (fl := fl) (a0 := heldR s) (s := 1) (by omega) (by omega) hf
    have h1' : l_markIntS fl (heldR s) 1 = _ := h1
    have k1 : l_heldIntS fl b 1 = _ := heldIntS_eq (fl := fl) (m := b) (s := 1) (by omega) (by omega) (fun j hj => h3 j (by omega)) hf
    rw [h2] at k1
    rw [e]
    simp only [obs, hx, cof, toSystem_eq hs hf, sHeldF_eq hs.small hf, iHeld_eq hs.small hf, eqIntS_self (by omega : (heldR s).length ≤ 1048576) hf, eqSystem_self hs hf, Bool.not_true, m1, n1, h1', k1, bne_self_eq_false, decide_eq_false (by omega : ¬ ((1 + (heldR s).length : Nat) : Int) < 0)]
  · rw [e]; simp only [obs, hx, cot]
end Go.Proofs.YtfnliecmagnkdabDoor
