/- The program's KeysOf: the keys in use, sorted (at most 12 of them). -/
import Derived.Test.YtbhpohopfbcfgaaDoorLt
set_option linter.unusedSimpArgs false
set_option linter.unusedVariables false
namespace Go.Proofs.YtbhpohopfbcfgaaDoor
open Go.RowKit
variable {fl : Nat}
theorem iBefore_eq (a b : K) : i_KeyBefore fl a b = some (decide (a.s < b.s) || (a.s == b.s && decide (a.p < b.p))) := by
  unfold i_KeyBefore
  cases decide (a.s < b.s) <;> cases (a.s == b.s) <;> rfl
theorem iCmp_some (a b : K) : ∃ c, i_KeysOf_1 fl a b = some c := by
  unfold i_KeysOf_1
  rw [iBefore_eq]
  simp only [obs]
  cases (decide (a.s < b.s) || (a.s == b.s && decide (a.p < b.p))) <;> exact ⟨_, rfl⟩
theorem ins_L1 : ∀ (fuel i : Nat) (v : List K), i < v.length → i < fuel → v.length ≤ 1048576 → ∃ v' j, slices_insertionSortCmpFunc_Key_of_i_KeysOf_1_L1 fl 0 fuel v i = some (.out (v', j)) ∧ v'.Perm v := by
  intro fuel
  induction fuel with
  | zero => intro i v _ h; omega
  | succ fuel ih =>
    intro i v hi hf hl
    rw [slices_insertionSortCmpFunc_Key_of_i_KeysOf_1_L1.eq_2]
    by_cases h0 : i = 0
    · subst h0
      simp only [show decide (0 < ((0 : Nat) : Int)) = false from rfl, cof, obs]
      exact ⟨_, _, rfl, .refl _⟩
    · have hck : ck ((i : Int) - 1) = some ((i - 1 : Nat) : Int) := by rw [ck_in (by omega)]; congr 1; omega
      rw [decide_eq_true (by omega : 0 < (i : Int)), cot, idx_nat hi, hck]
      simp only [obs]
      rw [idx_nat (by omega : i - 1 < v.length)]
      simp only [obs]
      obtain ⟨c, hc⟩ := iCmp_some (fl := fl) v[i] v[i - 1]
      rw [hc]
      simp only [obs]
      cases decide (c < 0) with
      | false => rw [cof]; exact ⟨_, _, rfl, .refl _⟩
      | true =>
        rw [cot, idx_nat (by simp; omega)]
        simp only [obs]
        obtain ⟨v', j, e, hv⟩ := ih (i - 1) ((v.set (Int.toNat (i : Int)) v[i - 1]).set (Int.toNat ((i - 1 : Nat) : Int)) v[i]) (by simp; omega) (by omega) (by simpa using hl)
        refine ⟨v', j, e, hv.trans ?_⟩
        simp only [Int.toNat_natCast]
        exact List.set_set_perm hi (by omega)
theorem ins_L0 {n : Nat} (hn : n ≤ 1000) (hf : 1048576 < fl) : ∀ (fuel i : Nat) (v : List K), n + 1 - i < fuel → i ≤ n + 1 → v.length = n → ∃ v' j, slices_insertionSortCmpFunc_Key_of_i_KeysOf_1_L0 fl 0 (n : Int) fuel v i = some (.out (v', j)) ∧ v'.Perm v := by
  intro fuel
  induction fuel with
  | zero => intro i v h; omega
  | succ fuel ih =>
    intro i v hfu hi hv
    rw [slices_insertionSortCmpFunc_Key_of_i_KeysOf_1_L0.eq_2]
    by_cases h : i < n
    · rw [decide_eq_true (by omega : (i : Int) < (n : Int)), cot]
      obtain ⟨v1, j, e, hp⟩ := ins_L1 (fl := fl) fl i v (by omega) (by omega) (by omega)
      rw [e, ck_succ (by omega)]
      simp only [obs]
      obtain ⟨v', j', e', hp'⟩ := ih (i + 1) v1 (by omega) (by omega) (by rw [hp.length_eq]; exact hv)
      exact ⟨v', j', e', hp'.trans hp⟩
    · rw [decide_eq_false (by omega : ¬ (i : Int) < (n : Int)), cof]
      exact ⟨_, _, rfl, .refl _⟩
theorem sortK_some (hf : 1048576 < fl) {L : List K} (h : L.length ≤ 12) : ∃ M, slices_SortFunc_Key_of_i_KeysOf_1 fl L = some M ∧ M.Perm L := by
  obtain ⟨v, j, e, hp⟩ := ins_L0 (fl := fl) (n := L.length) (by omega) hf fl 1 L (by omega) (by omega) rfl
  unfold slices_SortFunc_Key_of_i_KeysOf_1 math_bits_Len slices_pdqsortCmpFunc_Key_of_i_KeysOf_1
  have hcu : ckU (L.length : Int) = some (L.length : Int) := ckU_in (by omega)
  rw [hcu]
  simp only [obs]
  rw [if_pos (by omega)]
  simp only [obs]
  obtain ⟨g, rfl⟩ : ∃ g, fl = g + 1 := ⟨fl - 1, by omega⟩
  rw [slices_pdqsortCmpFunc_Key_of_i_KeysOf_1_L0.eq_2]
  unfold slices_insertionSortCmpFunc_Key_of_i_KeysOf_1
  rw [show (L.length : Int) - 0 = L.length from by omega, ck_in (by omega)]
  simp only [obs]
  rw [decide_eq_true (by omega : (L.length : Int) ≤ 12), cot, show ck (0 + 1) = some ((1 : Nat) : Int) from rfl]
  simp only [obs]
  rw [e]
  simp only [obs]
  exact ⟨v, rfl, hp⟩
theorem usedKeys_cons (x : F) (l : List F) : usedKeys (x :: l) = if x.u then x.k :: usedKeys l else usedKeys l := by
  unfold usedKeys
  rw [List.filter_cons]
  split <;> rfl
theorem keysI_L0 {t : T} (hl : t.f.length ≤ 1000) : ∀ (fuel i : Nat) (v : List K), i ≤ t.f.length → t.f.length - i < fuel → v.length ≤ i → i_KeysOf_L0 fl t fuel i v = some (.out ((t.f.length : Int), v ++ usedKeys (t.f.drop i))) := by
  intro fuel
  induction fuel with
  | zero => intro i v _ h; omega
  | succ fuel ih =>
    intro i v hi hfu hv
    rw [i_KeysOf_L0.eq_2]
    by_cases h : i < t.f.length
    · rw [decide_eq_true (by omega : (i : Int) < (t.f.length : Int)), cot, idx_nat h, ck_succ (by omega)]
      simp only [obs]
      have hd : t.f.drop i = t.f[i] :: t.f.drop (i + 1) := (List.getElem_cons_drop ..).symm
      cases hu : t.f[i].u with
      | false =>
        rw [cof, ih (i + 1) v (by omega) (by omega) (by omega), hd, usedKeys_cons, hu]
        rfl
      | true =>
        rw [cot, cnt_in (by simp; omega)]
        simp only [obs]
        rw [ih (i + 1) _ (by omega) (by omega) (by simp; omega), hd, usedKeys_cons, hu]
        simp only [if_true, List.append_assoc, List.singleton_append]
    · have e : i = t.f.length := by omega
      subst e
      simp only [Int.lt_irrefl, decide_false, cof]
      simp [usedKeys]
theorem usedKeys_len (l : List F) : (usedKeys l).length ≤ l.length := by
  unfold usedKeys; rw [List.length_map]; exact List.length_filter_le ..
/-- the keys that the program lists are the keys in use, in some order that follows from them -/
theorem iKeys_eq {t : T} (ht : TOk t) (hf : 1048576 < fl) (h : t.f.length ≤ 1000) : i_KeysOf fl t = slices_SortFunc_Key_of_i_KeysOf_1 fl (usedKeys t.f) := by
  unfold i_KeysOf i_TableValid
  simp only [obs, tableOk_of ht, Bool.not_true, cof]
  have := keysI_L0 (fl := fl) h fl 0 [] (by omega) (by omega) (by simp)
  rw [show ((0 : Nat) : Int) = 0 from rfl] at this
  rw [this]
  simp only [obs, List.nil_append, List.drop_zero]
  cases slices_SortFunc_Key_of_i_KeysOf_1 fl (usedKeys t.f) <;> rfl
theorem ipKeys_L0 {M : List K} (hl : M.length ≤ 1048576) : ∀ (fuel i : Nat), i ≤ M.length → M.length - i < fuel → l_ipKeys_L0 fl M M fuel i = some (.out (M.length : Int)) := by
  intro fuel
  induction fuel with
  | zero => intro i _ h; omega
  | succ fuel ih =>
    intro i hi hf
    rw [l_ipKeys_L0.eq_2]
    by_cases h : i < M.length
    · rw [decide_eq_true (by omega : (i : Int) < (M.length : Int)), cot, idx_nat h, ck_succ (by omega)]
      simp only [obs, bne_self_eq_false, cof]
      exact ih (i + 1) (by omega) (by omega)
    · have e : i = M.length := by omega
      subst e
      simp only [Int.lt_irrefl, decide_false, cof]
theorem ipKeys_self {M : List K} (hl : M.length ≤ 1048576) (hf : 1048576 < fl) : l_ipKeys fl M M = some true := by
  unfold l_ipKeys
  have := ipKeys_L0 (fl := fl) hl fl 0 (by omega) (by omega)
  rw [show ((0 : Nat) : Int) = 0 from rfl] at this
  simp only [bne_self_eq_false, cof, this, obs]
end Go.Proofs.YtbhpohopfbcfgaaDoor
