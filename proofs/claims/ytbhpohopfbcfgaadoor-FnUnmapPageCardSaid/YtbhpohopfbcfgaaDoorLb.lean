/- Plain laws of the tables' functions, first part. -/
import Derived.Test.YtbhpohopfbcfgaaDoorLa
import Derived.Test.YtbhpohopfbcfgaaDoorPure2
set_option linter.unusedSimpArgs false
set_option linter.unusedVariables false
namespace Go.Proofs.YtbhpohopfbcfgaaDoor
open Go.RowKit
variable {fl : Nat}
theorem within_eq (a b : Int) : i_within fl a b = some (within a b) := by
  unfold i_within within; cases decide (0 ≤ a) <;> rfl
theorem iKey_eq (k : K) : i_KeyValid fl k = some (keyOk k) := by
  unfold i_KeyValid keyOk; rw [within_eq, within_eq]; cases within k.s 16 <;> rfl
theorem iRights_eq (r : Int) : i_RightsValid fl r = some (rightsOk r) := by
  unfold i_RightsValid rightsOk; rw [within_eq]; rfl
theorem sKey_eq (k : K) : s_KeyValid fl k = some (keyOk k) := by
  unfold s_KeyValid keyOk s_l1Space s_l1Page within
  cases decide (0 ≤ k.s) <;> cases decide (k.s < 16) <;> cases decide (0 ≤ k.p) <;> rfl
theorem sRights_eq (r : Int) : s_RightsValid fl r = some (rightsOk r) := by
  unfold s_RightsValid rightsOk within
  rw [show decide (r ≤ 7) = decide (r < 8) from by congr 1; apply propext; omega]
  cases decide (0 ≤ r) <;> rfl
theorem hash_bd {k : K} (hk : keyOk k = true) : 0 ≤ k.s * 256 ∧ k.s * 256 ≤ 3840 ∧ 0 ≤ k.s * 256 + k.p ∧ k.s * 256 + k.p ≤ 4095 := by
  rw [keyOk_iff] at hk; omega
theorem sHash_eq {k : K} {n : Int} (hk : keyOk k = true) (h1 : 1 ≤ n) (h2 : n ≤ 16) : s_l2Hash fl k n = some (hashI k n) := by
  obtain ⟨b1, b2, b3, b4⟩ := hash_bd hk
  unfold s_l2Hash hashI
  generalize hz : k.s * 256 + k.p = z at *
  rw [ck_in (by omega)]; simp only [obs]
  rw [hz, ck_in (by omega)]; simp only [obs]
  rw [ck_in (by omega)]; simp only [obs]
  have e1 : remO (z * 2654435761) 4294967296 = some (z * 2654435761 % 4294967296) := by
    unfold remO; rw [if_neg (by decide), Int.tmod_eq_emod_of_nonneg (by omega)]
  rw [e1]; simp only [obs]
  generalize hy : z * 2654435761 % 4294967296 = y
  have y1 : 0 ≤ y ∧ y < 4294967296 := by omega
  have y2 : 0 ≤ y * n := Int.mul_nonneg y1.1 (by omega)
  have y3 : y * n ≤ 4294967296 * 16 := Int.mul_le_mul (by omega) h2 (by omega) (by omega)
  rw [ck_in (by omega)]; simp only [obs]
  have e2 : quoO (y * n) 4294967296 = some (y * n / 4294967296) := by
    unfold quoO; rw [if_neg (by decide), Int.tdiv_eq_ediv_of_nonneg y2, ck_in (by omega)]
  rw [e2]; simp only [obs]
/-! ### copies -/
theorem clone_eq {t : T} (h : t.b.length + t.f.length ≤ 1048576) : i_Table_clone fl t = some t := by
  unfold i_Table_clone slices_Clone_Int slices_Clone_Frame
  rw [cnt_in (by omega), cnt_in (by omega)]; simp only [obs]
theorem copy_eq {t : T} (h : t.b.length + t.f.length ≤ 1048576) : s_l3Copy fl t = some t := by
  unfold s_l3Copy
  rw [cnt_in (by simp; omega), cnt_in (by simp; omega)]; simp only [obs, List.nil_append]

/-! ### the place of a key -/
theorem find1_eq (f : F) (k : K) : i_Table_find_1 fl f k = some (hasKey k f) := by
  unfold i_Table_find_1 hasKey
  rw [show (f.k == k) = decide (f.k = k) from rfl]
  cases f.u <;> simp
theorem indexFind_L0 {l : List F} {k : K} (hl : l.length ≤ 1048576) : ∀ (fuel i : Nat), i ≤ l.length → l.length - i < fuel → (∀ j, (h : j < l.length) → j < i → hasKey k l[j] = false) →
    (slices_IndexFunc_Frame_of_i_Table_find_1_L0 fl l k fuel i = some (.ret (findF l k))) ∨ (slices_IndexFunc_Frame_of_i_Table_find_1_L0 fl l k fuel i = some (.out (l.length : Int)) ∧ findF l k = -1) := by
  intro fuel
  induction fuel with
  | zero => intro i _ h _; omega
  | succ fuel ih =>
    intro i hi hf ht
    rw [slices_IndexFunc_Frame_of_i_Table_find_1_L0.eq_2]
    by_cases h : i < l.length
    · rw [decide_eq_true (by omega : (i : Int) < (l.length : Int)), cot, idx_nat h]
      simp only [obs, find1_eq]
      cases hk : hasKey k l[i] with
      | true => left; rw [cot, findF_some h hk (fun j hj => ht j (by omega) hj)]
      | false =>
        rw [cof, ck_succ (by omega)]
        simp only [obs]
        refine ih (i + 1) (by omega) (by omega) fun j hj hji => ?_
        by_cases e : j = i
        · subst e; exact hk
        · exact ht j hj (by omega)
    · have e : i = l.length := by omega
      subst e
      right
      simp only [Int.lt_irrefl, decide_false, cof]
      exact ⟨trivial, findF_none fun j hj => ht j hj hj⟩
theorem find_eq {t : T} {k : K} (hl : t.f.length ≤ 1048576) (hf : 1048576 < fl) : i_Table_find fl t k = some (findF t.f k) := by
  unfold i_Table_find slices_IndexFunc_Frame_of_i_Table_find_1
  rcases indexFind_L0 (fl := fl) (l := t.f) (k := k) hl fl 0 (by omega) (by omega) (fun j _ hj => by omega) with h | ⟨h, e⟩
  · rw [show ((0 : Nat) : Int) = 0 from rfl] at h
    rw [h]; simp only [obs]
  · rw [show ((0 : Nat) : Int) = 0 from rfl] at h
    rw [h]; simp only [obs, e]

/-! ### a chain -/
theorem chain_L0 {t : T} {b : Nat} (hl : t.f.length ≤ 1048576) : ∀ (fuel : Nat) (L : List Int) (i : Int), L.length ≤ t.f.length → t.f.length - L.length < fuel → PathL t b L i →
    s_l3Chain_L0 fl t fuel L i = some (.ret (chainL t b)) ∧ (chainL t b).2 = false ∨ s_l3Chain_L0 fl t fuel L i = some (.out ((chainL t b).1, -1)) ∧ (chainL t b).2 = true := by
  intro fuel
  induction fuel with
  | zero => intro L i _ h _; omega
  | succ fuel ih =>
    intro L i hL hf hp
    rw [s_l3Chain_L0.eq_2]
    by_cases h1 : i = -1
    · subst h1
      right
      rw [hp.fin]
      simp
    · rw [show (i != -1) = true from by simpa using h1, cot]
      by_cases h2 : i < 0
      · left
        rw [decide_eq_true h2]
        simp only [cot, obs]
        rw [hp.out h1 (fun j e => by omega)]
        exact ⟨rfl, rfl⟩
      rw [decide_eq_false h2]
      simp only [cof, obs]
      by_cases h3 : (t.f.length : Int) ≤ i
      · left
        rw [decide_eq_true h3]
        simp only [cot, obs]
        rw [hp.out h1 (fun j e hj => by omega)]
        exact ⟨rfl, rfl⟩
      rw [decide_eq_false h3]
      simp only [cof, obs]
      by_cases h4 : (t.f.length : Int) ≤ (L.length : Int)
      · left
        rw [decide_eq_true h4]
        simp only [cot, obs]
        rw [hp.full h1 (by omega)]
        exact ⟨rfl, rfl⟩
      rw [decide_eq_false h4]
      simp only [cof, obs]
      obtain ⟨j, rfl⟩ : ∃ j : Nat, i = j := ⟨i.toNat, by omega⟩
      have hj : j < t.f.length := by omega
      rw [idx_nat hj]
      simp only [obs]
      cases hu : t.f[j].u with
      | false =>
        left
        simp only [Bool.not_false, cot]
        rw [hp.out h1 (fun j' e hj' hu' => by
          have : j' = j := by omega
          subst this
          rw [hu] at hu'; cases hu')]
        exact ⟨rfl, rfl⟩
      | true =>
        simp only [Bool.not_true, cof]
        rw [cnt_in (by simp; omega)]
        simp only [obs]
        exact ih _ _ (by simp; omega) (by simp; omega) (hp.step (by omega) hj hu)
theorem chain_eq {t : T} {b : Nat} (hb : b < t.b.length) (hl : t.f.length ≤ 1048576) (hf : 1048576 < fl) : s_l3Chain fl t (b : Int) = some (chainL t b) := by
  unfold s_l3Chain
  rw [idx_nat hb]
  simp only [obs]
  rcases chain_L0 (fl := fl) hl fl [] t.b[b] (by simp) (by simp; omega) (PathL.start hb) with ⟨h, e⟩ | ⟨h, e⟩
  · rw [h]; simp only [obs]
  · rw [h]; simp only [obs, ← e]
end Go.Proofs.YtbhpohopfbcfgaaDoor
