/- Plain laws of the tables' functions, first part. -/
import Derived.Test.YtbgodaeccgjdgaaDoorLa
import Derived.Test.YtbgodaeccgjdgaaDoorPure2
set_option linter.unusedSimpArgs false
set_option linter.unusedVariables false
namespace Go.Proofs.YtbgodaeccgjdgaaDoor
open Go.RowKit
variable {fl : Nat}
theorem within_eq (a b : Int) : i_within fl a b = some (within a b) := by
  unfold i_within within; cases decide (0 ≤ a) <;> rfl
theorem iRights_eq (r : Int) : i_RightsValid fl r = some (rightsOk r) := by
  unfold i_RightsValid rightsOk; rw [within_eq]; rfl
theorem hash_bd {k : K} (hk : keyOk k = true) : 0 ≤ k.s * 256 ∧ k.s * 256 ≤ 3840 ∧ 0 ≤ k.s * 256 + k.p ∧ k.s * 256 + k.p ≤ 4095 := by
  rw [keyOk_iff] at hk; omega
/-! ### copies -/
theorem clone_eq {t : T} (h : t.b.length + t.f.length ≤ 1048576) : i_Table_clone fl t = some t := by
  unfold i_Table_clone slices_Clone_Int slices_Clone_Frame
  rw [cnt_in (by omega), cnt_in (by omega)]; simp only [obs]
/-! ### the place of a key -/
theorem find1_eq (f : F) (k : K) : i_Table_find_1 fl f k = some (hasKey k f) := by
  unfold i_Table_find_1 hasKey
  rw [show (f.k == k) = decide (f.k = k) from rfl]
  cases f.u <;> simp
theorem indexFind_L0 {l : List F} {k : K} (hl : l.length ≤ 1048576) : ∀ (fuel i : Nat), i ≤ l.length → l.length - i < fuel → (∀ j, (h : j < l.length) → j < i → hasKey k l[j] = false) →
    (slices_IndexFunc_Frame_of_i_Table_find_1_L0 fl l k fuel i = some (.ret (findF l k))) ∨ (slices_IndexFunc_Frame_of_i_Table_find_1_L0 fl l k fuel i = some (.out (l.length : Int)) ∧ findF l k = -1) := by
  intro fuel
  induction fuel with
  | zero => intro i _ h _; omega
  | succ fuel ih =>
    intro i hi hf ht
    rw [slices_IndexFunc_Frame_of_i_Table_find_1_L0.eq_2]
    by_cases h : i < l.length
    · rw [decide_eq_true (by omega : (i : Int) < (l.length : Int)), cot, idx_nat h]
      simp only [obs, find1_eq]
      cases hk : hasKey k l[i] with
      | true => left; rw [cot, findF_some h hk (fun j hj => ht j (by omega) hj)]
      | false =>
        rw [cof, ck_succ (by omega)]
        simp only [obs]
        refine ih (i + 1) (by omega) (by omega) fun j hj hji => ?_
        by_cases e : j = i
        · subst e; exact hk
        · exact ht j hj (by omega)
    · have e : i = l.length := by omega
      subst e
      right
      simp only [Int.lt_irrefl, decide_false, cof]
      exact ⟨trivial, findF_none fun j hj => ht j hj hj⟩
theorem find_eq {t : T} {k : K} (hl : t.f.length ≤ 1048576) (hf : 1048576 < fl) : i_Table_find fl t k = some (findF t.f k) := by
  unfold i_Table_find slices_IndexFunc_Frame_of_i_Table_find_1
  rcases indexFind_L0 (fl := fl) (l := t.f) (k := k) hl fl 0 (by omega) (by omega) (fun j _ hj => by omega) with h | ⟨h, e⟩
  · rw [show ((0 : Nat) : Int) = 0 from rfl] at h
    rw [h]; simp only [obs]
  · rw [show ((0 : Nat) : Int) = 0 from rfl] at h
    rw [h]; simp only [obs, e]

/-! ### a chain -/
end Go.Proofs.YtbgodaeccgjdgaaDoor
