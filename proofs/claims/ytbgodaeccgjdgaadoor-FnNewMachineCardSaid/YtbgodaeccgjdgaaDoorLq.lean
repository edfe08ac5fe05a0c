/- Plain laws of the draws of tables. -/
import Derived.Test.YtbgodaeccgjdgaaDoorLp
import Derived.Test.YtbgodaeccgjdgaaDoorLg
set_option linter.unusedSimpArgs false
set_option linter.unusedVariables false
namespace Go.Proofs.YtbgodaeccgjdgaaDoor
open Go.RowKit
variable {fl : Nat}
theorem newB_L0 {n : Nat} (hn : n ≤ 1048576) : ∀ (fuel i : Nat), i ≤ n → n - i < fuel → s_NewTable_L0 fl (n : Int) fuel (List.replicate i (-1)) i = some (.out (List.replicate n (-1), (n : Int))) := by
  intro fuel
  induction fuel with
  | zero => intro i _ h; omega
  | succ fuel ih =>
    intro i hi hf
    rw [s_NewTable_L0.eq_2]
    by_cases h : i < n
    · rw [decide_eq_true (by omega : (i : Int) < (n : Int)), cot, cnt_in (by simp; omega), ck_succ (by omega)]
      simp only [obs]
      have := ih (i + 1) (by omega) (by omega)
      rw [List.replicate_succ'] at this
      exact this
    · have e : i = n := by omega
      subst e
      simp only [Int.lt_irrefl, decide_false, cof]
theorem newF_L1 {n : Nat} (hn : n ≤ 1048576) : ∀ (fuel i : Nat), i ≤ n → n - i < fuel → s_NewTable_L1 fl (n : Int) fuel (List.replicate i freeF) i = some (.out (List.replicate n freeF, (n : Int))) := by
  intro fuel
  induction fuel with
  | zero => intro i _ h; omega
  | succ fuel ih =>
    intro i hi hf
    rw [s_NewTable_L1.eq_2]
    by_cases h : i < n
    · rw [decide_eq_true (by omega : (i : Int) < (n : Int)), cot, cnt_in (by simp; omega), ck_succ (by omega)]
      simp only [obs]
      have := ih (i + 1) (by omega) (by omega)
      rw [List.replicate_succ'] at this
      exact this
    · have e : i = n := by omega
      subst e
      simp only [Int.lt_irrefl, decide_false, cof]
theorem sNewTable_eq {n m : Nat} (h1 : 1 ≤ n) (h2 : n ≤ 16) (h3 : 1 ≤ m) (h4 : m ≤ 16) (hf : 1048576 < fl) : s_NewTable fl n m = some (⟨List.replicate m (-1), List.replicate n freeF⟩, true) := by
  unfold s_NewTable s_l2Buckets
  rw [decide_eq_false (by omega : ¬ (n : Int) < 1), decide_eq_false (by omega : ¬ 16 < (n : Int)), decide_eq_true (by omega : 1 ≤ (m : Int)), decide_eq_true (by omega : (m : Int) ≤ 16)]
  simp only [cof, cot, obs, Bool.not_true]
  have e1 := newB_L0 (fl := fl) (n := m) (by omega) fl 0 (by omega) (by omega)
  have e2 := newF_L1 (fl := fl) (n := n) (by omega) fl 0 (by omega) (by omega)
  rw [show ((0 : Nat) : Int) = 0 from rfl, List.replicate_zero] at e1 e2
  rw [e1]
  simp only [obs]
  rw [e2]
  simp only [obs]
/-- the sizes of what is drawn -/
def Sz (t : T) : Prop := 1 ≤ t.b.length ∧ t.b.length ≤ 16 ∧ 1 ≤ t.f.length ∧ t.f.length ≤ 16
theorem mapR_sz {t : T} {k : K} {fr r : Int} (h : Sz t) (hy : (mapR t k fr r).2 = true) : Sz (mapR t k fr r).1 := by
  unfold mapR at hy ⊢
  split
  · obtain ⟨a, b, c, d⟩ := h; unfold Sz mapT; simp; omega
  · rename_i hn; rw [if_neg hn] at hy; cases hy
theorem unmapR_sz {t : T} {k : K} (h : Sz t) (hy : (unmapR t k).2 = true) : Sz (unmapR t k).1 := by
  unfold unmapR at hy ⊢
  split
  · obtain ⟨a, b, c, d⟩ := h
    unfold Sz unmapT
    simp only []
    split <;> simp [unl_len] <;> omega
  · rename_i hn; rw [if_neg hn] at hy; cases hy
end Go.Proofs.YtbgodaeccgjdgaaDoor
