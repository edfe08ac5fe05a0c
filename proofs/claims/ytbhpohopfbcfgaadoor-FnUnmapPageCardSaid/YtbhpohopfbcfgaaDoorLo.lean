/- Plain laws: slices.Repeat and new tables of the program (for a seat without machines). -/
import Derived.Test.YtbhpohopfbcfgaaDoorLq
import Derived.Test.YtbhpohopfbcfgaaDoorCpy
set_option linter.unusedSimpArgs false
set_option linter.unusedVariables false
namespace Go.Proofs.YtbhpohopfbcfgaaDoor
open Go.RowKit
variable {fl : Nat}
theorem takeO_nat {α : Type} {l : List α} {i : Nat} (h : i ≤ l.length) : takeO l (i : Int) = some (l.take i) := by
  unfold takeO; rw [if_pos (by omega)]; simp
theorem mul64_one : ∀ b : Fin 17, math_bits_Mul fl 1 ((b.val : Nat) : Int) = some (0, ((b.val : Nat) : Int)) := by
  unfold math_bits_Mul math_bits_Mul64
  decide +kernel
theorem dropO_nat {α : Type} {l : List α} {i : Nat} (h : i ≤ l.length) : dropO l (i : Int) = some (l.drop i) := by
  unfold dropO; rw [if_pos (by omega)]; simp
theorem cpy_rep {α : Type} {x z : α} {n b : Nat} (h : n ≤ b) : cpy (List.replicate n x ++ List.replicate (b - n) z) n ((List.replicate n x ++ List.replicate (b - n) z).take n) = List.replicate (min (2 * n) b) x ++ List.replicate (b - min (2 * n) b) z := by
  have e1 : (List.replicate n x ++ List.replicate (b - n) z).take n = List.replicate n x := by
    rw [List.take_append_of_le_length (by simp), List.take_of_length_le (by simp)]
  have e0 : (List.replicate n x ++ List.replicate (b - n) z).length = b := by simp; omega
  unfold cpy
  rw [e1, e0, List.take_replicate, List.length_replicate, List.drop_append, List.drop_of_length_le (by simp), List.nil_append, List.drop_replicate, List.length_replicate, List.replicate_append_replicate]
  congr 2 <;> omega
theorem repI_L0 {x z : Int} {b : Nat} (hb : b ≤ 16) : ∀ fuel n, n ≤ b → 1 ≤ n → b - n < fuel → slices_Repeat_Int_L0 fl b fuel (List.replicate n x ++ List.replicate (b - n) z) (n : Int) = some (.out (List.replicate b x, (b : Int))) := by
  intro fuel
  induction fuel with
  | zero => intro n _ _ h; omega
  | succ fuel ih =>
    intro n hn h1 hf
    have e0 : (List.replicate n x ++ List.replicate (b - n) z).length = b := by simp; omega
    rw [slices_Repeat_Int_L0.eq_2]
    by_cases h : n < b
    · rw [decide_eq_true (by omega : (n : Int) < (b : Int)), cot, dropO_nat (by omega), takeO_nat (by omega)]
      simp only [obs, Int.toNat_natCast, cpy_rep hn, e0, List.length_take]
      have e2 : (n : Int) + ((min (min n b) (b - n) : Nat) : Int) = ((min (2 * n) b : Nat) : Int) := by omega
      rw [e2, ck_in (by omega)]
      simp only [obs]
      exact ih _ (by omega) (by omega) (by omega)
    · have e : n = b := by omega
      subst e
      rw [decide_eq_false (by omega), cof, Nat.sub_self]; simp
theorem repF_L0 {x z : F} {b : Nat} (hb : b ≤ 16) : ∀ fuel n, n ≤ b → 1 ≤ n → b - n < fuel → slices_Repeat_Frame_L0 fl b fuel (List.replicate n x ++ List.replicate (b - n) z) (n : Int) = some (.out (List.replicate b x, (b : Int))) := by
  intro fuel
  induction fuel with
  | zero => intro n _ _ h; omega
  | succ fuel ih =>
    intro n hn h1 hf
    have e0 : (List.replicate n x ++ List.replicate (b - n) z).length = b := by simp; omega
    rw [slices_Repeat_Frame_L0.eq_2]
    by_cases h : n < b
    · rw [decide_eq_true (by omega : (n : Int) < (b : Int)), cot, dropO_nat (by omega), takeO_nat (by omega)]
      simp only [obs, Int.toNat_natCast, cpy_rep hn, e0, List.length_take]
      have e2 : (n : Int) + ((min (min n b) (b - n) : Nat) : Int) = ((min (2 * n) b : Nat) : Int) := by omega
      rw [e2, ck_in (by omega)]
      simp only [obs]
      exact ih _ (by omega) (by omega) (by omega)
    · have e : n = b := by omega
      subst e
      rw [decide_eq_false (by omega), cof, Nat.sub_self]; simp
theorem cpy_one {α : Type} {x z : α} {b : Nat} (h : 1 ≤ b) : cpy (List.replicate b z) 0 [x] = List.replicate 1 x ++ List.replicate (b - 1) z := by
  unfold cpy
  rw [List.length_replicate, List.drop_replicate, List.take_zero, List.nil_append, List.take_of_length_le (by simp; omega)]
  have : 0 + min [x].length (b - 0) = 1 := by simp; omega
  rw [this]; rfl
theorem repI_eq {x : Int} {b : Nat} (h1 : 1 ≤ b) (h2 : b ≤ 16) (hf : 1048576 < fl) : slices_Repeat_Int fl [x] b = some (List.replicate b x) := by
  unfold slices_Repeat_Int
  have hm := mul64_one (fl := fl) ⟨b, by omega⟩
  simp only [] at hm
  rw [decide_eq_false (by omega), cof, ckU_in (by simp), ckU_in (by omega)]
  simp only [obs, List.length_singleton]
  rw [show ((1 : Nat) : Int) = 1 from rfl, hm]
  simp only [obs]
  rw [decide_eq_false (by omega), cof]
  simp only [obs]
  rw [decide_eq_false (by omega), cof, ck_in (by omega)]
  simp only [obs]
  rw [mkO_nat (by omega)]
  simp only [obs, cpy_one h1, List.length_replicate]
  have e : ((min 1 (b - 0) : Nat) : Int) = ((1 : Nat) : Int) := by omega
  rw [e, repI_L0 h2 fl 1 h1 (by omega) (by omega)]
  simp only [obs]
theorem repF_eq {x : F} {b : Nat} (h1 : 1 ≤ b) (h2 : b ≤ 16) (hf : 1048576 < fl) : slices_Repeat_Frame fl [x] b = some (List.replicate b x) := by
  unfold slices_Repeat_Frame
  have hm := mul64_one (fl := fl) ⟨b, by omega⟩
  simp only [] at hm
  rw [decide_eq_false (by omega), cof, ckU_in (by simp), ckU_in (by omega)]
  simp only [obs, List.length_singleton]
  rw [show ((1 : Nat) : Int) = 1 from rfl, hm]
  simp only [obs]
  rw [decide_eq_false (by omega), cof]
  simp only [obs]
  rw [decide_eq_false (by omega), cof, ck_in (by omega)]
  simp only [obs]
  rw [mkO_nat (by omega)]
  simp only [obs, cpy_one h1, List.length_replicate]
  have e : ((min 1 (b - 0) : Nat) : Int) = ((1 : Nat) : Int) := by omega
  rw [e, repF_L0 h2 fl 1 h1 (by omega) (by omega)]
  simp only [obs]

/-! ### a new table -/
def newT (n m : Nat) : T := ⟨List.replicate m (-1), List.replicate n freeF⟩
def newTR (n m : Int) : T × Bool := if (decide (1 ≤ n) && decide (n ≤ 16) && decide (1 ≤ m) && decide (m ≤ 16)) = true then (newT n.toNat m.toNat, true) else (⟨[], []⟩, false)
theorem iNewTable_eq {n m : Int} (hf : 1048576 < fl) : i_NewTable fl n m = some (newTR n m) := by
  unfold i_NewTable newTR i_bucketsValid
  by_cases h1 : n < 1
  · rw [decide_eq_true h1, decide_eq_false (by omega : ¬ 1 ≤ n)]; simp [obs]
  rw [decide_eq_false h1, decide_eq_true (by omega : 1 ≤ n)]
  by_cases h2 : 16 < n
  · rw [decide_eq_true h2, decide_eq_false (by omega : ¬ n ≤ 16)]; simp [obs]
  rw [decide_eq_false h2, decide_eq_true (by omega : n ≤ 16)]
  by_cases h3 : 1 ≤ m
  · by_cases h4 : m ≤ 16
    · rw [decide_eq_true h3, decide_eq_true h4]
      obtain ⟨a, rfl⟩ : ∃ a : Nat, n = a := ⟨n.toNat, by omega⟩
      obtain ⟨b, rfl⟩ : ∃ b : Nat, m = b := ⟨m.toNat, by omega⟩
      simp only [cof, cot, obs, Bool.not_true, Bool.true_and, if_true]
      rw [repI_eq (by omega) (by omega) hf]
      simp only [obs]
      rw [repF_eq (by omega) (by omega) hf]
      simp only [obs]
      rfl
    · rw [decide_eq_true h3, decide_eq_false h4]; simp [obs]
  · rw [decide_eq_false h3]; simp [obs]
end Go.Proofs.YtbhpohopfbcfgaaDoor
