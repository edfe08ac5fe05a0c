/- Plain laws of the exact laws' helpers for lines, owners and marks. Printed by a program (genla.py). -/
import Derived.Test.YtbgodaeccgjdgaaDoorLa
set_option linter.unusedSimpArgs false
set_option linter.unusedVariables false
namespace Go.Proofs.YtbgodaeccgjdgaaDoor
open Go.RowKit
def sub0 (left : Int) (n : Nat) : Int := if left - n < 0 then -1 else left - n
def mkLine (c : Nat) : Ln := ⟨(((c : Nat) : Int).tmod 3 == 0), ((c + 1 : Nat) : Int), ((c + 1 + 1 : Nat) : Int), ((c + 1 + 1 + 1 : Nat) : Int), ((c + 1 + 1 + 1 + 1 : Nat) : Int), (((c + 1 + 1 + 1 + 1 + 1 : Nat) : Int).tmod 3 == 0)⟩
theorem mkLine_va (c : Nat) : (mkLine c).va = (((c : Nat) : Int).tmod 3 == 0) := by rw [mkLine]
theorem mkLine_tg (c : Nat) : (mkLine c).tg = ((c + 1 : Nat) : Int) := by rw [mkLine]
theorem mkLine_pg (c : Nat) : (mkLine c).pg = ((c + 1 + 1 : Nat) : Int) := by rw [mkLine]
theorem mkLine_fr (c : Nat) : (mkLine c).fr = ((c + 1 + 1 + 1 : Nat) : Int) := by rw [mkLine]
theorem mkLine_ri (c : Nat) : (mkLine c).ri = ((c + 1 + 1 + 1 + 1 : Nat) : Int) := by rw [mkLine]
theorem mkLine_wi (c : Nat) : (mkLine c).wi = (((c + 1 + 1 + 1 + 1 + 1 : Nat) : Int).tmod 3 == 0) := by rw [mkLine]
def mkOwn (c : Nat) : Ow := ⟨((c : Nat) : Int), ((c + 1 : Nat) : Int)⟩
theorem mkOwn_sp (c : Nat) : (mkOwn c).sp = ((c : Nat) : Int) := by rw [mkOwn]
theorem mkOwn_tg (c : Nat) : (mkOwn c).tg = ((c + 1 : Nat) : Int) := by rw [mkOwn]
def mkBool (c : Nat) : Bool := (((c : Nat) : Int).tmod 3 == 0)
theorem mkBool_v (c : Nat) : mkBool c = (((c : Nat) : Int).tmod 3 == 0) := by rw [mkBool]
theorem sub0_step {left : Int} {n1 n2 : Nat} {f : Int → Option Int} (h0 : 0 ≤ left ∧ left ≤ 1048576) (h : 0 ≤ left - n1 ∧ left - n1 ≤ 1048576 → f (left - n1) = some (sub0 (left - n1) n2)) : cond (decide (sub0 left n1 < 0)) (some (-1)) (f (sub0 left n1)) = some (sub0 left (n1 + n2)) := by
  by_cases c : left - (n1 : Int) < 0
  · have e1 : sub0 left n1 = -1 := by unfold sub0; rw [if_pos c]
    have e2 : sub0 left (n1 + n2) = -1 := by unfold sub0; rw [if_pos (by omega)]
    rw [e1, e2]; rfl
  · have e1 : sub0 left n1 = left - n1 := by unfold sub0; rw [if_neg c]
    rw [e1, decide_eq_false c, cof, h (by omega)]
    unfold sub0
    have : left - ((n1 + n2 : Nat) : Int) = left - n1 - n2 := by omega
    rw [this]
theorem sub0_end {left : Int} {n1 : Nat} (h0 : 0 ≤ left ∧ left ≤ 1048576) : cond (decide (sub0 left n1 < 0)) (some (-1)) (some (sub0 left n1)) = some (sub0 left n1) := by
  by_cases c : left - (n1 : Int) < 0
  · have e1 : sub0 left n1 = -1 := by unfold sub0; rw [if_pos c]
    rw [e1]; rfl
  · have e1 : sub0 left n1 = left - n1 := by unfold sub0; rw [if_neg c]
    rw [e1, decide_eq_false c, cof]
theorem sub0_cases (n : Nat) : (n ≤ 1048576 ∧ decide (sub0 1048576 n < 0) = false) ∨ (1048576 < n ∧ decide (sub0 1048576 n < 0) = true) := by
  unfold sub0
  by_cases c : (1048576 : Int) - n < 0
  · right; rw [if_pos c]; exact ⟨by omega, rfl⟩
  · left; rw [if_neg c, decide_eq_false c]; exact ⟨by omega, rfl⟩
end Go.Proofs.YtbgodaeccgjdgaaDoor
