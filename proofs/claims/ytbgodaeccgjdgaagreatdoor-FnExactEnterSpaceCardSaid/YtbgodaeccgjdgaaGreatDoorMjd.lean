/- The pure law of FnExactEnterSpace: it returns true. Printed by a program (genmx.py). -/
import Derived.Test.YtbgodaeccgjdgaaGreatDoorMi
set_option linter.unusedSimpArgs false
namespace Go.Proofs.YtbgodaeccgjdgaaGreatDoor
open Go.RowKit
theorem exactEnterSpace_true (m : Mc) (sp : Int) (h1 : LM m.t.b.length) (h2 : LM m.t.f.length) (h3 : LM m.c.l.length) (h4 : LM m.g.o.length) : l_FnExactEnterSpace 1048577 m sp = some true := by
  have hf : 1048576 < 1048577 := by decide
  generalize hfl : 1048577 = fl at hf
  unfold l_FnExactEnterSpace
  rw [szMachine_sub h1 h2 h3 h4 (by omega)]
  simp only [obs]
  rcases sub0_cases (mcN m) with ⟨hN, e⟩ | ⟨hN, e⟩
  · rw [e]
    rw [cof]
    have hp : mcN (enterR m sp).1 ≤ 1048576 := enterR_len
    obtain ⟨v1, b1, f1, l1, o1, w1, m1, n1, _⟩ := markMachine_held (fl := fl) hN hf
    obtain ⟨v2, b2, f2, l2, o2, w2, m2, n2, q2⟩ := markMachine_held (fl := fl) hp hf
    rw [toMachine_eq hN hf]
    simp only [obs]
    rw [sEnter_eq hN hf]
    simp only [obs]
    rw [iEnter_eq hN hf]
    simp only [obs]
    rw [eqMachine_self hp hf]
    simp only [obs, Bool.not_true, bne_self_eq_false, cof]
    rw [eqMachine_self hN hf]
    simp only [obs, Bool.not_true, bne_self_eq_false, cof]
    rw [m1]
    simp only [obs, n1, bne_self_eq_false, cof]
    rw [m2]
    simp only [obs]
    rw [q2]
    simp only [obs, n2, bne_self_eq_false, cof]
  · rw [e]; rfl
end Go.Proofs.YtbgodaeccgjdgaaGreatDoor
