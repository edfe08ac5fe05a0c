/- The pure law of FnExactWirePage: it returns true. Printed by a program (genmx.py). -/
import Derived.Test.YtbgodaeccgjdgaaGreatDoorMl
set_option linter.unusedSimpArgs false
namespace Go.Proofs.YtbgodaeccgjdgaaGreatDoor
open Go.RowKit
theorem exactWirePage_true (m : Mc) (pg : Int) (h1 : LM m.t.b.length) (h2 : LM m.t.f.length) (h3 : LM m.c.l.length) (h4 : LM m.g.o.length) : l_FnExactWirePage 1048577 m pg = some true := by
  have hf : 1048576 < 1048577 := by decide
  generalize hfl : 1048577 = fl at hf
  unfold l_FnExactWirePage
  rw [szMachine_sub h1 h2 h3 h4 (by omega)]
  simp only [obs]
  rcases sub0_cases (mcN m) with ⟨hN, e⟩ | ⟨hN, e⟩
  · rw [e]
    rw [cof]
    have hp : mcN (wireR m pg).1 ≤ 1048576 := wireR_len hN
    obtain ⟨v1, b1, f1, l1, o1, w1, m1, n1, _⟩ := markMachine_held (fl := fl) hN hf
    obtain ⟨v2, b2, f2, l2, o2, w2, m2, n2, q2⟩ := markMachine_held (fl := fl) hp hf
    rw [toMachine_eq hN hf]
    simp only [obs]
    rw [sWire_eq hN hf]
    simp only [obs]
    rw [iWire_eq hN hf]
    simp only [obs]
    rw [eqMachine_self hp hf]
    simp only [obs, Bool.not_true, bne_self_eq_false, cof]
    rw [eqMachine_self hN hf]
    simp only [obs, Bool.not_true, bne_self_eq_false, cof]
    rw [m1]
    simp only [obs, n1, bne_self_eq_false, cof]
    rw [m2]
    simp only [obs]
    rw [q2]
    simp only [obs, n2, bne_self_eq_false, cof]
  · rw [e]; rfl
end Go.Proofs.YtbgodaeccgjdgaaGreatDoor
