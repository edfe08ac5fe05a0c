/- The pure law of FnExactClearMarks: it returns true. -/
import Derived.Test.YtbgodaeccgjdgaaGreatDoorMn
set_option linter.unusedSimpArgs false
namespace Go.Proofs.YtbgodaeccgjdgaaGreatDoor
open Go.RowKit
theorem exactClearMarks_true (m : Mm) (h1 : LM m.m.t.b.length) (h2 : LM m.m.t.f.length) (h3 : LM m.m.c.l.length) (h4 : LM m.m.g.o.length) (h5 : LM m.k.length) : l_FnExactClearMarks 1048577 m = some true := by
  have hf : 1048576 < 1048577 := by decide
  generalize hfl : 1048577 = fl at hf
  unfold l_FnExactClearMarks
  rw [szMemory_sub h1 h2 h3 h4 h5 (by omega)]
  simp only [obs]
  rcases sub0_cases (mmN m) with ⟨hN, e⟩ | ⟨hN, e⟩
  · rw [e, cof]
    have hp : mmN (clearR m).1 ≤ 1048576 := clearR_len hN
    obtain ⟨v1, b1, f1, l1, o1, k1, m1, n1, _⟩ := markMemory_held (fl := fl) hN hf
    obtain ⟨v2, b2, f2, l2, o2, k2, m2, n2, q2⟩ := markMemory_held (fl := fl) hp hf
    rw [toMemory_eq hN hf]
    simp only [obs]
    rw [sClear_eq hN hf]
    simp only [obs]
    rw [iClear_eq hN hf]
    simp only [obs]
    rw [eqMemory_self hp hf]
    simp only [obs, Bool.not_true, bne_self_eq_false, cof]
    rw [eqMemory_self hN hf]
    simp only [obs, Bool.not_true, bne_self_eq_false, cof]
    rw [m1]
    simp only [obs, n1, bne_self_eq_false, cof]
    rw [m2]
    simp only [obs]
    rw [q2]
    simp only [obs, n2, bne_self_eq_false, cof]
  · rw [e]; rfl
end Go.Proofs.YtbgodaeccgjdgaaGreatDoor
