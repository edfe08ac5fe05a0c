/- Plain laws of the exact laws' helpers: memories; valid memories, both sides; new memories, marks taken away. -/
import Derived.Test.YtbgodaeccgjdgaaGreatDoorMi
set_option linter.unusedSimpArgs false
set_option linter.unusedVariables false
namespace Go.Proofs.YtbgodaeccgjdgaaGreatDoor
open Go.RowKit
variable {fl : Nat}
def mmN (m : Mm) : Nat := mcN m.m + m.k.length
def mm0 : Mm := ⟨mc0, [], 0⟩
theorem eqMemory_self {m : Mm} (hl : mmN m ≤ 1048576) (hf : 1048576 < fl) : l_eqMemory fl m m = some true := by
  unfold mmN at hl
  unfold l_eqMemory
  rw [eqMachine_self (by omega) hf]
  simp only [obs, Bool.not_true, cof, bne_self_eq_false]
  rw [eqBoolS_self (by omega) hf]
  simp only [obs, Bool.not_true, cof, bne_self_eq_false]
theorem markMachine_held2 {m : Mc} (hl : mcN m ≤ 1048576) (hf : 1048576 < fl) : ∃ (v : Nat) (b : List Int) (f : List F) (l : List Ln) (o : List Ow), v ≤ 8388608 ∧ l_markMachine fl m 1 = some ((v : Int), b, f, l, o) ∧
    ∀ (h c n r s : Int), l_heldMachine fl ⟨⟨b, f⟩, ⟨l, h⟩, ⟨c, n, r, o⟩, s⟩ 1 = some (v : Int) := by
  obtain ⟨v, b, f, l, o, h0, h1, _, h2⟩ := markMachine_held (fl := fl) hl hf
  exact ⟨v, b, f, l, o, h0, h1, h2⟩
theorem markMemory_held {m : Mm} (hl : mmN m ≤ 1048576) (hf : 1048576 < fl) : ∃ (v : Int) (b : List Int) (f : List F) (l : List Ln) (o : List Ow) (k : List Bool), l_markMemory fl m 1 = some (v, b, f, l, o, k) ∧ decide (v < 0) = false ∧
    ∀ (h c n r s hh : Int), l_heldMemory fl ⟨⟨⟨b, f⟩, ⟨l, h⟩, ⟨c, n, r, o⟩, s⟩, k, hh⟩ 1 = some v := by
  unfold mmN at hl
  obtain ⟨v, b, f, l, o, h0, h1, h2⟩ := markMachine_held2 (fl := fl) (m := m.m) (by omega) hf
  obtain ⟨k, g1, g2, g3⟩ := markBoolS_eq (fl := fl) (a0 := m.k) (s := v) h0 (by omega) hf
  have k2 := heldBoolS_eq (fl := fl) (m := k) (s := v) h0 (by omega) (fun j hj => g3 j (by omega)) hf
  have nn : ∀ k : Nat, decide (((k : Nat) : Int) < 0) = false := fun k => decide_eq_false (by omega)
  refine ⟨((v + 1 * m.k.length : Nat) : Int), b, f, l, o, k, ?_, nn _, fun h c n r s hh => ?_⟩
  · unfold l_markMemory
    rw [h1]
    simp only [obs]
    rw [g1]
    simp only [obs]
  · unfold l_heldMemory
    rw [h2]
    simp only [obs, nn, cof]
    rw [k2]
    simp only [obs, nn, cof, g2]

/-! ### new memories -/
noncomputable def newMR (m : Mc) : Mm × Bool := if machineOk m = true then (⟨m, List.replicate m.t.f.length false, 0⟩, true) else (mm0, false)
theorem iNewM_eq {m : Mc} (hN : mcN m ≤ 1048576) (hf : 1048576 < fl) : i_NewMemory fl m = some (newMR m) := by
  have hN' := hN
  unfold mcN at hN'
  unfold i_NewMemory newMR
  rw [iMachine_eq hN hf, mkO_nat (by omega)]
  simp only [obs]
  cases machineOk m with
  | false => simp [mm0, mc0]
  | true => rw [iClone_eq hN]; simp [obs]
theorem sNewM_eq {m : Mc} (hN : mcN m ≤ 1048576) (hf : 1048576 < fl) : s_NewMemory fl m = some (newMR m) := by
  have hN' := hN
  unfold mcN at hN'
  unfold s_NewMemory newMR
  rw [sMachine_eq hN hf, mkO_nat (by omega)]
  simp only [obs]
  cases machineOk m with
  | false => simp [mm0, mc0]
  | true => rw [sCopy_eq hN]; simp [obs]
theorem newMR_len {m : Mc} : mmN (newMR m).1 ≤ 1048576 := by
  unfold newMR
  split
  · rename_i h
    obtain ⟨a, b, c, d⟩ := (machineOk_iff.1 h).small
    simp only [mmN, mcN, List.length_replicate]; omega
  · simp [mmN, mm0, mcN, mc0]
theorem exactNewMemory_true (m : Mc) (h1 : LM m.t.b.length) (h2 : LM m.t.f.length) (h3 : LM m.c.l.length) (h4 : LM m.g.o.length) : l_FnExactNewMemory 1048577 m = some true := by
  have hf : 1048576 < 1048577 := by decide
  generalize hfl : 1048577 = fl at hf
  unfold l_FnExactNewMemory
  rw [szMachine_sub h1 h2 h3 h4 (by omega)]
  simp only [obs]
  rcases sub0_cases (mcN m) with ⟨hN, e⟩ | ⟨hN, e⟩
  · rw [e, cof]
    have hp : mmN (newMR m).1 ≤ 1048576 := newMR_len
    obtain ⟨v1, b1, f1, l1, o1, w1, m1, n1, _⟩ := markMachine_held (fl := fl) hN hf
    obtain ⟨v2, b2, f2, l2, o2, k2, m2, n2, q2⟩ := markMemory_held (fl := fl) hp hf
    rw [toMachine_eq hN hf]
    simp only [obs]
    rw [sNewM_eq hN hf]
    simp only [obs]
    rw [iNewM_eq hN hf]
    simp only [obs]
    rw [eqMemory_self hp hf]
    simp only [obs, Bool.not_true, bne_self_eq_false, cof]
    rw [eqMachine_self hN hf]
    simp only [obs, Bool.not_true, bne_self_eq_false, cof]
    rw [m1]
    simp only [obs, n1, bne_self_eq_false, cof]
    rw [m2]
    simp only [obs]
    rw [q2]
    simp only [obs, n2, bne_self_eq_false, cof]
  · rw [e]; rfl
end Go.Proofs.YtbgodaeccgjdgaaGreatDoor
