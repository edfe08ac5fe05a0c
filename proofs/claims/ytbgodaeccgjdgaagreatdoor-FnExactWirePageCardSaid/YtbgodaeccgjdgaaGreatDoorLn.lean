/- Plain laws of the exact laws' helpers: caches, tags, machines, memories. -/
import Derived.Test.YtbgodaeccgjdgaaGreatDoorLm
set_option linter.unusedSimpArgs false
set_option linter.unusedVariables false
namespace Go.Proofs.YtbgodaeccgjdgaaGreatDoor
open Go.RowKit
variable {fl : Nat}
def LM (n : Nat) : Prop := (n : Int) ≤ 9223372036854775807
theorem szTable_sub {t : T} {left : Int} (h1 : LM t.b.length) (h2 : LM t.f.length) (h0 : 0 ≤ left ∧ left ≤ 1048576) : l_szTable fl t left = some (sub0 left (t.b.length + t.f.length)) := by
  unfold l_szTable
  rw [szIntS_eq h1 h0]
  simp only [obs]
  refine sub0_step (f := fun y => Option.bind (l_szFrameS fl t.f y) fun x => cond (decide (x < 0)) (some (-1)) (some x)) h0 fun h => ?_
  rw [szFrameS_eq h2 h]
  simp only [obs]
  exact sub0_end h
theorem szCache_sub {c : Ca} {left : Int} (h1 : LM c.l.length) (h0 : 0 ≤ left ∧ left ≤ 1048576) : l_szCache fl c left = some (sub0 left c.l.length) := by
  unfold l_szCache
  rw [szLineS_eq h1 h0]
  simp only [obs]
  exact sub0_end h0
theorem szTags_sub {g : Tg} {left : Int} (h1 : LM g.o.length) (h0 : 0 ≤ left ∧ left ≤ 1048576) : l_szTags fl g left = some (sub0 left g.o.length) := by
  unfold l_szTags
  rw [szOwnS_eq h1 h0]
  simp only [obs]
  exact sub0_end h0
/-- how many elements a machine has -/
def mcN (m : Mc) : Nat := (m.t.b.length + m.t.f.length) + (m.c.l.length + m.g.o.length)
theorem szMachine_sub {m : Mc} {left : Int} (h1 : LM m.t.b.length) (h2 : LM m.t.f.length) (h3 : LM m.c.l.length) (h4 : LM m.g.o.length) (h0 : 0 ≤ left ∧ left ≤ 1048576) : l_szMachine fl m left = some (sub0 left (mcN m)) := by
  unfold l_szMachine mcN
  rw [szTable_sub h1 h2 h0]
  simp only [obs]
  refine sub0_step (f := fun y => Option.bind (l_szCache fl m.c y) fun x => cond (decide (x < 0)) (some (-1)) (Option.bind (l_szTags fl m.g x) fun x => cond (decide (x < 0)) (some (-1)) (some x))) h0 fun h => ?_
  rw [szCache_sub h3 h]
  simp only [obs]
  refine sub0_step (f := fun y => Option.bind (l_szTags fl m.g y) fun x => cond (decide (x < 0)) (some (-1)) (some x)) h fun h' => ?_
  rw [szTags_sub h4 h']
  simp only [obs]
  exact sub0_end h'
theorem toMachine_eq {m : Mc} (hl : mcN m ≤ 1048576) (hf : 1048576 < fl) : l_toMachine fl m = some m := by
  unfold mcN at hl
  unfold l_toMachine l_toCache l_toTags
  rw [toTable_eq (by omega) hf, toLineS_eq (by omega) hf, toOwnS_eq (by omega) hf]; rfl
theorem eqMachine_self {m : Mc} (hl : mcN m ≤ 1048576) (hf : 1048576 < fl) : l_eqMachine fl m m = some true := by
  unfold mcN at hl
  unfold l_eqMachine l_eqCache l_eqTags
  rw [eqTable_self (by omega) hf]
  simp only [obs, Bool.not_true, cof, bne_self_eq_false]
  rw [eqLineS_self (by omega) hf, eqOwnS_self (by omega) hf]
  simp only [obs, Bool.not_true, cof, bne_self_eq_false]
/-- what is marked is held -/
theorem markMachine_held {m : Mc} (hl : mcN m ≤ 1048576) (hf : 1048576 < fl) : ∃ (v : Nat) (b : List Int) (f : List F) (l : List Ln) (o : List Ow), v ≤ 8388608 ∧ l_markMachine fl m 1 = some ((v : Int), b, f, l, o) ∧ decide ((v : Int) < 0) = false ∧
    ∀ (h c n r s : Int), l_heldMachine fl ⟨⟨b, f⟩, ⟨l, h⟩, ⟨c, n, r, o⟩, s⟩ 1 = some (v : Int) := by
  unfold mcN at hl
  obtain ⟨b, h1, h2, h3⟩ := markIntS_eq (fl := fl) (a0 := m.t.b) (s := 1) (by omega) (by omega) hf
  obtain ⟨f, g1, g2, g3⟩ := markFrameS_eq (fl := fl) (a0 := m.t.f) (s := 1 + m.t.b.length) (by omega) (by omega) hf
  obtain ⟨l, i1, i2, i3⟩ := markLineS_eq (fl := fl) (a0 := m.c.l) (s := 1 + m.t.b.length + 5 * m.t.f.length) (by omega) (by omega) hf
  obtain ⟨o, j1, j2, j3⟩ := markOwnS_eq (fl := fl) (a0 := m.g.o) (s := 1 + m.t.b.length + 5 * m.t.f.length + 6 * m.c.l.length) (by omega) (by omega) hf
  have h1' : l_markIntS fl m.t.b 1 = _ := h1
  have k1 : l_heldIntS fl b 1 = _ := heldIntS_eq (fl := fl) (m := b) (s := 1) (by omega) (by omega) (fun j hj => h3 j (by omega)) hf
  have k2 := heldFrameS_eq (fl := fl) (m := f) (s := 1 + m.t.b.length) (by omega) (by omega) (fun j hj => g3 j (by omega)) hf
  have k3 := heldLineS_eq (fl := fl) (m := l) (s := 1 + m.t.b.length + 5 * m.t.f.length) (by omega) (by omega) (fun j hj => i3 j (by omega)) hf
  have k4 := heldOwnS_eq (fl := fl) (m := o) (s := 1 + m.t.b.length + 5 * m.t.f.length + 6 * m.c.l.length) (by omega) (by omega) (fun j hj => j3 j (by omega)) hf
  refine ⟨1 + m.t.b.length + 5 * m.t.f.length + 6 * m.c.l.length + 2 * m.g.o.length, b, f, l, o, by omega, ?_, by simp; omega, fun h c n r s => ?_⟩
  · unfold l_markMachine l_markTable l_markCache l_markTags
    rw [h1']
    simp only [obs]
    rw [g1]
    simp only [obs]
    rw [i1]
    simp only [obs]
    rw [j1]
    simp only [obs]
  · have nn : ∀ k : Nat, decide (((k : Nat) : Int) < 0) = false := fun k => decide_eq_false (by omega)
    unfold l_heldMachine l_heldTable l_heldCache l_heldTags
    rw [k1]
    simp only [obs, h2, nn, cof]
    rw [k2]
    simp only [obs, g2, nn, cof]
    rw [k3]
    simp only [obs, i2, nn, cof]
    rw [k4]
    simp only [obs, j2, nn, cof]
end Go.Proofs.YtbgodaeccgjdgaaGreatDoor
