/- Words for a table in memory: reads, owned, and what a function leaves that returns one. -/
import Derived.Test.YtciliaiocakdkaaDoorProg
import Derived.Test.YtciliaiocakdkaaDoorOwn
set_option linter.unusedSimpArgs false
set_option linter.unusedVariables false
namespace Go.Proofs.YtciliaiocakdkaaDoor
open Go.RowKit

/-- the value v reads as the table t -/
def RdT (w : World) (v : Value) (t : T) : Prop := ∃ vb vf, v = .agg #[vb, vf] ∧ Rd w vb t.b ∧ Rd w vf t.f
/-- .. in memory of its own, in blocks from lo on and below hi -/
def OwnT (lo hi : Nat) (w : World) (v : Value) (t : T) : Prop := ∃ vb vf, v = .agg #[vb, vf] ∧ Own lo hi 3 w vb t.b ∧ Own lo hi 61 w vf t.f

theorem OwnT.rd {lo hi : Nat} {w : World} {v : Value} {t : T} (h : OwnT lo hi w v t) : RdT w v t := by
  obtain ⟨vb, vf, rfl, h1, h2⟩ := h
  exact ⟨vb, vf, rfl, h1.rd, h2.rd⟩
theorem RdT.below {w w' : World} {v : Value} {t : T} (h : RdT w v t) (hb : Below w.heap.size w w') : RdT w' v t := by
  obtain ⟨vb, vf, rfl, h1, h2⟩ := h
  exact ⟨vb, vf, rfl, h1.below hb, h2.below hb⟩
theorem OwnT.below {lo hi : Nat} {w w' : World} {v : Value} {t : T} (h : OwnT lo hi w v t) (hb : Below w.heap.size w w') : OwnT lo hi w' v t := by
  obtain ⟨vb, vf, rfl, h1, h2⟩ := h
  exact ⟨vb, vf, rfl, h1.below hb, h2.below hb⟩
theorem OwnT.mono {lo hi lo' hi' : Nat} {w : World} {v : Value} {t : T} (h : OwnT lo hi w v t) (h1 : lo' ≤ lo) (h2 : hi ≤ hi') : OwnT lo' hi' w v t := by
  obtain ⟨vb, vf, rfl, g1, g2⟩ := h
  exact ⟨vb, vf, rfl, g1.mono h1 h2, g2.mono h1 h2⟩
theorem OwnT.keep {lo hi : Nat} {w w' : World} {v : Value} {t : T} (h : OwnT lo hi w v t) (hk : ∀ k, lo ≤ k → k < hi → k < w.heap.size → w'.heap[k]? = w.heap[k]?) : OwnT lo hi w' v t := by
  obtain ⟨vb, vf, rfl, h1, h2⟩ := h
  exact ⟨vb, vf, rfl, h1.keep hk, h2.keep hk⟩

/-- w' is w but for blocks from lo on and below hi, and new ones -/
structure Out (lo hi : Nat) (w w' : World) : Prop where
  os : w'.os = w.os
  tape : w'.tape = w.tape
  output : w'.output = w.output
  size : w.heap.size ≤ w'.heap.size
  block : ∀ k, k < w.heap.size → k < lo ∨ hi ≤ k → w'.heap[k]? = w.heap[k]?

theorem Out.refl (lo hi : Nat) (w : World) : Out lo hi w w := ⟨rfl, rfl, rfl, Nat.le_refl _, fun _ _ _ => rfl⟩
theorem Out.trans {lo hi : Nat} {a b c : World} (h : Out lo hi a b) (k : Out lo hi b c) : Out lo hi a c :=
  ⟨k.os.trans h.os, k.tape.trans h.tape, k.output.trans h.output, Nat.le_trans h.size k.size, fun i hi ho => (k.block i (Nat.lt_of_lt_of_le hi h.size) ho).trans (h.block i hi ho)⟩
theorem Out.ofBelow {lo hi : Nat} {a b : World} (h : Below a.heap.size a b) : Out lo hi a b := ⟨h.os, h.tape, h.output, h.size, fun i hi _ => h.block i hi⟩
theorem Out.ofGrown {lo hi : Nat} {a b : World} {row : Option Nat} (h : a.grownBy b row) (hr : ∀ k, row = some k → lo ≤ k ∧ k < hi) : Out lo hi a b :=
  ⟨h.os, h.tape, h.output, h.size, fun i hi ho => h.block i hi (fun e => by have := hr i e.symm; omega)⟩
theorem Out.below {lo hi B : Nat} {w0 a b : World} (h : Out lo hi a b) (h1 : B ≤ lo) (h2 : B ≤ a.heap.size) : Below B a b :=
  ⟨h.os, h.tape, h.output, h.size, fun i hi => h.block i (by omega) (by omega)⟩
theorem Own.row {α : Type} [Enc α] {lo hi e : Nat} {w : World} {v : Value} {l : List α} (h : Own lo hi e w v l) : ∀ k, v.ownBlock = some k → lo ≤ k ∧ k < hi := by
  intro k hk
  rcases h with ⟨rfl, _⟩ | ⟨g, cap, cur, rfl, a, b, _⟩
  · cases hk
  · simp [Value.ownBlock] at hk
    subst hk
    exact ⟨a, b⟩
theorem Own.out {α : Type} [Enc α] {lo hi lo' hi' e : Nat} {w w' : World} {v : Value} {l : List α} (h : Own lo hi e w v l) (ho : Out lo' hi' w w') (hd : hi ≤ lo' ∨ hi' ≤ lo) : Own lo hi e w' v l :=
  h.keep fun k h1 h2 h3 => ho.block k h3 (by omega)
theorem OwnT.out {lo hi lo' hi' : Nat} {w w' : World} {v : Value} {t : T} (h : OwnT lo hi w v t) (ho : Out lo' hi' w w') (hd : hi ≤ lo' ∨ hi' ≤ lo) : OwnT lo hi w' v t :=
  h.keep fun k h1 h2 h3 => ho.block k h3 (by omega)
/-- slices of two element types never lie in one block -/
theorem Own.grown {α β : Type} [Enc α] [Enc β] {lo hi lo' hi' e e' : Nat} {w w' : World} {v u : Value} {l : List α} {m : List β} (h : Own lo hi e w v l) (h' : Own lo' hi' e' w u m) (hne : e ≠ e') (hg : w.grownBy w' u.ownBlock) : Own lo hi e w' v l := by
  rcases h with h | ⟨g, cap, cur, rfl, a, b, hh, r⟩
  · exact .inl h
  · refine .inr ⟨g, cap, cur, rfl, a, b, ?_, r⟩
    rw [hg.block g (Array.getElem?_eq_some_iff.1 hh).1 ?_]
    · exact hh
    · intro e0
      rcases h' with ⟨rfl, _⟩ | ⟨g', cap', cur', rfl, _, _, hh', _⟩
      · cases e0
      · simp [Value.ownBlock] at e0
        subst e0
        rw [hh] at hh'
        simp at hh'
        exact hne hh'.2

/-- what a function leaves that returns a table in new memory and whether there is one -/
def RetTB (r : T × Bool) (w : World) (x : Ending) (w' : World) : Prop := ∃ v, x = .returned (.tuple #[v, .bool r.2]) ∧ OwnT w.heap.size w'.heap.size w' v r.1 ∧ Below w.heap.size w w'
def RetT (t : T) (w : World) (x : Ending) (w' : World) : Prop := ∃ v, x = .returned v ∧ OwnT w.heap.size w'.heap.size w' v t ∧ Below w.heap.size w w'
end Go.Proofs.YtciliaiocakdkaaDoor
