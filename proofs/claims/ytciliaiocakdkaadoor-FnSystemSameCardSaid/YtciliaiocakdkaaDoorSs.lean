/- The engine: a system that is owned, or is another one. -/
import Derived.Test.YtciliaiocakdkaaDoorDp
set_option linter.unusedSimpArgs false
set_option linter.unusedVariables false
set_option linter.unusedSectionVars false
namespace Go.Proofs.YtciliaiocakdkaaDoor
open Go.RowKit
/-- the slices of s are owned -/
def OwS (e1 e2 e3 e4 : TypeId) (x : Option Addr) (z : Nat) (x' : Option Addr) (z' : Nat) (x'' : Option Addr) (z'' : Nat) (s : Sy) (C C' C'' : Res) : Prop := OwnC e1 x z s.t.b C ∧ OwnC e2 x' z' s.t.f C' ∧ OwnD e3 e4 x'' z'' s.c C''
/-- or s is s0 -/
def ShS (e1 e2 e3 e4 : TypeId) (x : Option Addr) (z : Nat) (x' : Option Addr) (z' : Nat) (x'' : Option Addr) (z'' : Nat) (s : Sy) (C C' C'' : Res) (p : Option Addr) (c : Nat) (p' : Option Addr) (c' : Nat) (p'' : Option Addr) (c'' : Nat) (s0 : Sy) : Prop :=
  OwS e1 e2 e3 e4 x z x' z' x'' z'' s C C' C'' ∨ (x = p ∧ z = c ∧ x' = p' ∧ z' = c' ∧ x'' = p'' ∧ z'' = c'' ∧ s = s0)
/-- or its slices are those that were owned before -/
def Sh3 (e1 e2 e3 e4 : TypeId) (x : Option Addr) (z : Nat) (x' : Option Addr) (z' : Nat) (x'' : Option Addr) (z'' : Nat) (s : Sy) (C C' C'' D D' D'' : Res) (p : Option Addr) (c : Nat) (p' : Option Addr) (c' : Nat) (p'' : Option Addr) (c'' : Nat) (s0 : Sy) : Prop :=
  OwS e1 e2 e3 e4 x z x' z' x'' z'' s C C' C'' ∨ OwS e1 e2 e3 e4 x z x' z' x'' z'' s D D' D'' ∨ (x = p ∧ z = c ∧ x' = p' ∧ z' = c' ∧ x'' = p'' ∧ z'' = c'' ∧ s = s0)
section
variable {w0 w : World} {M : List Nat} {h : Hp} {e1 e2 e3 e4 : TypeId} {x x' x'' p p' p'' q q' q'' : Option Addr} {z z' z'' c c' c'' d d' d'' : Nat} {s s0 s1 : Sy} {C C' C'' D D' D'' : Res} {id id0 : Nat} {C0 : Res}
theorem ShS.trans (o2 : ShS e1 e2 e3 e4 x z x' z' x'' z'' s C C' C'' q d q' d' q'' d'' s1) (o1 : ShS e1 e2 e3 e4 q d q' d' q'' d'' s1 D D' D'' p c p' c' p'' c'' s0) : Sh3 e1 e2 e3 e4 x z x' z' x'' z'' s C C' C'' D D' D'' p c p' c' p'' c'' s0 := by
  rcases o2 with o | ⟨rfl, rfl, rfl, rfl, rfl, rfl, rfl⟩
  · exact .inl o
  · rcases o1 with o | o
    · exact .inr (.inl o)
    · exact .inr (.inr o)
theorem ShS.p1 (hg : aget h id = some C) (hg0 : aget h id0 = some C0) (o : ShS e1 e2 e3 e4 x z x' z' x'' z'' s C C' C'' p c p' c' p'' c'' s0) (o0 : OwnC e1 p c s0.t.b C0) (hw : Sat w0 M w h) : RO w [] (RdL x z s.t.b) := by
  rcases o with o | ⟨rfl, rfl, _, _, _, _, rfl⟩
  · exact OwnC.pass hg o.1 hw
  · exact OwnC.pass hg0 o0 hw
theorem ShS.p2 (hg : aget h id = some C') (hg0 : aget h id0 = some C0) (o : ShS e1 e2 e3 e4 x z x' z' x'' z'' s C C' C'' p c p' c' p'' c'' s0) (o0 : OwnC e2 p' c' s0.t.f C0) (hw : Sat w0 M w h) : RO w [] (RdL x' z' s.t.f) := by
  rcases o with o | ⟨_, _, rfl, rfl, _, _, rfl⟩
  · exact OwnC.pass hg o.2.1 hw
  · exact OwnC.pass hg0 o0 hw
theorem ShS.p3 (hg : aget h id = some C'') (hg0 : aget h id0 = some C0) (o : ShS e1 e2 e3 e4 x z x' z' x'' z'' s C C' C'' p c p' c' p'' c'' s0) (o0 : OwnD e3 e4 p'' c'' s0.c C0) (hw : Sat w0 M w h) : ROD w [] x'' z'' s.c := by
  rcases o with o | ⟨_, _, _, _, rfl, rfl, rfl⟩
  · exact OwnD.pass hg o.2.2 hw
  · exact OwnD.pass hg0 o0 hw
variable {h0 : Hp} {r : Nat → Nat} {Post : Value → Hp → Prop}
theorem ShS.m1 (hg : aget h id = some C) (hg0 : aget h id0 = some C0) (o : ShS e1 e2 e3 e4 x z x' z' x'' z'' s C C' C'' p c p' c' p'' c'' s0) (o0 : OwnC e1 p c s0.t.b C0) (hw : Sat w0 M w h) (hb : Back h r Post h0) (ha : Apart r id h0) (ha0 : Apart r id0 h0) : RO w (hkeys h0) (RdL x z s.t.b) := by
  rcases o with o | ⟨rfl, rfl, _, _, _, _, rfl⟩
  · exact OwnC.passM hg o.1 hw hb ha
  · exact OwnC.passM hg0 o0 hw hb ha0
theorem ShS.m2 (hg : aget h id = some C') (hg0 : aget h id0 = some C0) (o : ShS e1 e2 e3 e4 x z x' z' x'' z'' s C C' C'' p c p' c' p'' c'' s0) (o0 : OwnC e2 p' c' s0.t.f C0) (hw : Sat w0 M w h) (hb : Back h r Post h0) (ha : Apart r id h0) (ha0 : Apart r id0 h0) : RO w (hkeys h0) (RdL x' z' s.t.f) := by
  rcases o with o | ⟨_, _, rfl, rfl, _, _, rfl⟩
  · exact OwnC.passM hg o.2.1 hw hb ha
  · exact OwnC.passM hg0 o0 hw hb ha0
theorem ShS.m3 (hg : aget h id = some C'') (hg0 : aget h id0 = some C0) (o : ShS e1 e2 e3 e4 x z x' z' x'' z'' s C C' C'' p c p' c' p'' c'' s0) (o0 : OwnD e3 e4 p'' c'' s0.c C0) (hw : Sat w0 M w h) (hb : Back h r Post h0) (ha : Apart r id h0) (ha0 : Apart r id0 h0) : ROD w (hkeys h0) x'' z'' s.c := by
  rcases o with o | ⟨_, _, _, _, rfl, rfl, rfl⟩
  · exact OwnD.passM hg o.2.2 hw hb ha
  · exact OwnD.passM hg0 o0 hw hb ha0
end
end Go.Proofs.YtciliaiocakdkaaDoor
