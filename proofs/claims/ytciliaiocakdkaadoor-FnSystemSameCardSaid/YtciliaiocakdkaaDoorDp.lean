/- The engine, deep slices: slices of structs that hold two slices each: how they are read, how they are owned, how one element is opened and shut again. -/
import Derived.Test.YtciliaiocakdkaaDoorE7
import Derived.Test.YtciliaiocakdkaaDoorDat
set_option linter.unusedSimpArgs false
set_option linter.unusedVariables false
set_option linter.unusedSectionVars false
namespace Go.Proofs.YtciliaiocakdkaaDoor
open Go.RowKit

/-- what lies in the row: two slices' heads -/
structure CpS where
  p : Option Addr
  n : Nat
  c : Nat
  p' : Option Addr
  n' : Nat
  c' : Nat
instance encCpS : Enc CpS := ⟨2, fun s => [.slice s.p s.n s.c, .slice s.p' s.n' s.c'], fun _ => rfl, by intro a u hu; simp at hu; rcases hu with rfl | rfl <;> rfl⟩
def cpz : CpS := ⟨none, 0, 0, none, 0, 0⟩

/-! ### read -/
def ROD (w0 : World) (M : List Nat) (ao : Option Addr) (cap : Nat) (l : List Cp) : Prop :=
  ∃ ls : List CpS, RO w0 M (RdL ao cap ls) ∧ l.length = ls.length ∧ ∀ (j : Nat) s c, ls[j]? = some s → l[j]? = some c → (s.n = c.n.length ∧ RO w0 M (RdL s.p s.c c.n)) ∧ s.n' = c.w.length ∧ RO w0 M (RdL s.p' s.c' c.w)

section
variable {P : Program} {n : Nat} {w0 : World} {M : List Nat} {s : Slots} {h : Hp} {ao : Option Addr} {cap : Nat} {l : List Cp}

theorem ROD.nil : ROD w0 M ao 0 [] := ⟨[], RO.nil, rfl, fun j s c hj => by simp at hj⟩
theorem ROD.get {ie : Int} {z : Cp} (hr : ROD w0 M ao cap l) (hk : idx l ie = some z) : ∃ (ls : List CpS) (p : Option Addr) (n c : Nat) (p' : Option Addr) (n' c' : Nat),
    RO w0 M (RdL ao cap ls) ∧ l.length = ls.length ∧ idx ls ie = some (⟨p, n, c, p', n', c'⟩ : CpS) ∧ n = z.n.length ∧ RO w0 M (RdL p c z.n) ∧ n' = z.w.length ∧ RO w0 M (RdL p' c' z.w) := by
  obtain ⟨ls, h1, h2, h3⟩ := hr
  obtain ⟨q0, q1, q2⟩ := idx_some hk
  have e : ls[ie.toNat]? = some ls[ie.toNat] := List.getElem?_eq_getElem (by omega)
  obtain ⟨⟨a, b⟩, c, d⟩ := h3 _ _ _ e q2
  exact ⟨ls, _, _, _, _, _, _, h1, h2, by unfold idx; rw [if_pos q0]; exact e, a, b, c, d⟩
theorem ROD.pass (hr : ROD w0 M ao cap l) {w : World} (hw : Sat w0 M w h) : ROD w [] ao cap l := by
  obtain ⟨ls, h1, h2, h3⟩ := hr
  refine ⟨ls, h1.pass hw, h2, fun j s c a b => ?_⟩
  obtain ⟨⟨q1, q2⟩, q3, q4⟩ := h3 j s c a b
  exact ⟨⟨q1, q2.pass hw⟩, q3, q4.pass hw⟩
theorem ROD.passM (hr : ROD w0 M ao cap l) {w : World} (hw : Sat w0 M w h) {h0 : Hp} {r : Nat → Nat} {Post : Value → Hp → Prop} (hb : Back h r Post h0) : ROD w (hkeys h0) ao cap l := by
  obtain ⟨ls, h1, h2, h3⟩ := hr
  refine ⟨ls, h1.passM hw hb, h2, fun j s c a b => ?_⟩
  obtain ⟨⟨q1, q2⟩, q3, q4⟩ := h3 j s c a b
  exact ⟨⟨q1, q2.passM hw hb⟩, q3, q4.passM hw hb⟩
theorem ROD.caps (hr : ROD w0 M ao cap l) : l.length ≤ cap ∧ cap ≤ maxLen := by
  obtain ⟨ls, h1, h2, h3⟩ := hr
  rw [h2]; exact RO.cap h1

/-! ### owned -/
def apart (A B : Res) : Prop := ∀ p ∈ A, ∀ q ∈ B, p.1 ≠ q.1
theorem apart.symm {A B : Res} (h : apart A B) : apart B A := fun p hp q hq e => h q hq p hp e.symm
def Good (e2 : TypeId) (s : CpS) (c : Cp) (d : Res × Res) : Prop := (s.n = c.n.length ∧ OwnC e2 s.p s.c c.n d.1) ∧ s.n' = c.w.length ∧ OwnC e2 s.p' s.c' c.w d.2
/-- the inner slices' blocks, all but those of element k -/
def Bun (e2 : TypeId) (ls : List CpS) (l : List Cp) (k : Nat) (C : Res) : Prop :=
  l.length = ls.length ∧ ∃ D : Nat → Res × Res, (∀ p, p ∈ C ↔ ∃ j, j < l.length ∧ j ≠ k ∧ (p ∈ (D j).1 ∨ p ∈ (D j).2)) ∧
    (∀ (j : Nat) s c, j ≠ k → ls[j]? = some s → l[j]? = some c → Good e2 s c (D j)) ∧
    (∀ j j', j < l.length → j' < l.length → j ≠ k → j' ≠ k → j ≠ j' → apart ((D j).1 ++ (D j).2) ((D j').1 ++ (D j').2)) ∧ (∀ j, j < l.length → j ≠ k → apart (D j).1 (D j).2)
def OwnD (e e2 : TypeId) (ao : Option Addr) (cap : Nat) (l : List Cp) (C : Res) : Prop :=
  ∃ (ls : List CpS) (C0 Cr : Res), OwnC e ao cap ls C0 ∧ Bun e2 ls l l.length Cr ∧ apart C0 Cr ∧ ∀ p, p ∈ C ↔ p ∈ C0 ∨ p ∈ Cr

theorem Bun.nil (e2 k : Nat) : Bun e2 [] [] k [] := ⟨rfl, fun _ => ([], []), ⟨fun p => by simp, ⟨fun j s c _ hj => by simp at hj, ⟨fun j j' hj => by simp at hj, fun j hj => by simp at hj⟩⟩⟩⟩
theorem apart.nil (A : Res) : apart A [] := fun p _ q hq => by cases hq
theorem apart.nil' (A : Res) : apart [] A := fun p hp => by cases hp
theorem OwnD.nil (e e2 : TypeId) (ao : Option Addr) : OwnD e e2 ao 0 [] [] := ⟨[], [], [], OwnC.nil e ao, Bun.nil e2 _, apart.nil _, fun p => by simp⟩
theorem Bun.len {e2 k : Nat} {ls : List CpS} {C : Res} (h : Bun e2 ls l k C) : l.length = ls.length := h.1
theorem OwnD.len {e e2 : TypeId} {C : Res} (ho : OwnD e e2 ao cap l C) : l.length ≤ cap ∧ cap ≤ maxLen := by
  obtain ⟨ls, C0, Cr, h1, h2, _⟩ := ho
  rw [h2.len]; exact h1.len
/-- a row of zero values, just made -/
theorem OwnD.zero {e : TypeId} (e2 : TypeId) {k : Nat} {C : Res} (ho : OwnC e ao cap (List.replicate k cpz) C) : OwnD e e2 ao cap (List.replicate k ⟨[], []⟩) C := by
  refine ⟨_, C, [], ho, ⟨by simp, fun _ => ([], []), fun p => by simp, fun j s c _ hs hc => ?_, fun j j' _ _ _ _ _ => apart.nil _, fun j _ _ => apart.nil _⟩, apart.nil _, fun p => by simp⟩
  have hs' := (List.eq_of_mem_replicate (List.mem_of_getElem? hs))
  have hc' := (List.eq_of_mem_replicate (List.mem_of_getElem? hc))
  subst hs' hc'
  exact ⟨⟨rfl, OwnC.nil _ _⟩, rfl, OwnC.nil _ _⟩
theorem OwnD.ofNil {e : TypeId} (e2 : TypeId) {C : Res} (ho : OwnC (α := CpS) e ao cap [] C) : OwnD e e2 ao cap [] C := ⟨[], C, [], ho, Bun.nil e2 _, apart.nil _, fun p => by simp⟩
theorem Bun.set {e2 k : Nat} {ls : List CpS} {C : Res} (hb : Bun e2 ls l k C) (x : CpS) : Bun e2 (ls.set k x) l k C := by
  obtain ⟨h1, D, h2, h3, h4⟩ := hb
  refine ⟨by simpa using h1, D, h2, fun j s c hj hs hc => ?_, h4⟩
  rw [List.getElem?_set_ne (fun e => hj e.symm)] at hs
  exact h3 j s c hj hs hc
theorem Bun.setL {e2 k : Nat} {ls : List CpS} {C : Res} (hb : Bun e2 ls l k C) (x : Cp) : Bun e2 ls (l.set k x) k C := by
  obtain ⟨h1, D, h2, h3, h4, h5⟩ := hb
  refine ⟨by simpa using h1, D, by simpa using h2, fun j s c hj hs hc => ?_, by simpa using h4, by simpa using h5⟩
  rw [List.getElem?_set_ne (fun e => hj e.symm)] at hc
  exact h3 j s c hj hs hc
theorem Bun.app {e2 : Nat} {ls : List CpS} {C : Res} (hb : Bun e2 ls l l.length C) (x : CpS) (c : Cp) : Bun e2 (ls ++ [x]) (l ++ [c]) l.length C := by
  obtain ⟨h1, D, h2, h3, h4, h5⟩ := hb
  have hlt : ∀ j, j < (l ++ [c]).length → j ≠ l.length → j < l.length := fun j a b => by simp at a; omega
  refine ⟨by simp [h1], D, fun p => (h2 p).trans ⟨fun ⟨j, a, b, c⟩ => ⟨j, by simp; omega, b, c⟩, fun ⟨j, a, b, c⟩ => ⟨j, hlt j a b, b, c⟩⟩, fun j s c hj hs hc => ?_, fun j j' a b a' b' => h4 j j' (hlt j a a') (hlt j' b b') a' b', fun j a b => h5 j (hlt j a b) b⟩
  have hj' : j < l.length := hlt j (List.getElem?_eq_some_iff.1 hc).1 hj
  rw [List.getElem?_append_left (by omega)] at hs hc
  exact h3 j s c hj hs hc

theorem aget_over {h' h : Hp} {i : Nat} : aget (h' ++ h) i = (aget h' i).or (aget h i) := aget_append h' h i
/-- a resource in parts -/
theorem Sat.parts {w : World} (k : Sat w0 M w h) {h' : Hp} {id : Nat} {C : Res} (hg : aget h id = some C) (hsub : ∀ i D, aget h' i = some D → ∀ p ∈ D, p ∈ C)
    (hdis : ∀ i D i' D', aget h' i = some D → aget h' i' = some D' → i ≠ i' → apart D D') (hcov : ∃ D, aget h' id = some D) : Sat w0 M w (h' ++ h) := by
  obtain ⟨Did, hid⟩ := hcov
  refine ⟨k.fr, fun i D hi => ?_, fun i D i' D' hi hi' hne => ?_⟩
  · rw [aget_over] at hi
    cases e : aget h' i with
    | some D' =>
      rw [e, Option.some_or] at hi
      simp only [Option.some.injEq] at hi
      subst hi
      exact fun p hp => k.own id C hg p (hsub i _ e p hp)
    | none => rw [e, Option.none_or] at hi; exact k.own i D hi
  · rw [aget_over] at hi hi'
    cases e : aget h' i with
    | some E =>
      rw [e, Option.some_or] at hi
      simp only [Option.some.injEq] at hi
      subst hi
      cases e' : aget h' i' with
      | some E' =>
        rw [e', Option.some_or] at hi'
        simp only [Option.some.injEq] at hi'
        subst hi'
        exact hdis i _ i' _ e e' hne
      | none =>
        rw [e', Option.none_or] at hi'
        exact fun p hp q hq => k.dis id C i' D' hg hi' (fun x => by subst x; rw [e'] at hid; cases hid) p (hsub i _ e p hp) q hq
    | none =>
      rw [e, Option.none_or] at hi
      cases e' : aget h' i' with
      | some E' =>
        rw [e', Option.some_or] at hi'
        simp only [Option.some.injEq] at hi'
        subst hi'
        exact fun p hp q hq => k.dis i D id C hi hg (fun x => by subst x; rw [e] at hid; cases hid) p hp q (hsub i' _ e' q hq)
      | none => rw [e', Option.none_or] at hi'; exact k.dis i D i' D' hi hi' hne
/-- parts put together -/
theorem Sat.whole {w : World} (k : Sat w0 M w h) {h' : Hp} {id : Nat} {C : Res} (hid : aget h' id = some C) (hE : ∀ i D, aget h' i = some D → i = id ∨ D = [])
    (hm : ∀ p ∈ C, ∃ j D, (∃ D', aget h' j = some D') ∧ aget h j = some D ∧ p ∈ D) : Sat w0 M w (h' ++ h) := by
  refine ⟨k.fr, fun i D hi => ?_, fun i D i' D' hi hi' hne => ?_⟩
  · rw [aget_over] at hi
    cases e : aget h' i with
    | some E =>
      rw [e, Option.some_or] at hi
      simp only [Option.some.injEq] at hi
      subst hi
      intro p hp
      rcases hE i _ e with x | x
      · subst x; rw [hid] at e; simp only [Option.some.injEq] at e; subst e
        obtain ⟨j, D, _, a, b⟩ := hm p hp
        exact k.own j D a p b
      · subst x; cases hp
    | none => rw [e, Option.none_or] at hi; exact k.own i D hi
  · have key : ∀ i D, aget h' i = some D → ∀ i' D', aget h' i' = none → aget h i' = some D' → apart D D' := by
      intro i D e i' D' e' hi' p hp q hq
      rcases hE i _ e with x | x
      · subst x; rw [hid] at e; simp only [Option.some.injEq] at e; subst e
        obtain ⟨j, D, ⟨D'', hD''⟩, a, b⟩ := hm p hp
        exact k.dis j D i' D' a hi' (fun x => by subst x; rw [e'] at hD''; cases hD'') p b q hq
      · subst x; cases hp
    rw [aget_over] at hi hi'
    cases e : aget h' i with
    | some E =>
      rw [e, Option.some_or] at hi
      simp only [Option.some.injEq] at hi
      subst hi
      cases e' : aget h' i' with
      | some E' =>
        rw [e', Option.some_or] at hi'
        simp only [Option.some.injEq] at hi'
        subst hi'
        intro p hp q hq
        rcases hE i _ e with x | x
        · rcases hE i' _ e' with y | y
          · exact absurd (x.trans y.symm) hne
          · subst y; cases hq
        · subst x; cases hp
      | none => rw [e', Option.none_or] at hi'; exact key i _ e i' D' e' hi'
    | none =>
      rw [e, Option.none_or] at hi
      cases e' : aget h' i' with
      | some E' =>
        rw [e', Option.some_or] at hi'
        simp only [Option.some.injEq] at hi'
        subst hi'
        exact (key i' _ e' i D e hi).symm
      | none => rw [e', Option.none_or] at hi'; exact k.dis i D i' D' hi hi' hne

theorem OwnC.nodup {α : Type} [Enc α] {e : TypeId} {l : List α} {C : Res} (ho : OwnC e ao cap l C) : True := trivial
/-- one element is opened -/
theorem OwnD.open {e e2 : TypeId} {C : Res} (ho : OwnD e e2 ao cap l C) {ie : Int} {z : Cp} (hk : idx l ie = some z) :
    ∃ (ls : List CpS) (p : Option Addr) (n c : Nat) (p' : Option Addr) (n' c' : Nat) (C0 Cr C1 C2 : Res), OwnC e ao cap ls C0 ∧ Bun e2 ls l ie.toNat Cr ∧ idx ls ie = some (⟨p, n, c, p', n', c'⟩ : CpS) ∧ n = z.n.length ∧ OwnC e2 p c z.n C1 ∧ n' = z.w.length ∧ OwnC e2 p' c' z.w C2 ∧
      (∀ q, q ∈ C0 ∨ q ∈ Cr ∨ q ∈ C1 ∨ q ∈ C2 → q ∈ C) ∧ apart C0 Cr ∧ apart C0 C1 ∧ apart C0 C2 ∧ apart Cr C1 ∧ apart Cr C2 ∧ apart C1 C2 := by
  obtain ⟨ls, C0, Cr, h0, ⟨hl, D, d1, d2, d3, d4⟩, h2, h3⟩ := ho
  obtain ⟨q0, q1, q2⟩ := idx_some hk
  have e0 : ls[ie.toNat]? = some ls[ie.toNat] := List.getElem?_eq_getElem (by omega)
  obtain ⟨⟨a, b⟩, c, d⟩ := d2 _ _ _ (by omega) e0 q2
  have m1 : ∀ p ∈ (D ie.toNat).1, p ∈ Cr := fun p hp => (d1 p).2 ⟨_, q1, by omega, .inl hp⟩
  have m2 : ∀ p ∈ (D ie.toNat).2, p ∈ Cr := fun p hp => (d1 p).2 ⟨_, q1, by omega, .inr hp⟩
  let Cx : Res := (List.range l.length).flatMap fun j => if j = ie.toNat then [] else (D j).1 ++ (D j).2
  have mx : ∀ p, p ∈ Cx ↔ ∃ j, j < l.length ∧ j ≠ ie.toNat ∧ (p ∈ (D j).1 ∨ p ∈ (D j).2) := by
    intro p
    simp only [Cx, List.mem_flatMap, List.mem_range]
    constructor
    · rintro ⟨j, hj, hp⟩
      split at hp
      · cases hp
      · exact ⟨j, hj, ‹_›, List.mem_append.1 hp⟩
    · rintro ⟨j, hj, hn, hp⟩
      exact ⟨j, hj, by rw [if_neg hn]; exact List.mem_append.2 hp⟩
  have mr : ∀ p ∈ Cx, p ∈ Cr := fun p hp => by
    obtain ⟨j, a, b, c⟩ := (mx p).1 hp
    exact (d1 p).2 ⟨j, a, by omega, c⟩
  refine ⟨ls, _, _, _, _, _, _, C0, Cx, _, _, h0, ⟨hl, D, mx, fun j s c hj hs hc => d2 j s c (by have := (List.getElem?_eq_some_iff.1 hc).1; omega) hs hc, fun j j' x y _ _ z => d3 j j' x y (by omega) (by omega) z, fun j x _ => d4 j x (by omega)⟩, by unfold idx; rw [if_pos q0]; exact e0, a, b, c, d, ?_, ?_, ?_, ?_, ?_, ?_, ?_⟩
  · rintro q (x | x | x | x)
    · exact (h3 q).2 (.inl x)
    · exact (h3 q).2 (.inr (mr q x))
    · exact (h3 q).2 (.inr (m1 q x))
    · exact (h3 q).2 (.inr (m2 q x))
  · exact fun p hp q hq => h2 p hp q (mr q hq)
  · exact fun p hp q hq => h2 p hp q (m1 q hq)
  · exact fun p hp q hq => h2 p hp q (m2 q hq)
  · intro p hp q hq
    obtain ⟨j, x, y, z⟩ := (mx p).1 hp
    exact d3 j _ x q1 (by omega) (by omega) y p (List.mem_append.2 z) q (List.mem_append.2 (.inl hq))
  · intro p hp q hq
    obtain ⟨j, x, y, z⟩ := (mx p).1 hp
    exact d3 j _ x q1 (by omega) (by omega) y p (List.mem_append.2 z) q (List.mem_append.2 (.inr hq))
  · exact d4 _ q1 (by omega)
/-- and shut -/
theorem OwnD.shut {e e2 : TypeId} {k : Nat} {ls : List CpS} {x : CpS} {m : Cp} {C0 Cr C1 C2 : Res} (h0 : OwnC e ao cap ls C0) (hb : Bun e2 ls l k Cr) (hx : ls[k]? = some x) (hm : l[k]? = some m) (h1 : x.n = m.n.length ∧ OwnC e2 x.p x.c m.n C1) (h2 : x.n' = m.w.length ∧ OwnC e2 x.p' x.c' m.w C2)
    (a1 : apart C0 Cr) (a2 : apart C0 C1) (a3 : apart C0 C2) (a4 : apart Cr C1) (a5 : apart Cr C2) (a6 : apart C1 C2) : OwnD e e2 ao cap l (C0 ++ (Cr ++ (C1 ++ C2))) := by
  obtain ⟨hl, D, d1, d2, d3, d4⟩ := hb
  have hk : k < l.length := (List.getElem?_eq_some_iff.1 hm).1
  have f1 : ∀ j, j < l.length → j ≠ k → ∀ p ∈ (D j).1 ++ (D j).2, p ∈ Cr := fun j a b p hp => (d1 p).2 ⟨j, a, b, List.mem_append.1 hp⟩
  refine ⟨ls, C0, Cr ++ (C1 ++ C2), h0, ⟨hl, fun j => if j = k then (C1, C2) else D j, fun p => ⟨fun hp => ?_, ?_⟩, fun j s c _ hs hc => ?_, fun j j' a b _ _ hne => ?_, fun j a _ => ?_⟩, ?_, fun p => List.mem_append⟩
  · rcases List.mem_append.1 hp with q | q
    · obtain ⟨j, a, b, c⟩ := (d1 p).1 q
      exact ⟨j, a, by omega, by simp only [if_neg b]; exact c⟩
    · exact ⟨k, hk, by omega, by simp only [if_true]; exact List.mem_append.1 q⟩
  · rintro ⟨j, a, _, c⟩
    by_cases e : j = k
    · subst e; simp only [if_true] at c; exact List.mem_append.2 (.inr (List.mem_append.2 c))
    · simp only [if_neg e] at c; exact List.mem_append.2 (.inl ((d1 p).2 ⟨j, a, e, c⟩))
  · by_cases e : j = k
    · subst e; rw [hx] at hs; rw [hm] at hc; simp only [Option.some.injEq] at hs hc; subst hs hc; simp only [if_true]; exact ⟨h1, h2⟩
    · simp only [if_neg e]; exact d2 j s c e hs hc
  · have a4' : apart Cr (C1 ++ C2) := fun p hp q hq => by
      rcases List.mem_append.1 hq with y | y
      · exact a4 p hp q y
      · exact a5 p hp q y
    by_cases e : j = k
    · subst e
      have e' : j' ≠ j := fun x => hne x.symm
      simp only [if_true, if_neg e']
      exact fun p hp q hq => (a4' q (f1 j' b e' q hq) p hp).symm
    · by_cases e' : j' = k
      · subst e'
        simp only [if_true, if_neg e]
        exact fun p hp q hq => a4' p (f1 j a e p hp) q hq
      · simp only [if_neg e, if_neg e']
        exact d3 j j' a b e e' hne
  · by_cases e : j = k
    · subst e; simp only [if_true]; exact a6
    · simp only [if_neg e]; exact d4 j a e
  · intro p hp q hq
    rcases List.mem_append.1 hq with y | y
    · exact a1 p hp q y
    · rcases List.mem_append.1 y with y | y
      · exact a2 p hp q y
      · exact a3 p hp q y

/-! ### in a state -/
def GW (n : Nat) (w0 : World) (M : List Nat) (Φ : Act → World → Prop) (s : Slots) (h : Hp) : Prop := ∀ a w, Has n a s → Sat w0 M w h → Φ a w
/-- numbers that differ -/
def df4 (a b c d : Nat) : Bool := !Nat.beq a b && !Nat.beq a c && !Nat.beq a d && !Nat.beq b c && !Nat.beq b d && !Nat.beq c d
theorem df4_ne {a b c d : Nat} (h : df4 a b c d = true) : a ≠ b ∧ a ≠ c ∧ a ≠ d ∧ b ≠ c ∧ b ≠ d ∧ c ≠ d := by
  simp only [df4, Bool.and_eq_true, Bool.not_eq_true'] at h
  obtain ⟨⟨⟨⟨⟨h1, h2⟩, h3⟩, h4⟩, h5⟩, h6⟩ := h
  exact ⟨ne_of_beq_false h1, ne_of_beq_false h2, ne_of_beq_false h3, ne_of_beq_false h4, ne_of_beq_false h5, ne_of_beq_false h6⟩
theorem aget4 {A B C D X : Res} {a b c d i : Nat} (h : aget [(a, A), (b, B), (c, C), (d, D)] i = some X) : i = a ∧ X = A ∨ i = b ∧ X = B ∨ i = c ∧ X = C ∨ i = d ∧ X = D := by
  rw [aget_cons] at h
  split at h
  · simp at h; exact .inl ⟨(‹a = i›).symm, h.symm⟩
  rw [aget_cons] at h
  split at h
  · simp at h; exact .inr (.inl ⟨(‹b = i›).symm, h.symm⟩)
  rw [aget_cons] at h
  split at h
  · simp at h; exact .inr (.inr (.inl ⟨(‹c = i›).symm, h.symm⟩))
  rw [aget_cons] at h
  split at h
  · simp at h; exact .inr (.inr (.inr ⟨(‹d = i›).symm, h.symm⟩))
  · cases h
theorem gw_open {Φ : Act → World → Prop} {e e2 : TypeId} {C : Res} (id i0 i1 i2 : Nat) (hd : df4 id i0 i1 i2 = true) (hg : aget h id = some C) (ho : OwnD e e2 ao cap l C) {ie : Int} {z : Cp} (hk : idx l ie = some z)
    (k : ∀ (ls : List CpS) (p : Option Addr) (n1 c : Nat) (p' : Option Addr) (n' c' : Nat) (C0 Cr C1 C2 : Res), OwnC e ao cap ls C0 → Bun e2 ls l ie.toNat Cr → idx ls ie = some (⟨p, n1, c, p', n', c'⟩ : CpS) → n1 = z.n.length → OwnC e2 p c z.n C1 → n' = z.w.length → OwnC e2 p' c' z.w C2 →
      GW n w0 M Φ s ((id, C0) :: (i0, Cr) :: (i1, C1) :: (i2, C2) :: h)) : GW n w0 M Φ s h := fun a w ha hw => by
  obtain ⟨ls, p, n1, c, p', n', c', C0, Cr, C1, C2, q1, q2, q3, q4, q5, q6, q7, m, a1, a2, a3, a4, a5, a6⟩ := ho.open hk
  obtain ⟨d1, d2, d3, d4, d5, d6⟩ := df4_ne hd
  refine k ls p n1 c p' n' c' C0 Cr C1 C2 q1 q2 q3 q4 q5 q6 q7 a w ha (hw.parts (h' := [(id, C0), (i0, Cr), (i1, C1), (i2, C2)]) hg (fun i D hi => ?_) (fun i D i' D' hi hi' hne => ?_) ⟨C0, aget_cons_eq _ _ _⟩)
  · rcases aget4 hi with ⟨_, rfl⟩ | ⟨_, rfl⟩ | ⟨_, rfl⟩ | ⟨_, rfl⟩
    · exact fun p hp => m p (.inl hp)
    · exact fun p hp => m p (.inr (.inl hp))
    · exact fun p hp => m p (.inr (.inr (.inl hp)))
    · exact fun p hp => m p (.inr (.inr (.inr hp)))
  · rcases aget4 hi with ⟨rfl, rfl⟩ | ⟨rfl, rfl⟩ | ⟨rfl, rfl⟩ | ⟨rfl, rfl⟩ <;> rcases aget4 hi' with ⟨rfl, rfl⟩ | ⟨rfl, rfl⟩ | ⟨rfl, rfl⟩ | ⟨rfl, rfl⟩ <;>
      first | exact absurd rfl hne | assumption | exact apart.symm (by assumption)
/-- the row alone -/
theorem gw_row {Φ : Act → World → Prop} {e e2 : TypeId} {C : Res} (id i0 : Nat) (hd : Nat.beq id i0 = false) (hg : aget h id = some C) (ho : OwnD e e2 ao cap l C)
    (k : ∀ (ls : List CpS) (C0 Cr : Res), OwnC e ao cap ls C0 → Bun e2 ls l l.length Cr → GW n w0 M Φ s ((id, C0) :: (i0, Cr) :: h)) : GW n w0 M Φ s h := fun a w ha hw => by
  obtain ⟨ls, C0, Cr, q1, q2, q3, q4⟩ := ho
  have hne0 : id ≠ i0 := ne_of_beq_false hd
  have ag : ∀ {i : Nat} {X : Res}, aget [(id, C0), (i0, Cr)] i = some X → i = id ∧ X = C0 ∨ i = i0 ∧ X = Cr := by
    intro i X h
    rw [aget_cons] at h
    split at h
    · simp at h; exact .inl ⟨(‹id = i›).symm, h.symm⟩
    rw [aget_cons] at h
    split at h
    · simp at h; exact .inr ⟨(‹i0 = i›).symm, h.symm⟩
    · cases h
  refine k ls C0 Cr q1 q2 a w ha (hw.parts (h' := [(id, C0), (i0, Cr)]) hg (fun i D hi => ?_) (fun i D i' D' hi hi' hne => ?_) ⟨C0, aget_cons_eq _ _ _⟩)
  · rcases ag hi with ⟨_, rfl⟩ | ⟨_, rfl⟩
    · exact fun p hp => (q4 p).2 (.inl hp)
    · exact fun p hp => (q4 p).2 (.inr hp)
  · rcases ag hi with ⟨rfl, rfl⟩ | ⟨rfl, rfl⟩ <;> rcases ag hi' with ⟨rfl, rfl⟩ | ⟨rfl, rfl⟩ <;> first | exact absurd rfl hne | assumption | exact apart.symm (by assumption)
theorem gw_shut {Φ : Act → World → Prop} {e e2 : TypeId} (id i0 i1 i2 : Nat) (hd : df4 id i0 i1 i2 = true) {k : Nat} {ls : List CpS} {p : Option Addr} {n1 c : Nat} {p' : Option Addr} {n' c' : Nat} {m : Cp} {C0 Cr C1 C2 : Res}
    (g0 : aget h id = some C0) (gr : aget h i0 = some Cr) (g1 : aget h i1 = some C1) (g2 : aget h i2 = some C2) (h0 : OwnC e ao cap ls C0) (hb : Bun e2 ls l k Cr) (hx : ls[k]? = some ⟨p, n1, c, p', n', c'⟩) (hm : l[k]? = some m) (h1 : n1 = m.n.length) (h1' : OwnC e2 p c m.n C1) (h2 : n' = m.w.length) (h2' : OwnC e2 p' c' m.w C2)
    (kk : ∀ C, OwnD e e2 ao cap l C → GW n w0 M Φ s ((id, C) :: (i0, []) :: (i1, []) :: (i2, []) :: h)) : GW n w0 M Φ s h := fun a w ha hw => by
  obtain ⟨d1, d2, d3, d4, d5, d6⟩ := df4_ne hd
  have ap : ∀ {i j : Nat} {A B : Res}, i ≠ j → aget h i = some A → aget h j = some B → apart A B := fun hij hi hj p hp q hq => hw.dis _ _ _ _ hi hj hij p hp q hq
  refine kk _ (OwnD.shut h0 hb hx hm ⟨h1, h1'⟩ ⟨h2, h2'⟩ (ap d1 g0 gr) (ap d2 g0 g1) (ap d3 g0 g2) (ap d4 gr g1) (ap d5 gr g2) (ap d6 g1 g2)) a w ha (hw.whole (h' := [(id, _), (i0, []), (i1, []), (i2, [])]) (aget_cons_eq _ _ _) (fun i D hi => ?_) fun p hp => ?_)
  · rcases aget4 hi with ⟨rfl, rfl⟩ | ⟨_, rfl⟩ | ⟨_, rfl⟩ | ⟨_, rfl⟩
    · exact .inl rfl
    all_goals exact .inr rfl
  · rcases List.mem_append.1 hp with y | y
    · exact ⟨id, C0, ⟨_, aget_cons_eq _ _ _⟩, g0, y⟩
    rcases List.mem_append.1 y with y | y
    · exact ⟨i0, Cr, ⟨_, (aget_cons_ne _ _ d1).trans (aget_cons_eq _ _ _)⟩, gr, y⟩
    rcases List.mem_append.1 y with y | y
    · exact ⟨i1, C1, ⟨_, (aget_cons_ne _ _ d2).trans ((aget_cons_ne _ _ d4).trans (aget_cons_eq _ _ _))⟩, g1, y⟩
    · exact ⟨i2, C2, ⟨_, (aget_cons_ne _ _ d3).trans ((aget_cons_ne _ _ d5).trans ((aget_cons_ne _ _ d6).trans (aget_cons_eq _ _ _)))⟩, g2, y⟩
/-- the row and all inner slices, put together as they were -/
theorem gw_unrow {Φ : Act → World → Prop} {e e2 : TypeId} (id i0 : Nat) (hd : Nat.beq id i0 = false) {ls : List CpS} {C0 Cr : Res} (g0 : aget h id = some C0) (gr : aget h i0 = some Cr) (h0 : OwnC e ao cap ls C0) (hb : Bun e2 ls l l.length Cr)
    (kk : ∀ C, OwnD e e2 ao cap l C → GW n w0 M Φ s ((id, C) :: (i0, []) :: h)) : GW n w0 M Φ s h := fun a w ha hw => by
  have hne : id ≠ i0 := ne_of_beq_false hd
  refine kk (C0 ++ Cr) ⟨ls, C0, Cr, h0, hb, fun p hp q hq => hw.dis _ _ _ _ g0 gr hne p hp q hq, fun p => List.mem_append⟩ a w ha (hw.whole (h' := [(id, _), (i0, [])]) (aget_cons_eq _ _ _) (fun i D hi => ?_) fun p hp => ?_)
  · rw [aget_cons] at hi
    split at hi
    · exact .inl (‹id = i›).symm
    · rw [aget_cons] at hi
      split at hi
      · simp at hi; exact .inr (by first | exact hi | exact hi.symm)
      · cases hi
  · rcases List.mem_append.1 hp with y | y
    · exact ⟨id, C0, ⟨_, aget_cons_eq _ _ _⟩, g0, y⟩
    · exact ⟨i0, Cr, ⟨_, (aget_cons_ne _ _ hne).trans (aget_cons_eq _ _ _)⟩, gr, y⟩

/-! ### what is owned is read by a callee -/
theorem OwnD.rod {e e2 : TypeId} {C : Res} (ho : OwnD e e2 ao cap l C) {w : World} {M' : List Nat} (hC : ∀ w', Fr w M' w' → ∀ p ∈ C, w'.heap[p.1]? = some p.2) : ROD w M' ao cap l := by
  obtain ⟨ls, C0, Cr, h0, ⟨hl, D, d1, d2, _⟩, _, h3⟩ := ho
  refine ⟨ls, fun w' hf => h0.rdl w' fun p hp => hC w' hf p ((h3 p).2 (.inl hp)), hl, fun j s c hs hc => ?_⟩
  have hj : j < l.length := (List.getElem?_eq_some_iff.1 hc).1
  obtain ⟨⟨a, b⟩, a', b'⟩ := d2 j s c (by omega) hs hc
  exact ⟨⟨a, fun w' hf => b.rdl w' fun p hp => hC w' hf p ((h3 p).2 (.inr ((d1 p).2 ⟨j, hj, by omega, .inl hp⟩)))⟩, a', fun w' hf => b'.rdl w' fun p hp => hC w' hf p ((h3 p).2 (.inr ((d1 p).2 ⟨j, hj, by omega, .inr hp⟩)))⟩
theorem res_stays {w : World} (hw : Sat w0 M w h) {id : Nat} {C : Res} (hg : aget h id = some C) {M' : List Nat} (hM : ∀ b ∈ M', ∃ id' C' o, aget h id' = some C' ∧ (b, o) ∈ C' ∧ id' ≠ id) : ∀ w', Fr w M' w' → ∀ p ∈ C, w'.heap[p.1]? = some p.2 := fun w' hf p hp => by
  obtain ⟨_, b⟩ := hw.own id C hg p hp
  rw [hf.block p.1 (lt_of_heap b) (fun hm => ?_)]
  · exact b
  · obtain ⟨id', C', o, h1, h2, h3⟩ := hM _ hm
    exact hw.dis id' C' id C h1 hg h3 _ h2 p hp rfl
theorem OwnD.pass {e e2 id : TypeId} {C : Res} (hg : aget h id = some C) (ho : OwnD e e2 ao cap l C) {w : World} (hw : Sat w0 M w h) : ROD w [] ao cap l := ho.rod (res_stays hw hg (fun b hb => by cases hb))
theorem OwnD.passM {e e2 id : TypeId} {C : Res} (hg : aget h id = some C) (ho : OwnD e e2 ao cap l C) {w : World} (hw : Sat w0 M w h) {h0 : Hp} {r : Nat → Nat} {Post : Value → Hp → Prop} (hb : Back h r Post h0) (ha : Apart r id h0) : ROD w (hkeys h0) ao cap l := ho.rod (res_stays hw hg (ha.mem hb))
end

section
variable {P : Program} {n : Nat} {w0 : World} {M : List Nat} {s : Slots} {h : Hp} {ao : Option Addr} {cap : Nat} {l : List Cp} {Q : Exit → Act → World → Prop} {L : Array Oper} {ops : List Oper} {cc : Code} {ex : Exit}
theorem ow_of {A : Prop} {s' : Slots} {h' : Hp} (f : A → GW n w0 M (fun a w => wpList P L Q ops a w) s h) (k : A) : OW P n w0 M L Q ops s h := f k
end
section
variable {n : Nat} {w0 : World} {M : List Nat} {s : Slots} {h : Hp} {ao : Option Addr} {cap : Nat} {l : List Cp} {e e2 : TypeId}
/-- the parts of an opened element -/
def Opn (n : Nat) (w0 : World) (M : List Nat) (s : Slots) (h : Hp) (e e2 : TypeId) (ao : Option Addr) (cap : Nat) (l : List Cp) (id i0 i1 i2 : Nat) (ie : Int) (z : Cp) (G : Slots → Hp → Prop) : Prop :=
  ∀ (ls : List CpS) (p : Option Addr) (n1 c : Nat) (p' : Option Addr) (n' c' : Nat) (C0 Cr C1 C2 : Res), OwnC e ao cap ls C0 → Bun e2 ls l ie.toNat Cr → idx ls ie = some (⟨p, n1, c, p', n', c'⟩ : CpS) → n1 = z.n.length → OwnC e2 p c z.n C1 → n' = z.w.length → OwnC e2 p' c' z.w C2 → G s ((id, C0) :: (i0, Cr) :: (i1, C1) :: (i2, C2) :: h)
variable {P : Program} {Q : Exit → Act → World → Prop} {L : Array Oper} {ops : List Oper} {cc : Code} {ex : Exit} {C : Res}
theorem ow_open (id i0 i1 i2 : Nat) (hg : aget h id = some C) (ho : OwnD e e2 ao cap l C) {ie : Int} {z : Cp} (hk : idx l ie = some z) (k : Opn n w0 M s h e e2 ao cap l id i0 i1 i2 ie z (OW P n w0 M L Q ops)) (hd : df4 id i0 i1 i2 = true := by rfl) : OW P n w0 M L Q ops s h := gw_open (Φ := fun a w => wpList P L Q ops a w) id i0 i1 i2 hd hg ho hk k
theorem cw_open (id i0 i1 i2 : Nat) (hg : aget h id = some C) (ho : OwnD e e2 ao cap l C) {ie : Int} {z : Cp} (hk : idx l ie = some z) (k : Opn n w0 M s h e e2 ao cap l id i0 i1 i2 ie z (CW P n w0 M cc Q)) (hd : df4 id i0 i1 i2 = true := by rfl) : CW P n w0 M cc Q s h := gw_open (Φ := fun a w => cc.wp P Q a w) id i0 i1 i2 hd hg ho hk k
theorem ow_row (id i0 : Nat) (hg : aget h id = some C) (ho : OwnD e e2 ao cap l C) (k : ∀ (ls : List CpS) (C0 Cr : Res), OwnC e ao cap ls C0 → Bun e2 ls l l.length Cr → OW P n w0 M L Q ops s ((id, C0) :: (i0, Cr) :: h)) (hd : Nat.beq id i0 = false := by rfl) : OW P n w0 M L Q ops s h := gw_row (Φ := fun a w => wpList P L Q ops a w) id i0 hd hg ho k
theorem cw_row (id i0 : Nat) (hg : aget h id = some C) (ho : OwnD e e2 ao cap l C) (k : ∀ (ls : List CpS) (C0 Cr : Res), OwnC e ao cap ls C0 → Bun e2 ls l l.length Cr → CW P n w0 M cc Q s ((id, C0) :: (i0, Cr) :: h)) (hd : Nat.beq id i0 = false := by rfl) : CW P n w0 M cc Q s h := gw_row (Φ := fun a w => cc.wp P Q a w) id i0 hd hg ho k
variable {kx : Nat} {ls : List CpS} {p : Option Addr} {n1 c : Nat} {p' : Option Addr} {n' c' : Nat} {m : Cp} {C0 Cr C1 C2 : Res}
theorem ow_shut (id i0 i1 i2 : Nat) (h0 : OwnC e ao cap ls C0) (hb : Bun e2 ls l kx Cr) (hx : ls[kx]? = some ⟨p, n1, c, p', n', c'⟩) (hm : l[kx]? = some m) (h1 : n1 = m.n.length) (h1' : OwnC e2 p c m.n C1) (h2 : n' = m.w.length) (h2' : OwnC e2 p' c' m.w C2) (kk : ∀ C, OwnD e e2 ao cap l C → OW P n w0 M L Q ops s ((id, C) :: (i0, []) :: (i1, []) :: (i2, []) :: h))
    (g0 : aget h id = some C0 := by rfl) (gr : aget h i0 = some Cr := by rfl) (g1 : aget h i1 = some C1 := by rfl) (g2 : aget h i2 = some C2 := by rfl) (hd : df4 id i0 i1 i2 = true := by rfl) : OW P n w0 M L Q ops s h := gw_shut (Φ := fun a w => wpList P L Q ops a w) id i0 i1 i2 hd g0 gr g1 g2 h0 hb hx hm h1 h1' h2 h2' kk
theorem cw_shut (id i0 i1 i2 : Nat) (h0 : OwnC e ao cap ls C0) (hb : Bun e2 ls l kx Cr) (hx : ls[kx]? = some ⟨p, n1, c, p', n', c'⟩) (hm : l[kx]? = some m) (h1 : n1 = m.n.length) (h1' : OwnC e2 p c m.n C1) (h2 : n' = m.w.length) (h2' : OwnC e2 p' c' m.w C2) (kk : ∀ C, OwnD e e2 ao cap l C → CW P n w0 M cc Q s ((id, C) :: (i0, []) :: (i1, []) :: (i2, []) :: h))
    (g0 : aget h id = some C0 := by rfl) (gr : aget h i0 = some Cr := by rfl) (g1 : aget h i1 = some C1 := by rfl) (g2 : aget h i2 = some C2 := by rfl) (hd : df4 id i0 i1 i2 = true := by rfl) : CW P n w0 M cc Q s h := gw_shut (Φ := fun a w => cc.wp P Q a w) id i0 i1 i2 hd g0 gr g1 g2 h0 hb hx hm h1 h1' h2 h2' kk
theorem kw_shut (id i0 i1 i2 : Nat) (h0 : OwnC e ao cap ls C0) (hb : Bun e2 ls l kx Cr) (hx : ls[kx]? = some ⟨p, n1, c, p', n', c'⟩) (hm : l[kx]? = some m) (h1 : n1 = m.n.length) (h1' : OwnC e2 p c m.n C1) (h2 : n' = m.w.length) (h2' : OwnC e2 p' c' m.w C2) (kk : ∀ C, OwnD e e2 ao cap l C → KW n w0 M Q ex s ((id, C) :: (i0, []) :: (i1, []) :: (i2, []) :: h))
    (g0 : aget h id = some C0 := by rfl) (gr : aget h i0 = some Cr := by rfl) (g1 : aget h i1 = some C1 := by rfl) (g2 : aget h i2 = some C2 := by rfl) (hd : df4 id i0 i1 i2 = true := by rfl) : KW n w0 M Q ex s h := gw_shut (Φ := fun a w => Q ex a w) id i0 i1 i2 hd g0 gr g1 g2 h0 hb hx hm h1 h1' h2 h2' kk
end

/-! ### views: what is owned is read where it lies -/
def RdC {α : Type} [Enc α] (C : Res) (ao : Option Addr) (cap : Nat) (l : List α) : Prop := ∀ w : World, (∀ p ∈ C, w.heap[p.1]? = some p.2) → RdL ao cap l w
section
variable {n : Nat} {w0 : World} {M : List Nat} {s : Slots} {h : Hp} {ao : Option Addr} {cap id : Nat} {α : Type} [Enc α] {l : List α} {C : Res}
theorem RdC.rdb (hr : RdC C ao cap l) (hg : aget h id = some C) : Rdb w0 M h ao cap l := fun w hw => hr w fun p hp => (hw.own id C hg p hp).2
theorem RdC.pass (hg : aget h id = some C) (hr : RdC C ao cap l) {w : World} (hw : Sat w0 M w h) : RO w [] (RdL ao cap l) := RO.ofRes hw hg (fun w' hC => hr w' hC) (fun b hb => by cases hb)
theorem RdC.passM (hg : aget h id = some C) (hr : RdC C ao cap l) {w : World} (hw : Sat w0 M w h) {h0 : Hp} {r : Nat → Nat} {Post : Value → Hp → Prop} (hb : Back h r Post h0) (ha : Apart r id h0) : RO w (hkeys h0) (RdL ao cap l) := RO.ofRes hw hg (fun w' hC => hr w' hC) (ha.mem hb)
end
theorem OwnD.view {e e2 : TypeId} {ao : Option Addr} {cap : Nat} {l : List Cp} {C : Res} (ho : OwnD e e2 ao cap l C) {ie : Int} {z : Cp} (hk : idx l ie = some z) :
    ∃ (ls : List CpS) (p : Option Addr) (n c : Nat) (p' : Option Addr) (n' c' : Nat), l.length = ls.length ∧ idx ls ie = some (⟨p, n, c, p', n', c'⟩ : CpS) ∧ n = z.n.length ∧ n' = z.w.length ∧ RdC C ao cap ls ∧ RdC C p c z.n ∧ RdC C p' c' z.w := by
  obtain ⟨ls, C0, Cr, h0, ⟨hl, D, d1, d2, _⟩, _, h3⟩ := ho
  obtain ⟨q0, q1, q2⟩ := idx_some hk
  have e0 : ls[ie.toNat]? = some ls[ie.toNat] := List.getElem?_eq_getElem (by omega)
  obtain ⟨⟨a, b⟩, c, d⟩ := d2 _ _ _ (by omega) e0 q2
  exact ⟨ls, _, _, _, _, _, _, hl, by unfold idx; rw [if_pos q0]; exact e0, a, c, fun w hC => h0.rdl w fun p hp => hC p ((h3 p).2 (.inl hp)),
    fun w hC => b.rdl w fun p hp => hC p ((h3 p).2 (.inr ((d1 p).2 ⟨_, q1, by omega, .inl hp⟩))), fun w hC => d.rdl w fun p hp => hC p ((h3 p).2 (.inr ((d1 p).2 ⟨_, q1, by omega, .inr hp⟩)))⟩

/-! ### small facts -/
theorem idx_set {α : Type} {l : List α} {i : Int} {x y : α} (h : idx l i = some x) : idx (l.set i.toNat y) i = some y := by
  obtain ⟨a, b, _⟩ := idx_some h
  unfold idx; rw [if_pos a, List.getElem?_set_self b]
theorem idx_setD {α : Type} {l : List α} {i : Int} {x : α} (h : idx l i = some x) (y : α) : (l.set i.toNat y)[i.toNat]? = some y := List.getElem?_set_self (idx_some h).2.1
theorem Bun.appZ {e2 : TypeId} {ls : List CpS} {l z : List Cp} {C : Res} {x : CpS} {c : Cp} (hb : Bun e2 ls l l.length C) (hz : cnt (l ++ [c]) = some z) : Bun e2 (ls ++ [x]) z l.length C := by
  obtain ⟨rfl, _⟩ := cnt_some hz
  exact hb.app x c
theorem app_get {ls : List CpS} {l : List Cp} {x : CpS} (h : l.length = ls.length) : (ls ++ [x])[l.length]? = some x := by rw [h]; simp
theorem app_getZ {l z : List Cp} {c : Cp} (hz : cnt (l ++ [c]) = some z) : z[l.length]? = some c := by
  obtain ⟨rfl, _⟩ := cnt_some hz
  simp
section
variable {P : Program} {n : Nat} {w0 : World} {M : List Nat} {s : Slots} {h : Hp} {ty t : TypeId} {x y : Operand}
theorem StpU.mono {op : Op} {Ψ Ψ' : Value → Hp → Prop} (st : StpU P n w0 M op ty s h Ψ) (hm : ∀ v U, Ψ v U → Ψ' v U) : StpU P n w0 M op ty s h Ψ' := fun a w ha hw o ho ht =>
  oper_wp_false (st a w ha hw o ho ht) fun a' w' ⟨v, U, h1, h2⟩ => ⟨v, U, hm v U h1, h2⟩
/-- a resource that is not changed, named again -/
theorem stpU_keep {op : Op} {Ψ : Value → Hp → Prop} {id : Nat} {C : Res} (hg : aget h id = some C) (st : StpU P n w0 M op ty s h Ψ) (hU : ∀ v U, Ψ v U → aget U id = none) {F : Prop} (hF : F) : StpU P n w0 M op ty s h (fun v U' => ∃ U, Ψ v U ∧ U' = U ++ [(id, C)] ∧ F) := fun a w ha hw o ho ht =>
  oper_wp_false (st a w ha hw o ho ht) fun a' w' ⟨v, U, h1, h2, h3⟩ => ⟨v, _, ⟨U, h1, rfl, hF⟩, h2, h3.subg fun i D hi => by
    rw [List.append_assoc, aget_append] at hi
    rw [aget_append]
    cases e : aget U i with
    | some E => rw [e] at hi; exact hi
    | none =>
      rw [e, Option.none_or, List.singleton_append, aget_cons] at hi
      rw [Option.none_or]
      split at hi
      · rename_i e'; subst e'; rw [← hi]; exact hg
      · exact hi⟩
/-- the same place of a row is written once more -/
theorem stpU_storeElS {id k i : Nat} {ao : Option Addr} {cap : Nat} {l : List CpS} {z0 : CpS} {C : Res} {e : TypeId} {v : Value} {agg : Bool} {ie : Int} {z : CpS} (z' : CpS) (hs : 0 < Enc.sz CpS) (T : TyS P t k agg)
    (hx : sev s x = some (.pointer (some ⟨eB ao, eO ao + ie.toNat * Enc.sz CpS + i, none⟩))) (hy : sev s y = some v) (hg : aget h id = some C) (ho : OwnC e ao cap (l.set ie.toNat z0) C) (hk : idx (l.set ie.toNat z0) ie = some z) (hv : v.cells.size = k) (h1 : v.cells.toList.all (·.oneCell') = true)
    (hi : Nat.ble (i + k) (Enc.sz CpS) = true) (hz : splice (Enc.cells z) i v.cells.toList = Enc.cells z') :
    StpU P n w0 M (.store t x y) ty s h (fun _ U => ∃ C', U = [(id, C')] ∧ OwnC e ao cap (l.set ie.toNat z') C') :=
  (stpU_storeEl z' hs T hx hy hg ho hk hv h1 hi hz).mono fun v U ⟨C', q1, q2⟩ => ⟨C', q1, by rwa [List.set_set] at q2⟩
theorem stpU_makeD (e2 : TypeId) {e bytes : Nat} (T : SlT P CpS t e bytes cpz) (hb : Nat.ble bytes 32768 = true) (id : Nat) {kl kc : IntKind} {i : Int} {k : Nat} (hx : sev s x = some (.int kl i)) (hy : sev s y = some (.int kc i)) (hk : mkO i = some k) :
    StpU P n w0 M (.makeSlice t x y) ty s h (fun v U => ∃ ao C, v = .slice ao k k ∧ U = [(id, C)] ∧ OwnD e e2 ao k (List.replicate k ⟨[], []⟩) C) :=
  (stpU_make T hb id hx hy hk).mono fun v U ⟨ao, C, h1, h2, h3⟩ => ⟨ao, C, h1, h2, OwnD.zero e2 h3⟩
theorem stpU_lit0D (e2 : TypeId) {e bytes : Nat} (T : SlT P CpS t e bytes cpz) (id : Nat) : StpU P n w0 M (.buildSlice t 0 #[]) ty s h (fun v U => ∃ ao C, v = .slice ao 0 0 ∧ U = [(id, C)] ∧ OwnD e e2 ao 0 [] C) :=
  (stpU_lit0 T id).mono fun v U ⟨ao, C, h1, h2, h3⟩ => ⟨ao, C, h1, h2, OwnD.ofNil e2 h3⟩
theorem stpU_appendR {e bytes : Nat} (T : SlT P CpS t e bytes cpz) (hb : Nat.ble bytes 32768 = true) {ao bo : Option Addr} {len cap len2 cap2 id : Nat} {ls ms : List CpS} {C : Res} {l m r : List Cp} {e2 : TypeId} {k : Nat} {Cr : Res}
    (hx : sev s x = some (.slice ao len cap)) (hl : len = l.length) (hy : sev s y = some (.slice bo len2 cap2)) (hl2 : len2 = ms.length) (hg : aget h id = some C) (ho : OwnC e ao cap ls C) (hr : Rdb w0 M h bo cap2 ms) (hbn : Bun e2 ls l k Cr) (hlm : ms.length = m.length) (hc : cnt (l ++ m) = some r) :
    StpU P n w0 M (.call ⟨.builtin .append, #[x, y], #[t, t]⟩) ty s h (fun v U => ∃ ao' cap' C', v = .slice ao' r.length cap' ∧ U = [(id, C')] ∧ OwnC e ao' cap' (ls ++ ms) C') := by
  obtain ⟨rfl, q⟩ := cnt_some hc
  have e1 := hbn.len
  have hc' : cnt (ls ++ ms) = some (ls ++ ms) := cnt_in (by simp at q ⊢; omega)
  refine (stpU_append T hb hx (by omega) hy hl2 hg ho hr hc').mono fun v U ⟨ao', cap', C', h1, h2, h3⟩ => ⟨ao', cap', C', ?_, h2, h3⟩
  rw [h1]; congr 1; simp; omega
end
end Go.Proofs.YtciliaiocakdkaaDoor
