/- The engine, first part: symbolic states (what is known of a function's temporaries and of the memory that it owns), and the rules by which code is stepped through over such states. No program is in sight. -/
import Derived.Test.YtciliaiocakdkaaDoorOwn
import Derived.Orders
import Derived.Deep.LoopGhost
set_option linter.unusedSimpArgs false
set_option linter.unusedVariables false
namespace Go.Proofs.YtciliaiocakdkaaDoor
open Go.RowKit

/-! ### tables -/
abbrev Res := List (Nat × Obj)
abbrev Slots := List (Nat × Value)
abbrev Hp := List (Nat × Res)

def aget {α : Type} : List (Nat × α) → Nat → Option α
  | [], _ => none
  | (j, v) :: s, i => bif Nat.beq j i then some v else aget s i

theorem beq_false_of_ne {i j : Nat} (h : j ≠ i) : Nat.beq j i = false := Bool.eq_false_iff.2 fun e => h (Nat.eq_of_beq_eq_true e)
theorem ne_of_beq_false {i j : Nat} (h : Nat.beq j i = false) : j ≠ i := fun e => by subst e; simp at h
theorem lt_of_blt {i j : Nat} (h : Nat.blt i j = true) : i < j := Nat.le_of_ble_eq_true h
theorem aget_cons_eq {α : Type} (s : List (Nat × α)) (i : Nat) (v : α) : aget ((i, v) :: s) i = some v := by simp [aget]
theorem aget_cons_ne {α : Type} (s : List (Nat × α)) {i j : Nat} (v : α) (h : j ≠ i) : aget ((j, v) :: s) i = aget s i := by
  have : Nat.beq j i = false := beq_false_of_ne h
  simp [aget, this]
theorem aget_cons {α : Type} (s : List (Nat × α)) (i j : Nat) (v : α) : aget ((j, v) :: s) i = if j = i then some v else aget s i := by
  by_cases h : j = i
  · subst h; rw [aget_cons_eq, if_pos rfl]
  · rw [aget_cons_ne s v h, if_neg h]
theorem aget_append {α : Type} (s t : List (Nat × α)) (i : Nat) : aget (s ++ t) i = (aget s i).or (aget t i) := by
  induction s with
  | nil => simp [aget]
  | cons p s ih =>
    obtain ⟨j, v⟩ := p
    rw [List.cons_append, aget_cons, aget_cons]
    split
    · rfl
    · exact ih

def sev (s : Slots) : Operand → Option Value
  | .tmp t => aget s t
  | .const v => some v
  | .global g => some (.pointer (some ⟨g, 0, none⟩))
  | .func f => some (.func (.func f) #[] #[])

structure Has (n : Nat) (a : Act) (s : Slots) : Prop where
  size : a.tmps.size = n
  defers : a.defers = []
  val : ∀ i v, aget s i = some v → a.tmps[i]? = some v

theorem Has.ev {n : Nat} {a : Act} {s : Slots} (h : Has n a s) {x : Operand} {v : Value} (hx : sev s x = some v) : a.eval x = v := by
  cases x with
  | tmp t => have := h.val t v hx; simp [Act.eval, this]
  | const u => simpa [sev, Act.eval] using hx
  | global g => simpa [sev, Act.eval] using hx
  | func f => simpa [sev, Act.eval] using hx

theorem Has.put {n : Nat} {a : Act} {s : Slots} (h : Has n a s) {d : Nat} (hd : Nat.blt d n = true) (v : Value) : Has n (a.put (some d) v) ((d, v) :: s) := by
  have hd' : d < n := lt_of_blt hd
  refine ⟨by simpa [Act.put] using h.size, by simpa [Act.put] using h.defers, fun i u hu => ?_⟩
  rw [aget_cons] at hu
  simp only [Act.put]
  by_cases e : d = i
  · subst e
    simp only [if_true, Option.some.injEq] at hu
    subst hu
    have := h.size
    simp [Array.getElem?_setIfInBounds, this, hd']
  · rw [if_neg e] at hu
    rw [Array.getElem?_setIfInBounds_ne e]
    exact h.val i u hu

theorem Has.none {n : Nat} {a : Act} {s : Slots} (h : Has n a s) (v : Value) : Has n (a.put none v) s := h

/-- fewer slots -/
def SubS : Slots → Slots → Prop
  | [], _ => True
  | (i, v) :: s', s => aget s i = some v ∧ SubS s' s
theorem SubS.get {s' s : Slots} (h : SubS s' s) : ∀ i v, aget s' i = some v → aget s i = some v := by
  induction s' with
  | nil => intro i v hi; cases hi
  | cons p s' ih =>
    obtain ⟨j, u⟩ := p
    intro i v hi
    rw [aget_cons] at hi
    split at hi
    · rename_i e; subst e; rw [← hi]; exact h.1
    · exact ih h.2 i v hi
theorem Has.sub {n : Nat} {a : Act} {s s' : Slots} (h : Has n a s) (hs : SubS s' s) : Has n a s' :=
  ⟨h.size, h.defers, fun i v hi => h.val i v (hs.get i v hi)⟩

/-! ### memory -/
/-- w is w0 but for the blocks M and new ones -/
structure Fr (w0 : World) (M : List Nat) (w : World) : Prop where
  os : w.os = w0.os
  tape : w.tape = w0.tape
  output : w.output = w0.output
  size : w0.heap.size ≤ w.heap.size
  block : ∀ k, k < w0.heap.size → k ∉ M → w.heap[k]? = w0.heap[k]?

theorem Fr.refl (w : World) (M : List Nat) : Fr w M w := ⟨rfl, rfl, rfl, Nat.le_refl _, fun _ _ _ => rfl⟩
theorem Fr.trans {w0 w w' : World} {M M' : List Nat} (h : Fr w0 M w) (k : Fr w M' w') (hM : ∀ b ∈ M', w0.heap.size ≤ b ∨ b ∈ M) : Fr w0 M w' :=
  ⟨k.os.trans h.os, k.tape.trans h.tape, k.output.trans h.output, Nat.le_trans h.size k.size, fun i hi hn =>
    (k.block i (Nat.lt_of_lt_of_le hi h.size) (fun hm => by rcases hM i hm with e | e; omega; exact hn e)).trans (h.block i hi hn)⟩
theorem Fr.below {w0 w : World} (h : Fr w0 [] w) : Below w0.heap.size w0 w := ⟨h.os, h.tape, h.output, h.size, fun k hk => h.block k hk (by simp)⟩
theorem Fr.ofBelow {w0 w : World} (h : Below w0.heap.size w0 w) (M : List Nat) : Fr w0 M w := ⟨h.os, h.tape, h.output, h.size, fun k hk _ => h.block k hk⟩

structure Sat (w0 : World) (M : List Nat) (w : World) (h : Hp) : Prop where
  fr : Fr w0 M w
  own : ∀ id C, aget h id = some C → ∀ p ∈ C, (w0.heap.size ≤ p.1 ∨ p.1 ∈ M) ∧ w.heap[p.1]? = some p.2
  dis : ∀ id C id' C', aget h id = some C → aget h id' = some C' → id ≠ id' → ∀ p ∈ C, ∀ q ∈ C', p.1 ≠ q.1

theorem Sat.refl (w : World) (M : List Nat) : Sat w M w [] := ⟨Fr.refl w M, fun _ _ h => by (cases h), fun _ _ _ _ h => by (cases h)⟩

def SubH : Hp → Hp → Prop
  | [], _ => True
  | (i, v) :: s', s => aget s i = some v ∧ SubH s' s
theorem SubH.get {s' s : Hp} (h : SubH s' s) : ∀ i v, aget s' i = some v → aget s i = some v := by
  induction s' with
  | nil => intro i v hi; cases hi
  | cons p s' ih =>
    obtain ⟨j, u⟩ := p
    intro i v hi
    rw [aget_cons] at hi
    split at hi
    · rename_i e; subst e; rw [← hi]; exact h.1
    · exact ih h.2 i v hi
theorem Sat.subg {w0 w : World} {M : List Nat} {h h' : Hp} (k : Sat w0 M w h) (hs : ∀ i v, aget h' i = some v → aget h i = some v) : Sat w0 M w h' :=
  ⟨k.fr, fun id C hi => k.own id C (hs id C hi), fun id C id' C' hi hi' => k.dis id C id' C' (hs id C hi) (hs id' C' hi')⟩
theorem Sat.sub {w0 w : World} {M : List Nat} {h h' : Hp} (k : Sat w0 M w h) (hs : SubH h' h) : Sat w0 M w h' := k.subg hs.get

/-- the resources under other numbers -/
def Sel (h : Hp) : Hp → List Nat → Prop
  | [], _ => True
  | (_, C) :: h', js => ∃ j js', js = j :: js' ∧ aget h j = some C ∧ Sel h h' js'
theorem Sel.get {h : Hp} : ∀ {h' : Hp} {js : List Nat}, Sel h h' js → ∀ i C, aget h' i = some C → ∃ (k j : Nat), h'[k]? = some (i, C) ∧ js[k]? = some j ∧ aget h j = some C
  | [], _, _, _, _, hi => by cases hi
  | (i0, C0) :: h', js, hs, i, C, hi => by
    obtain ⟨j, js', rfl, h1, h2⟩ := hs
    rw [aget_cons] at hi
    split at hi
    · rename_i e; subst e
      simp only [Option.some.injEq] at hi
      subst hi
      exact ⟨0, j, rfl, rfl, h1⟩
    · obtain ⟨k, j', a, b, c⟩ := Sel.get h2 i C hi
      exact ⟨k + 1, j', a, b, c⟩
theorem nodup_get {js : List Nat} (h : js.Nodup) {k k' j : Nat} (h1 : js[k]? = some j) (h2 : js[k']? = some j) : k = k' := by
  obtain ⟨a, b⟩ := List.getElem?_eq_some_iff.1 h1
  obtain ⟨c, d⟩ := List.getElem?_eq_some_iff.1 h2
  exact (List.getElem_inj h).1 (b.trans d.symm)
theorem Sat.sel {w0 w : World} {M : List Nat} {h h' : Hp} (k : Sat w0 M w h) {js : List Nat} (hs : Sel h h' js) (hn : js.Nodup) : Sat w0 M w h' := by
  refine ⟨k.fr, fun id C hi => ?_, fun id C id' C' hi hi' hne => ?_⟩
  · obtain ⟨_, j, _, _, hj⟩ := hs.get id C hi
    exact k.own j C hj
  · obtain ⟨m, j, a, b, hj⟩ := hs.get id C hi
    obtain ⟨m', j', a', b', hj'⟩ := hs.get id' C' hi'
    refine k.dis j C j' C' hj hj' (fun e => hne ?_)
    subst e
    have := nodup_get hn b b'
    subst this
    rw [a] at a'
    simp at a'
    exact a'.1

theorem Sat.drew {w0 w : World} {M : List Nat} {h : Hp} (k : Sat w0 M w h) (n : Nat) : Sat w0 M { w with drawn := n } h :=
  ⟨⟨k.fr.os, k.fr.tape, k.fr.output, k.fr.size, k.fr.block⟩, k.own, k.dis⟩
theorem lt_of_heap {w : World} {b : Nat} {o : Obj} (h : w.heap[b]? = some o) : b < w.heap.size := (Array.getElem?_eq_some_iff.1 h).1

/-- a new block -/
theorem Sat.new {w0 w : World} {M : List Nat} {h : Hp} (k : Sat w0 M w h) (id : Nat) (o : Obj) : Sat w0 M (w.alloc o) ((id, [(w.heap.size, o)]) :: h) := by
  have hb : ∀ j, j < w.heap.size → (w.alloc o).heap[j]? = w.heap[j]? := fun j hj => Below.heap_alloc w o j hj
  have hn : (w.alloc o).heap[w.heap.size]? = some o := by show (w.heap.push o)[w.heap.size]? = _; simp
  refine ⟨⟨k.fr.os, k.fr.tape, k.fr.output, by have := k.fr.size; simp; omega, fun j hj hm => (hb j (Nat.lt_of_lt_of_le hj k.fr.size)).trans (k.fr.block j hj hm)⟩, ?_, ?_⟩
  · intro i C hi p hp
    rw [aget_cons] at hi
    split at hi
    · simp only [Option.some.injEq] at hi
      subst hi
      simp only [List.mem_singleton] at hp
      subst hp
      exact ⟨.inl k.fr.size, hn⟩
    · obtain ⟨a, b⟩ := k.own i C hi p hp
      exact ⟨a, (hb _ (lt_of_heap b)).trans b⟩
  · intro i C i' C' hi hi' hne p hp q hq
    rw [aget_cons] at hi hi'
    split at hi
    · split at hi'
      · exact absurd ((‹id = i› : id = i).symm.trans ‹id = i'›) hne
      · simp only [Option.some.injEq] at hi
        subst hi
        simp only [List.mem_singleton] at hp
        subst hp
        have := lt_of_heap (k.own i' C' hi' q hq).2
        simp only []
        omega
    · split at hi'
      · simp only [Option.some.injEq] at hi'
        subst hi'
        simp only [List.mem_singleton] at hq
        subst hq
        have := lt_of_heap (k.own i C hi p hp).2
        simp only []
        omega
      · exact k.dis i C i' C' hi hi' hne p hp q hq

/-- the one block of a resource is changed -/
theorem Sat.upd {w0 w w' : World} {M : List Nat} {h : Hp} (k : Sat w0 M w h) {id b : Nat} {o o' : Obj} (hi : aget h id = some [(b, o)])
    (h1 : w'.os = w.os) (h2 : w'.tape = w.tape) (h3 : w'.output = w.output) (h4 : w.heap.size ≤ w'.heap.size) (h5 : ∀ j, j ≠ b → j < w.heap.size → w'.heap[j]? = w.heap[j]?) (h6 : w'.heap[b]? = some o') :
    Sat w0 M w' ((id, [(b, o')]) :: h) := by
  have hb := k.own id _ hi (b, o) (by simp)
  simp only [] at hb
  refine ⟨⟨h1.trans k.fr.os, h2.trans k.fr.tape, h3.trans k.fr.output, Nat.le_trans k.fr.size h4, fun j hj hm => ?_⟩, ?_, ?_⟩
  · rw [h5 j (fun e => by subst e; rcases hb.1 with e | e; omega; exact hm e) (Nat.lt_of_lt_of_le hj k.fr.size)]
    exact k.fr.block j hj hm
  · intro i C hiC p hp
    rw [aget_cons] at hiC
    split at hiC
    · simp only [Option.some.injEq] at hiC
      subst hiC
      simp only [List.mem_singleton] at hp
      subst hp
      exact ⟨hb.1, h6⟩
    · rename_i hne
      obtain ⟨a, c⟩ := k.own i C hiC p hp
      have := k.dis id _ i C hi hiC hne (b, o) (by simp) p hp
      exact ⟨a, (h5 _ (fun e => this e.symm) (lt_of_heap c)).trans c⟩
  · intro i C i' C' hiC hiC' hne p hp q hq
    rw [aget_cons] at hiC hiC'
    split at hiC
    · split at hiC'
      · exact absurd ((‹id = i› : id = i).symm.trans ‹id = i'›) hne
      · rename_i e e'
        simp only [Option.some.injEq] at hiC
        subst hiC
        simp only [List.mem_singleton] at hp
        subst hp
        exact k.dis id _ i' C' hi hiC' e' (b, o) (by simp) q hq
    · split at hiC'
      · rename_i e e'
        simp only [Option.some.injEq] at hiC'
        subst hiC'
        simp only [List.mem_singleton] at hq
        subst hq
        exact k.dis i C id _ hiC hi (fun x => e x.symm) p hp (b, o) (by simp)
      · exact k.dis i C i' C' hiC hiC' hne p hp q hq

/-! ### what is kept of what a call does: its own new memory, and the blocks M' that it may change, all of them in the resource 'rho' -/
def ren (r : Nat → Nat) (h : Hp) : Hp := h.map fun p => (r p.1, p.2)
theorem aget_ren {r : Nat → Nat} {h : Hp} {i : Nat} {C : Res} (hi : aget (ren r h) i = some C) : ∃ j, aget h j = some C ∧ r j = i := by
  induction h with
  | nil => cases hi
  | cons p h ih =>
    obtain ⟨j, u⟩ := p
    simp only [ren, List.map_cons] at hi
    rw [aget_cons] at hi
    split at hi
    · rename_i e
      simp only [Option.some.injEq] at hi
      subst hi
      exact ⟨j, aget_cons_eq _ _ _, e⟩
    · obtain ⟨j', a, b⟩ := ih hi
      by_cases e : j = j'
      · subst e
        rename_i hne
        exact absurd b hne
      · exact ⟨j', by rw [aget_cons_ne _ _ e]; exact a, b⟩

theorem Sat.call {w0 w w' : World} {M M' : List Nat} {h h' : Hp} (k : Sat w0 M w h) (c : Sat w M' w' h') (r : Nat → Nat)
    (hM : ∀ b ∈ M', ∃ id C o, aget h id = some C ∧ (b, o) ∈ C ∧ ∃ C', aget (ren r h') id = some C') : Sat w0 M w' (ren r h' ++ h) := by
  have hold : ∀ id C, aget (ren r h') id = none → aget h id = some C → ∀ p ∈ C, p.1 ∉ M' ∧ p.1 < w.heap.size := by
    intro id C hn hi p hp
    refine ⟨fun hm => ?_, lt_of_heap (k.own id C hi p hp).2⟩
    obtain ⟨id', C', o, h1, h2, C'', h3⟩ := hM p.1 hm
    by_cases e : id = id'
    · subst e; rw [hn] at h3; cases h3
    · exact k.dis id C id' C' hi h1 e p hp _ h2 rfl
  have hnew : ∀ id C, aget (ren r h') id = some C → ∀ p ∈ C, (w.heap.size ≤ p.1 ∨ p.1 ∈ M') ∧ w'.heap[p.1]? = some p.2 := by
    intro id C hi p hp
    obtain ⟨j, hj, _⟩ := aget_ren hi
    exact c.own j C hj p hp
  refine ⟨k.fr.trans c.fr (fun b hb => ?_), ?_, ?_⟩
  · obtain ⟨id, C, o, h1, h2, _⟩ := hM b hb
    exact (k.own id C h1 _ h2).1
  · intro id C hi p hp
    rw [aget_append] at hi
    cases hn : aget (ren r h') id with
    | some C' =>
      rw [hn] at hi
      simp only [Option.some_or, Option.some.injEq] at hi
      subst hi
      obtain ⟨a, b⟩ := hnew id C' hn p hp
      refine ⟨?_, b⟩
      rcases a with a | a
      · exact .inl (Nat.le_trans k.fr.size a)
      · obtain ⟨id', C'', o, h1, h2, _⟩ := hM _ a
        exact (k.own id' C'' h1 _ h2).1
    | none =>
      rw [hn] at hi
      simp only [Option.none_or] at hi
      obtain ⟨a, b⟩ := k.own id C hi p hp
      obtain ⟨m, lt⟩ := hold id C hn hi p hp
      exact ⟨a, (c.fr.block _ lt m).trans b⟩
  · intro id C id' C' hi hi' hne p hp q hq
    rw [aget_append] at hi hi'
    cases hn : aget (ren r h') id with
    | some D =>
      rw [hn] at hi
      simp only [Option.some_or, Option.some.injEq] at hi
      subst hi
      cases hn' : aget (ren r h') id' with
      | some D' =>
        rw [hn'] at hi'
        simp only [Option.some_or, Option.some.injEq] at hi'
        subst hi'
        obtain ⟨j, hj, e⟩ := aget_ren hn
        obtain ⟨j', hj', e'⟩ := aget_ren hn'
        exact c.dis j D j' D' hj hj' (fun x => hne (by rw [← e, ← e', x])) p hp q hq
      | none =>
        rw [hn'] at hi'
        simp only [Option.none_or] at hi'
        obtain ⟨a, _⟩ := hnew id D hn p hp
        obtain ⟨m, lt⟩ := hold id' C' hn' hi' q hq
        intro e
        rcases a with a | a
        · omega
        · rw [e] at a; exact m a
    | none =>
      rw [hn] at hi
      simp only [Option.none_or] at hi
      cases hn' : aget (ren r h') id' with
      | some D' =>
        rw [hn'] at hi'
        simp only [Option.some_or, Option.some.injEq] at hi'
        subst hi'
        obtain ⟨a, _⟩ := hnew id' D' hn' q hq
        obtain ⟨m, lt⟩ := hold id C hn hi p hp
        intro e
        rcases a with a | a
        · omega
        · rw [← e] at a; exact m a
      | none =>
        rw [hn'] at hi'
        simp only [Option.none_or] at hi'
        exact k.dis id C id' C' hi hi' hne p hp q hq

/-! ### code over states -/
section
variable {P : Program} {n : Nat} {w0 : World} {M : List Nat}

def KW (n : Nat) (w0 : World) (M : List Nat) (Q : Exit → Act → World → Prop) (e : Exit) (s : Slots) (h : Hp) : Prop := ∀ a w, Has n a s → Sat w0 M w h → Q e a w
def CW (P : Program) (n : Nat) (w0 : World) (M : List Nat) (c : Code) (Q : Exit → Act → World → Prop) (s : Slots) (h : Hp) : Prop := ∀ a w, Has n a s → Sat w0 M w h → c.wp P Q a w
def OW (P : Program) (n : Nat) (w0 : World) (M : List Nat) (L : Array Oper) (Q : Exit → Act → World → Prop) (ops : List Oper) (s : Slots) (h : Hp) : Prop := ∀ a w, Has n a s → Sat w0 M w h → wpList P L Q ops a w
def nx (P : Program) (c : Code) (Q : Exit → Act → World → Prop) : Exit → Act → World → Prop := Exit.then (fun a w => c.wp P Q a w) Q

variable {Q : Exit → Act → World → Prop} {s : Slots} {h : Hp} {c c' : Code} {L : Array Oper}

theorem KW.sub {e : Exit} {s' : Slots} {h' : Hp} (k : KW n w0 M Q e s' h') (hs : SubS s' s) (hh : SubH h' h) : KW n w0 M Q e s h := fun a w ha hw => k a w (ha.sub hs) (hw.sub hh)
theorem CW.sub {s' : Slots} {h' : Hp} (k : CW P n w0 M c Q s' h') (hs : SubS s' s) (hh : SubH h' h) : CW P n w0 M c Q s h := fun a w ha hw => k a w (ha.sub hs) (hw.sub hh)

theorem cw_seq (k : CW P n w0 M c (nx P c' Q) s h) : CW P n w0 M (.seq c c') Q s h := fun a w ha hw => wp_seq (k a w ha hw)
theorem kw_nx (k : CW P n w0 M c Q s h) : KW n w0 M (nx P c Q) .normal s h := k
theorem kw_nx_ret (k : KW n w0 M Q .ret s h) : KW n w0 M (nx P c Q) .ret s h := k
theorem kw_nx_exit {id : Nat} (k : KW n w0 M Q (.exit id) s h) : KW n w0 M (nx P c Q) (.exit id) s h := k
theorem kw_bl {id : Nat} (k : KW n w0 M Q .normal s h) : KW n w0 M (Exit.inBlock id Q) (.exit id) s h := fun a w ha hw => by
  simp only [Exit.inBlock, if_true]; exact k a w ha hw
theorem kw_bl_ne {id id' : Nat} (hne : Nat.beq id' id = false) (k : KW n w0 M Q (.exit id') s h) : KW n w0 M (Exit.inBlock id Q) (.exit id') s h := fun a w ha hw => by
  have : id' ≠ id := ne_of_beq_false hne
  simp only [Exit.inBlock, this, if_false]; exact k a w ha hw
theorem kw_bl_normal {id : Nat} (k : KW n w0 M Q .normal s h) : KW n w0 M (Exit.inBlock id Q) .normal s h := k
theorem kw_bl_ret {id : Nat} (k : KW n w0 M Q .ret s h) : KW n w0 M (Exit.inBlock id Q) .ret s h := k
theorem cw_skip (k : KW n w0 M Q .normal s h) : CW P n w0 M .skip Q s h := fun a w ha hw => wp_skip (k a w ha hw)
theorem cw_ret (k : KW n w0 M Q .ret s h) : CW P n w0 M .ret Q s h := fun a w ha hw => wp_ret (k a w ha hw)
theorem cw_exit {id : Nat} (k : KW n w0 M Q (.exit id) s h) : CW P n w0 M (.exit id) Q s h := fun a w ha hw => wp_exit (k a w ha hw)
theorem cw_block {id : Nat} (k : CW P n w0 M c (Exit.inBlock id Q) s h) : CW P n w0 M (.block id c) Q s h := fun a w ha hw => wp_block (k a w ha hw)
theorem cw_cond {x : Operand} {b : Bool} (hx : sev s x = some (.bool b)) (kt : b = true → CW P n w0 M c Q s h) (kf : b = false → CW P n w0 M c' Q s h) : CW P n w0 M (.cond x c c') Q s h := fun a w ha hw =>
  wp_cond_split (ha.ev hx) (fun e => kt e a w ha hw) (fun e => kf e a w ha hw)

/-- ways that meet again -/
def JQ (n : Nat) (w0 : World) (M : List Nat) (Q : Exit → Act → World → Prop) {ι : Type} (J : ι → Prop) (S : ι → Slots) (R : ι → Hp) : Exit → Act → World → Prop
  | .normal, a, w => ∃ x, J x ∧ Has n a (S x) ∧ Sat w0 M w (R x)
  | e, a, w => Q e a w
theorem cw_join {ι : Type} (J : ι → Prop) (S : ι → Slots) (R : ι → Hp) (k : CW P n w0 M c (JQ n w0 M Q J S R) s h) (ke : ∀ x, J x → KW n w0 M Q .normal (S x) (R x)) : CW P n w0 M c Q s h := fun a w ha hw =>
  wp_mono (k a w ha hw) fun e a' w' hq => by
    cases e with
    | normal => obtain ⟨x, h1, h2, h3⟩ := hq; exact ke x h1 a' w' h2 h3
    | _ => exact hq
theorem kw_join {ι : Type} {J : ι → Prop} {S : ι → Slots} {R : ι → Hp} (x : ι) (hj : J x) (hs : SubS (S x) s) (hr : SubH (R x) h) : KW n w0 M (JQ n w0 M Q J S R) .normal s h := fun a w ha hw => ⟨x, hj, ha.sub hs, hw.sub hr⟩
theorem kw_join_ret {ι : Type} {J : ι → Prop} {S : ι → Slots} {R : ι → Hp} (k : KW n w0 M Q .ret s h) : KW n w0 M (JQ n w0 M Q J S R) .ret s h := k
theorem kw_join_exit {ι : Type} {J : ι → Prop} {S : ι → Slots} {R : ι → Hp} {id : Nat} (k : KW n w0 M Q (.exit id) s h) : KW n w0 M (JQ n w0 M Q J S R) (.exit id) s h := k

/-- a loop -/
def LQ (n : Nat) (w0 : World) (M : List Nat) (Q : Exit → Act → World → Prop) {ι : Type} (μ : ι → Nat) (x0 : ι) (J : ι → Prop) (S : ι → Slots) (R : ι → Hp) : Exit → Act → World → Prop
  | .normal, a, w => ∃ x, J x ∧ μ x < μ x0 ∧ Has n a (S x) ∧ Sat w0 M w (R x)
  | e, a, w => Q e a w
theorem cw_loop {ι : Type} (μ : ι → Nat) (J : ι → Prop) (S : ι → Slots) (R : ι → Hp) (x : ι) (hj : J x)
    (k : ∀ x, J x → CW P n w0 M c (LQ n w0 M Q μ x J S R) (S x) (R x)) : CW P n w0 M (.loop c) Q (S x) (R x) := by
  intro a w ha hw
  refine wp_loop_ghost (fun m a w => ∃ x, μ x = m ∧ J x ∧ Has n a (S x) ∧ Sat w0 M w (R x)) (μ x) ⟨x, rfl, hj, ha, hw⟩ ?_
  rintro m a w ⟨y, rfl, hy, ha, hw⟩
  refine wp_mono (k y hy a w ha hw) fun e a' w' hq => ?_
  cases e with
  | normal => obtain ⟨z, h1, h2, h3, h4⟩ := hq; exact ⟨μ z, h2, z, rfl, h1, h3, h4⟩
  | _ => exact hq
end
end Go.Proofs.YtciliaiocakdkaaDoor
