/- The engine, regions that draw their order: the operations are met one after the other, each with what its own forerunners have left (a static look at the region's edges says that no other order matters); behind the region every operation's fact is there. -/
import Derived.Test.YtbfbfkpcabkchaaGreatDoorE4
import Derived.KernelRfl
set_option linter.unusedSimpArgs false
set_option linter.unusedVariables false
set_option linter.unusedSectionVars false
namespace Go.Proofs.YtbfbfkpcabkchaaGreatDoor
open Go.RowKit

def memB : Nat → List Nat → Bool
  | _, [] => false
  | k, j :: l => bif Nat.beq j k then true else memB k l
theorem memB_iff {k : Nat} {l : List Nat} : memB k l = true ↔ k ∈ l := by
  induction l with
  | nil => simp [memB]
  | cons j l ih =>
    unfold memB
    by_cases e : j = k
    · subst e; simp
    · rw [beq_false_of_ne e]; simp only [cond_false, ih, List.mem_cons]
      exact ⟨.inr, fun h => h.resolve_left (fun x => e x.symm)⟩
def gA {α : Type} (d : α) : List α → Nat → α
  | [], _ => d
  | x :: _, 0 => x
  | _ :: l, i + 1 => gA d l i
/-- an operation is met; or what it does is said, and what it brings is met later -/
inductive Ev where
  | n (i : Nat)
  | d (i : Nat)
  | o (i : Nat)
def rn (a : Nat) : Nat → List Ev
  | 0 => []
  | k + 1 => .n a :: rn (a + 1) k
def con : List Ev → List Nat
  | [] => []
  | .n i :: l => i :: con l
  | .d _ :: l => con l
  | .o i :: l => i :: con l
theorem con_app : ∀ (l m : List Ev), con (l ++ m) = con l ++ con m
  | [], _ => rfl
  | .n i :: l, m => by simp [con, con_app l m]
  | .d i :: l, m => by simp [con, con_app l m]
  | .o i :: l, m => by simp [con, con_app l m]
theorem con_mem {i : Nat} : ∀ {l : List Ev}, i ∈ con l → .n i ∈ l ∨ .o i ∈ l
  | [], h => by cases h
  | .n j :: l, h => by
    rcases List.mem_cons.1 h with e | e
    · subst e; exact .inl (by simp)
    · exact (con_mem e).imp (fun h => by simp [h]) (fun h => by simp [h])
  | .d j :: l, h => (con_mem (l := l) h).imp (fun h => by simp [h]) (fun h => by simp [h])
  | .o j :: l, h => by
    rcases List.mem_cons.1 h with e | e
    · subst e; exact .inr (by simp)
    · exact (con_mem e).imp (fun h => by simp [h]) (fun h => by simp [h])
def Ext {α : Type} (s s' : List (Nat × α)) : Prop := ∀ i v, aget s i = some v → aget s' i = some v
theorem Ext.refl {α : Type} (s : List (Nat × α)) : Ext s s := fun _ _ h => h
theorem Ext.app {α : Type} (c : List (Nat × α)) {s s' : List (Nat × α)} (h : Ext s s') : Ext (c ++ s) (c ++ s') := fun i v hi => by
  rw [aget_append] at hi ⊢
  cases e : aget c i with
  | some u => rw [e] at hi; exact hi
  | none => rw [e] at hi; simpa using h i v (by simpa using hi)

/-! ### lists of what operations add -/
section
variable {α : Type}
def aL (c : Nat → List (Nat × α)) : List Nat → List (Nat × α) → List (Nat × α)
  | [], b => b
  | i :: l, b => aL c l (c i ++ b)
theorem aL_app (c : Nat → List (Nat × α)) : ∀ (l m : List Nat) (b : List (Nat × α)), aL c (l ++ m) b = aL c m (aL c l b)
  | [], _, _ => rfl
  | i :: l, m, b => aL_app c l m (c i ++ b)
theorem aL_congr {c c' : Nat → List (Nat × α)} : ∀ {l : List Nat} {b : List (Nat × α)}, (∀ k ∈ l, c k = c' k) → aL c l b = aL c' l b
  | [], _, _ => rfl
  | i :: l, b, h => by
    unfold aL
    rw [h i (by simp)]
    exact aL_congr fun k hk => h k (by simp [hk])
theorem app_base {c b b' : List (Nat × α)} {x : Nat} (h : aget b x = aget b' x) : aget (c ++ b) x = aget (c ++ b') x := by rw [aget_append, aget_append, h]
theorem aL_base {c : Nat → List (Nat × α)} {x : Nat} : ∀ (l : List Nat) {b b' : List (Nat × α)}, aget b x = aget b' x → aget (aL c l b) x = aget (aL c l b') x
  | [], _, _, h => h
  | i :: l, b, b', h => aL_base l (app_base h)
theorem app_none {c b : List (Nat × α)} {x : Nat} (h : aget c x = none) : aget (c ++ b) x = aget b x := by rw [aget_append, h]; rfl
theorem aL_none {c : Nat → List (Nat × α)} {x : Nat} : ∀ {l : List Nat} {b : List (Nat × α)}, (∀ k ∈ l, aget (c k) x = none) → aget (aL c l b) x = aget b x
  | [], _, _ => rfl
  | i :: l, b, h => by
    unfold aL
    rw [aL_none fun k hk => h k (by simp [hk]), app_none (h i (by simp))]
theorem aL_filt {c : Nat → List (Nat × α)} {D : Nat → Bool} {x : Nat} : ∀ {l : List Nat} {b : List (Nat × α)}, (∀ k ∈ l, aget (c k) x ≠ none → D k = true) → aget (aL c (l.filter D) b) x = aget (aL c l b) x
  | [], _, _ => rfl
  | i :: l, b, h => by
    have ih : ∀ b', aget (aL c (l.filter D) b') x = aget (aL c l b') x := fun b' => aL_filt fun k hk => h k (by simp [hk])
    cases hd : D i with
    | true => rw [List.filter_cons_of_pos hd]; exact ih _
    | false =>
      rw [List.filter_cons_of_neg (by simp [hd]), ih]
      have : aget (c i) x = none := by
        cases e : aget (c i) x with
        | none => rfl
        | some v => exact absurd (h i (by simp) (by simp [e])) (by simp [hd])
      exact (aL_base l (app_none this)).symm
theorem aL_view {c : Nat → List (Nat × α)} {D : Nat → Bool} {x : Nat} {l1 l2 : List Nat} {b : List (Nat × α)} (h1 : ∀ k ∈ l1, aget (c k) x ≠ none → D k = true) (h2 : ∀ k ∈ l2, aget (c k) x ≠ none → D k = false) :
    aget (aL c ((l1 ++ l2).filter D) b) x = aget (aL c l1 b) x := by
  rw [List.filter_append, aL_app, aL_none, aL_filt h1]
  intro k hk
  obtain ⟨hk, hd⟩ := List.mem_filter.1 hk
  cases e : aget (c k) x with
  | none => rfl
  | some v => exact absurd hd (by simp [h2 k hk (by simp [e])])
theorem aL_late {c : Nat → List (Nat × α)} {a : List (Nat × α)} {x : Nat} {m : List Nat} {b : List (Nat × α)} (h : ∀ k ∈ m, aget (c k) x = none ∨ aget a x = none) : aget (aL c m (a ++ b)) x = aget (a ++ aL c m b) x := by
  cases e : aget a x with
  | none => rw [app_none e, aL_base m (app_none e)]
  | some v =>
    rw [aL_none fun k hk => (h k hk).resolve_right (by simp [e]), aget_append, aget_append, e]
    rfl
theorem aL_ins {c : Nat → List (Nat × α)} {D : Nat → Bool} {i x : Nat} {l1 l2 : List Nat} {b : List (Nat × α)} (hn : (l1 ++ i :: l2).Nodup) (hi : D i = false) (h : ∀ k ∈ l2, D k = true → aget (c k) x = none ∨ aget (c i) x = none) :
    aget (aL c ((l1 ++ i :: l2).filter fun k => k == i || D k) b) x = aget (c i ++ aL c ((l1 ++ i :: l2).filter D) b) x := by
  have hn' := List.nodup_append.1 hn
  have e1 : l1.filter (fun k => k == i || D k) = l1.filter D := List.filter_congr fun k hk => by
    have : k ≠ i := fun e => hn'.2.2 k hk i (by simp) e
    simp [this]
  have e2 : l2.filter (fun k => k == i || D k) = l2.filter D := List.filter_congr fun k hk => by
    have : k ≠ i := fun e => by subst e; exact (List.nodup_cons.1 hn'.2.1).1 hk
    simp [this]
  rw [List.filter_append, List.filter_cons_of_pos (by simp), e1, e2, List.filter_append, List.filter_cons_of_neg (by simp [hi]), aL_app, aL_app]
  exact aL_late fun k hk => by
    obtain ⟨a, b⟩ := List.mem_filter.1 hk
    exact h k a b
end

def hsel (h : Hp) : List Nat → Hp
  | [] => []
  | id :: l => match aget h id with
    | some C => (id, C) :: hsel h l
    | none => hsel h l
theorem hsel_get {h : Hp} {x : Nat} {C : Res} : ∀ {l : List Nat}, aget (hsel h l) x = some C → aget h x = some C ∧ x ∈ l
  | [], hx => by cases hx
  | id :: l, hx => by
    unfold hsel at hx
    cases e : aget h id with
    | none => rw [e] at hx; have := hsel_get hx; exact ⟨this.1, by simp [this.2]⟩
    | some C' =>
      rw [e] at hx
      simp only [] at hx
      rw [aget_cons] at hx
      split at hx
      · rename_i e'; subst e'; simp only [Option.some.injEq] at hx; subst hx; exact ⟨e, by simp⟩
      · have := hsel_get hx; exact ⟨this.1, by simp [this.2]⟩
theorem hsel_in {h : Hp} {x : Nat} {C : Res} : ∀ {l : List Nat}, aget h x = some C → x ∈ l → aget (hsel h l) x = some C
  | [], _, hm => by cases hm
  | id :: l, hx, hm => by
    unfold hsel
    by_cases e : id = x
    · subst e; rw [hx]; simp only []; exact aget_cons_eq _ _ _
    · have := hsel_in (l := l) hx (by simpa [Ne.symm e] using hm)
      cases e' : aget h id with
      | none => exact this
      | some C' => simp only []; rw [aget_cons_ne _ _ e]; exact this
theorem hsel_ext {h h' : Hp} {l : List Nat} (e : ∀ x ∈ l, ∀ C, aget h x = some C → aget h' x = some C) : Ext (hsel h l) (hsel h' l) := fun x C hx => by
  obtain ⟨a, b⟩ := hsel_get hx
  exact hsel_in (e x b C a) b

/-- the tables of a region: the resources that an operation looks at, those that it makes or changes, the operations that bring what is not known ahead -/
structure Dt where
  T : List (List Nat)
  I : List (List Nat)
  G : List Nat
def dsO (ops : List Oper) (i : Nat) : Option Nat := match ops[i]? with | some o => o.dst | none => none
def cs (d : Option Nat) (v : Value) : Slots := match d with | some d => [(d, v)] | none => []

section
variable {P : Program} {n : Nat} {w0 : World} {M : List Nat} {ops : List Oper}

def LocR (P : Program) (n : Nat) (w0 : World) (M : List Nat) (ops : List Oper) (i : Nat) (s : Slots) (hv : Hp) (Ψ : Value → Hp → Prop) : Prop :=
  ∀ a w h', Has n a s → Ext hv h' → Sat w0 M w h' → wpOp P ops.toArray (fun _ _ _ => False) i (fun a' w' => ∃ v, (∃ U, Ψ v U ∧ Sat w0 M w' (U ++ h')) ∧ a' = a.put (dsO ops i) v) a w

def eqΨ (d : Option Nat) (v : Value) (U : Hp) : Value → Hp → Prop := fun v' U' => (d = none ∨ v' = v) ∧ U' = U
def kys (U : Hp) (l : List Nat) : Bool := U.all fun p => memB p.1 l

abbrev Pd := List (Nat × (Value → Hp → Prop))
def DW (P : Program) (n : Nat) (w0 : World) (M : List Nat) (ops : List Oper) (D : Dt) (E : Slots → Hp → Prop) : List Ev → Pd → Slots → Hp → Prop
  | [], _, s, h => E s h
  | .n i :: is, pd, s, h => bif memB i D.G then ∃ Ψ, LocR P n w0 M ops i s (hsel h (gA [] D.T i)) Ψ ∧ ∀ v U, Ψ v U → kys U (gA [] D.I i) = true ∧ DW P n w0 M ops D E is pd (cs (dsO ops i) v ++ s) (U ++ h)
    else ∃ v U, LocR P n w0 M ops i s (hsel h (gA [] D.T i)) (eqΨ (dsO ops i) v U) ∧ kys U (gA [] D.I i) = true ∧ DW P n w0 M ops D E is pd (cs (dsO ops i) v ++ s) (U ++ h)
  | .d i :: is, pd, s, h => ∃ Ψ, LocR P n w0 M ops i s (hsel h (gA [] D.T i)) Ψ ∧ (∀ v U, Ψ v U → kys U (gA [] D.I i) = true) ∧ DW P n w0 M ops D E is ((i, Ψ) :: pd) s h
  | .o i :: is, pd, s, h => ∃ Ψ, aget pd i = some Ψ ∧ ∀ v U, Ψ v U → DW P n w0 M ops D E is pd (cs (dsO ops i) v ++ s) (U ++ h)

theorem kys_none {U : Hp} {l : List Nat} {x : Nat} (h : kys U l = true) (hx : x ∉ l) : aget U x = none := by
  induction U with
  | nil => rfl
  | cons p U ih =>
    obtain ⟨j, C⟩ := p
    simp only [kys, List.all_cons, Bool.and_eq_true] at h
    rw [aget_cons_ne _ _ (fun e => hx (by rw [← e]; exact memB_iff.1 h.1))]
    exact ih h.2

theorem wpOp_false' {ops : Array Oper} {i : Nat} {K K' : Act → World → Prop} {Q : Exit → Act → World → Prop} {a : Act} {w : World} (hh : wpOp P ops (fun _ _ _ => False) i K a w) (h : ∀ a w, K a w → K' a w) : wpOp P ops Q i K' a w := by
  unfold wpOp at *
  split
  · rename_i e; simp only [e] at hh; exact h _ _ hh
  · rename_i o e
    simp only [e] at hh
    split
    · rename_i hw
      simp only [hw, if_true] at hh
      rcases hh with hh | ⟨_, _, _, f⟩
      · exact .inl (oper_wp_false hh h)
      · exact f.elim
    · rename_i hw; simp only [hw] at hh; exact h _ _ hh

/-- an operation's doing hangs on what it looks at alone -/
theorem wpOp_agree {ops : Array Oper} {i : Nat} {o : Oper} {a b : Act} {w : World} {K : Value → World → Prop} (ho : ops[i]? = some o) (hs : (match o.op with | .select .. => false | _ => true) = true) (hd : a.defers = b.defers) (hz : a.tmps.size = b.tmps.size)
    (he : ∀ t ∈ o.looksAt ops, a.tmps[t]? = b.tmps[t]?) (h : wpOp P ops (fun _ _ _ => False) i (fun a' w' => ∃ v, K v w' ∧ a' = a.put o.dst v) a w) : wpOp P ops (fun _ _ _ => False) i (fun b' w' => ∃ v, K v w' ∧ b' = b.put o.dst v) b w := by
  have hx : execOp a.eval o = execOp b.eval o := execOp_congr o (fun cs bl e => by rw [e] at hs; cases hs) fun x hx => by
    cases x with
    | tmp t =>
      have := he t (List.mem_append_left _ (List.mem_filterMap.2 ⟨.tmp t, by simpa using hx, rfl⟩))
      simp [Act.eval, this]
    | _ => rfl
  have hw : Region.wanted o (yielded ops a.tmps) = Region.wanted o (yielded ops b.tmps) := by
    unfold Region.wanted
    cases hg : o.guard with
    | none => rfl
    | some gw =>
      obtain ⟨g, want⟩ := gw
      have hy : yielded ops a.tmps g = yielded ops b.tmps g := by
        unfold yielded
        cases ht : (ops[g]?).bind (·.dst) with
        | none => rfl
        | some t => simp only [Option.bind_some]; rw [he t (by simp [Oper.looksAt, hg, ht])]
      simp only [hy]
  have conv : ∀ (v : Value) (w' : World), (∃ v', K v' w' ∧ a.put o.dst v = a.put o.dst v') → ∃ v', K v' w' ∧ b.put o.dst v = b.put o.dst v' := fun v w' ⟨v', h1, h2⟩ => by
    refine ⟨v', h1, ?_⟩
    cases hdst : o.dst with
    | none => rfl
    | some d =>
      rw [hdst] at h2
      simp only [Act.put, Act.mk.injEq, and_true] at h2 ⊢
      by_cases hlt : d < a.tmps.size
      · have := congrArg (fun (l : Array Value) => l[d]?) h2
        simp only [Array.getElem?_setIfInBounds, if_true, hlt, Option.some.injEq] at this
        rw [this]
      · have hle : b.tmps.size ≤ d := by rw [← hz]; exact Nat.le_of_not_lt hlt
        rw [Array.setIfInBounds_eq_of_size_le hle, Array.setIfInBounds_eq_of_size_le hle]
  unfold wpOp at *
  simp only [ho] at *
  rw [hw] at h
  split
  · rename_i hw'
    simp only [hw', if_true] at h
    rcases h with h | ⟨_, _, _, f⟩
    · refine .inl ?_
      unfold Oper.wp at *
      rw [hx] at h
      generalize (execOp b.eval o).run P w = r at *
      cases r with
      | ok m w' =>
        cases m <;> simp only [Oper.upon] at h ⊢
        case value v => exact conv v w' h
        case skip => exact conv undef w' h
        case defer d =>
          obtain ⟨v', _, h2⟩ := h
          have := congrArg (fun (x : Act) => x.defers.length) h2
          cases hdst : o.dst <;> simp [Act.put, hdst] at this
        case enter f args =>
          refine Calls.mono h fun e w'' he => ?_
          cases e with
          | returned v => exact conv v w'' he
          | panicked c => exact he.elim
          | outgrown => obtain ⟨_, _, f⟩ := he; exact f.elim
        case row row args => exact Rows.mono h fun v w'' he => conv v w'' he
      | halt x w' => cases x <;> simp only [Oper.upon] at h
    · exact f.elim
  · rename_i hw'; simp only [hw'] at h; exact conv undef w h

/-! ### the static look -/
def edgesOf (ops : List Oper) (i : Nat) : List Nat := match ops[i]? with
  | some o => (o.after.toList.filter (Region.binds .any)).map (·.on)
  | none => []
def clo (ops : List Oper) : Nat → Nat → List (List Nat) → List (List Nat)
  | 0, _, acc => acc
  | m + 1, i, acc => clo ops m (i + 1) (acc ++ [((edgesOf ops i) ++ (edgesOf ops i).flatMap (gA [] acc)).foldl (fun l k => bif memB k l then l else k :: l) []])
def ordB (pr : List (List Nat)) (i k : Nat) : Bool := memB k (gA [] pr i) || Nat.beq k i || memB i (gA [] pr k)
def odst (d : Option Nat) (x : Nat) : Bool := match d with | some d => Nat.beq d x | none => false
def nodB : List Nat → Bool
  | [] => true
  | k :: l => !(memB k l) && nodB l
def decB (pr : List (List Nat)) (G u : List Nat) (i : Nat) : Bool := (gA [] pr i).all (fun k => memB k u) && u.all (fun e => !(memB e G) || memB e (gA [] pr i))
def topB (pr : List (List Nat)) (G : List Nat) : List Nat → List Nat → List Ev → Bool
  | _, _, [] => true
  | u, dc, .n i :: is => !(memB i dc) && decB pr G u i && topB pr G (i :: u) dc is
  | u, dc, .d i :: is => memB i G && !(memB i dc) && !(memB i u) && decB pr G u i && topB pr G u (i :: dc) is
  | u, dc, .o i :: is => memB i dc && topB pr G (i :: u) dc is
def allLt : Nat → (Nat → Bool) → Bool
  | 0, _ => true
  | m + 1, p => allLt m p && p m
theorem allLt_iff {m : Nat} {p : Nat → Bool} : allLt m p = true ↔ ∀ k, k < m → p k = true := by
  induction m with
  | zero => simp [allLt]
  | succ m ih =>
    simp only [allLt, Bool.and_eq_true, ih]
    exact ⟨fun h k hk => by rcases Nat.lt_succ_iff_lt_or_eq.1 hk with e | e; exact h.1 k e; subst e; exact h.2, fun h => ⟨fun k hk => h k (by omega), h m (by omega)⟩⟩
def opB (n : Nat) (ops : List Oper) (D : Dt) (pr : List (List Nat)) (i : Nat) : Bool := match ops[i]? with
  | none => false
  | some o => (match o.dst with | some d => Nat.blt d n | none => true) && (match o.op with | .select .. => false | _ => true) &&
    (gA [] pr i).all (fun k => memB k (edgesOf ops i) || (edgesOf ops i).any fun j => memB k (gA [] pr j)) && (edgesOf ops i).all (fun k => Nat.blt k i) &&
    (o.looksAt ops.toArray).all (fun x => allLt ops.length fun k => !(odst (dsO ops k) x) || ordB pr i k) &&
    (gA [] D.T i).all (fun x => allLt ops.length fun k => !(memB x (gA [] D.I k)) || ordB pr i k) &&
    allLt ops.length (fun k => ordB pr i k || ((match dsO ops i with | some d => !(odst (dsO ops k) d) | none => true) && (gA [] D.I i).all fun x => !(memB x (gA [] D.I k))))
def dchk (n : Nat) (ops : List Oper) (es : List Ev) (D : Dt) (pr : List (List Nat)) : Bool :=
  allLt ops.length (fun i => memB i (con es)) && nodB (con es) && (con es).all (fun i => Nat.blt i ops.length) && topB pr D.G [] [] es && allLt ops.length (opB n ops D pr)

theorem nodB_iff {l : List Nat} (h : nodB l = true) : l.Nodup := by
  induction l with
  | nil => simp
  | cons k l ih =>
    simp only [nodB, Bool.and_eq_true, Bool.not_eq_true', ← Bool.not_eq_true, memB_iff] at h
    exact List.nodup_cons.2 ⟨h.1, ih h.2⟩
theorem decB_iff {pr : List (List Nat)} {G u : List Nat} {i : Nat} (h : decB pr G u i = true) : (∀ k ∈ gA [] pr i, k ∈ u) ∧ ∀ e ∈ u, memB e G = true → e ∈ gA [] pr i := by
  simp only [decB, Bool.and_eq_true, List.all_eq_true, memB_iff, Bool.or_eq_true, Bool.not_eq_true'] at h
  exact ⟨h.1, fun e he hg => (h.2 e he).resolve_left (by simp [hg])⟩
/-- at each place: what stands ahead -/
theorem topB_iff {pr : List (List Nat)} {G : List Nat} : ∀ {es : List Ev} {u dc : List Nat}, topB pr G u dc es = true → ∀ p ev q, es = p ++ ev :: q → match ev with
    | .n i => (i ∉ dc ∧ .d i ∉ p) ∧ (∀ k ∈ gA [] pr i, k ∈ u ∨ k ∈ con p) ∧ ∀ e, e ∈ u ∨ e ∈ con p → memB e G = true → e ∈ gA [] pr i
    | .d i => (memB i G = true ∧ (i ∉ dc ∧ .d i ∉ p) ∧ i ∉ u ∧ i ∉ con p) ∧ (∀ k ∈ gA [] pr i, k ∈ u ∨ k ∈ con p) ∧ ∀ e, e ∈ u ∨ e ∈ con p → memB e G = true → e ∈ gA [] pr i
    | .o i => i ∈ dc ∨ .d i ∈ p
  | [], _, _, _, p, ev, q, e => by cases p <;> cases e
  | e0 :: es, u, dc, h, [], ev, q, e => by
    simp only [List.nil_append, List.cons.injEq] at e
    obtain ⟨rfl, rfl⟩ := e
    cases e0 with
    | n i =>
      simp only [topB, Bool.and_eq_true, Bool.not_eq_true', ← Bool.not_eq_true, memB_iff] at h
      have k := decB_iff h.1.2
      exact ⟨⟨h.1.1, by simp⟩, fun x hx => .inl (k.1 x hx), fun x hx => k.2 x (hx.resolve_right (by simp [con]))⟩
    | d i =>
      simp only [topB, Bool.and_eq_true, Bool.not_eq_true', ← Bool.not_eq_true, memB_iff] at h
      have k := decB_iff h.1.2
      exact ⟨⟨memB_iff.2 h.1.1.1.1, ⟨h.1.1.1.2, by simp⟩, h.1.1.2, by simp [con]⟩, fun x hx => .inl (k.1 x hx), fun x hx => k.2 x (hx.resolve_right (by simp [con]))⟩
    | o i =>
      simp only [topB, Bool.and_eq_true, memB_iff] at h
      exact .inl h.1
  | e0 :: es, u, dc, h, p0 :: p, ev, q, e => by
    simp only [List.cons_append, List.cons.injEq] at e
    obtain ⟨rfl, rfl⟩ := e
    cases e0 with
    | n j =>
      simp only [topB, Bool.and_eq_true] at h
      have k := topB_iff h.2 p ev q rfl
      cases ev with
      | n i => exact ⟨⟨k.1.1, by simp [k.1.2]⟩, fun x hx => by rcases k.2.1 x hx with e | e; rcases List.mem_cons.1 e with e | e; exact .inr (by simp [con, e]); exact .inl e; exact .inr (by simp [con, e]), fun x hx => k.2.2 x (by rcases hx with e | e; exact .inl (by simp [e]); rcases List.mem_cons.1 e with e | e; exact .inl (by simp [e]); exact .inr e)⟩
      | d i => exact ⟨⟨k.1.1, ⟨k.1.2.1.1, by simp [k.1.2.1.2]⟩, fun e => k.1.2.2.1 (by simp [e]), fun e => by rcases List.mem_cons.1 e with e | e; exact k.1.2.2.1 (by simp [e]); exact k.1.2.2.2 e⟩, fun x hx => by rcases k.2.1 x hx with e | e; rcases List.mem_cons.1 e with e | e; exact .inr (by simp [con, e]); exact .inl e; exact .inr (by simp [con, e]), fun x hx => k.2.2 x (by rcases hx with e | e; exact .inl (by simp [e]); rcases List.mem_cons.1 e with e | e; exact .inl (by simp [e]); exact .inr e)⟩
      | o i => exact k.imp id fun e => by simp [e]
    | o j =>
      simp only [topB, Bool.and_eq_true] at h
      have k := topB_iff h.2 p ev q rfl
      cases ev with
      | n i => exact ⟨⟨k.1.1, by simp [k.1.2]⟩, fun x hx => by rcases k.2.1 x hx with e | e; rcases List.mem_cons.1 e with e | e; exact .inr (by simp [con, e]); exact .inl e; exact .inr (by simp [con, e]), fun x hx => k.2.2 x (by rcases hx with e | e; exact .inl (by simp [e]); rcases List.mem_cons.1 e with e | e; exact .inl (by simp [e]); exact .inr e)⟩
      | d i => exact ⟨⟨k.1.1, ⟨k.1.2.1.1, by simp [k.1.2.1.2]⟩, fun e => k.1.2.2.1 (by simp [e]), fun e => by rcases List.mem_cons.1 e with e | e; exact k.1.2.2.1 (by simp [e]); exact k.1.2.2.2 e⟩, fun x hx => by rcases k.2.1 x hx with e | e; rcases List.mem_cons.1 e with e | e; exact .inr (by simp [con, e]); exact .inl e; exact .inr (by simp [con, e]), fun x hx => k.2.2 x (by rcases hx with e | e; exact .inl (by simp [e]); rcases List.mem_cons.1 e with e | e; exact .inl (by simp [e]); exact .inr e)⟩
      | o i => exact k.imp id fun e => by simp [e]
    | d j =>
      simp only [topB, Bool.and_eq_true] at h
      have k := topB_iff h.2 p ev q rfl
      cases ev with
      | n i => exact ⟨⟨fun e => k.1.1 (by simp [e]), fun e => by rcases List.mem_cons.1 e with e | e; exact k.1.1 (by cases e; simp); exact k.1.2 e⟩, k.2⟩
      | d i => exact ⟨⟨k.1.1, ⟨fun e => k.1.2.1.1 (by simp [e]), fun e => by rcases List.mem_cons.1 e with e | e; exact k.1.2.1.1 (by cases e; simp); exact k.1.2.1.2 e⟩, k.1.2.2⟩, k.2⟩
      | o i => rcases k with e | e; rcases List.mem_cons.1 e with e | e; exact .inr (by simp [e]); exact .inl e; exact .inr (by simp [e])
/-- the forerunners of what stands ahead stand ahead -/
theorem topB_pre {pr : List (List Nat)} {G : List Nat} : ∀ {es : List Ev} {u dc : List Nat}, topB pr G u dc es = true → (∀ k ∈ dc, ∀ j ∈ gA [] pr k, j ∈ u) → ∀ p q, es = p ++ q → ∀ k ∈ con p, ∀ j ∈ gA [] pr k, j ∈ u ∨ j ∈ con p
  | _, _, _, _, _, [], q, _, k, hk, _, _ => by cases hk
  | [], _, _, _, _, e0 :: p, q, e, _, _, _, _ => by cases e
  | e0 :: es, u, dc, h, hd, e1 :: p, q, e, k, hk, j, hj => by
    simp only [List.cons_append, List.cons.injEq] at e
    obtain ⟨rfl, rfl⟩ := e
    cases e0 with
    | n i =>
      simp only [topB, Bool.and_eq_true] at h
      rcases List.mem_cons.1 hk with e | e
      · subst e; exact .inl ((decB_iff h.1.2).1 j hj)
      · rcases topB_pre h.2 (fun k hk j hj => by simp [hd k hk j hj]) p q rfl k e j hj with e | e
        · rcases List.mem_cons.1 e with e | e
          · exact .inr (by simp [con, e])
          · exact .inl e
        · exact .inr (by simp [con, e])
    | d i =>
      simp only [topB, Bool.and_eq_true] at h
      exact topB_pre h.2 (fun k hk j hj => by rcases List.mem_cons.1 hk with e | e; subst e; exact (decB_iff h.1.2).1 j hj; exact hd k e j hj) p q rfl k hk j hj
    | o i =>
      simp only [topB, Bool.and_eq_true, memB_iff] at h
      rcases List.mem_cons.1 hk with e | e
      · subst e; exact .inl (hd k h.1 j hj)
      · rcases topB_pre h.2 (fun k hk j hj => by simp [hd k hk j hj]) p q rfl k e j hj with e | e
        · rcases List.mem_cons.1 e with e | e
          · exact .inr (by simp [con, e])
          · exact .inl e
        · exact .inr (by simp [con, e])

/-! ### every order -/
def gs (ops : List Oper) (g : Nat → Value × Hp) (i : Nat) : Slots := cs (dsO ops i) (g i).1
def gh (g : Nat → Value × Hp) (i : Nat) : Hp := (g i).2

theorem aL_gs {g g' : Nat → Value × Hp} {l : List Nat} {s : Slots} (h : ∀ k ∈ l, g' k = g k) : aL (gs ops g') l s = aL (gs ops g) l s := aL_congr fun k hk => by unfold gs; rw [h k hk]
theorem aL_gh {g g' : Nat → Value × Hp} {l : List Nat} {s : Hp} (h : ∀ k ∈ l, g' k = g k) : aL (gh g') l s = aL (gh g) l s := aL_congr fun k hk => by unfold gh; rw [h k hk]

/-- what is known of the operations that the telescope has met; Dn: those that have been done -/
structure Met (P : Program) (n : Nat) (w0 : World) (M : List Nat) (ops : List Oper) (D : Dt) (s0 : Slots) (h0 : Hp) (Dn : Nat → Bool) (g : Nat → Value × Hp) (pd : Pd) (l : List Ev) : Prop where
  key : ∀ k ∈ con l, kys (g k).2 (gA [] D.I k) = true
  fact : ∀ u i v, l = u ++ .n i :: v → memB i D.G = false → LocR P n w0 M ops i (aL (gs ops g) (con u) s0) (hsel (aL (gh g) (con u) h0) (gA [] D.T i)) (eqΨ (dsO ops i) (g i).1 (g i).2)
  dec : ∀ u i v, l = u ++ .d i :: v → ∃ Ψ, aget pd i = some Ψ ∧ LocR P n w0 M ops i (aL (gs ops g) (con u) s0) (hsel (aL (gh g) (con u) h0) (gA [] D.T i)) Ψ ∧ (∀ v U, Ψ v U → kys U (gA [] D.I i) = true) ∧ (Dn i = true → Ψ (g i).1 (g i).2)
theorem snoc_split {α : Type} {l u v : List α} {a b : α} (e : l ++ [a] = u ++ b :: v) : (v = [] ∧ l = u ∧ a = b) ∨ ∃ v', v = v' ++ [a] ∧ l = u ++ b :: v' := by
  rcases List.eq_nil_or_concat v with rfl | ⟨v', z, rfl⟩
  · have := List.append_inj' (t₁ := [a]) (t₂ := [b]) (s₁ := l) (s₂ := u) e rfl
    exact .inl ⟨rfl, this.1, by simpa using this.2⟩
  · rw [List.concat_eq_append, show u ++ b :: (v' ++ [z]) = (u ++ b :: v') ++ [z] by simp] at e
    obtain ⟨e1, e2⟩ := List.append_inj' e rfl
    simp only [List.cons.injEq, and_true] at e2
    subst e2
    exact .inr ⟨v', by simp, e1⟩
/-- the same under other bringings of what has not been met -/
theorem Met.re {D : Dt} {s0 : Slots} {h0 : Hp} {Dn Dn' : Nat → Bool} {g g' : Nat → Value × Hp} {pd : Pd} {l : List Ev} (h : Met P n w0 M ops D s0 h0 Dn g pd l) (hg : ∀ k ∈ con l, g' k = g k)
    (hd : ∀ u i v Ψ, l = u ++ .d i :: v → aget pd i = some Ψ → (Dn i = true → Ψ (g i).1 (g i).2) → Dn' i = true → Ψ (g' i).1 (g' i).2) : Met P n w0 M ops D s0 h0 Dn' g' pd l := by
  refine ⟨fun k hm => by rw [hg k hm]; exact h.key k hm, fun u j v e hG => ?_, fun u j v e => ?_⟩
  · have hu : ∀ k ∈ con u, g' k = g k := fun k hk => hg k (by rw [e, con_app]; simp [hk])
    rw [aL_gs hu, aL_gh hu, hg j (by rw [e, con_app]; simp [con])]
    exact h.fact u j v e hG
  · have hu : ∀ k ∈ con u, g' k = g k := fun k hk => hg k (by rw [e, con_app]; simp [hk])
    obtain ⟨Ψ, h1, h2, h3, h4⟩ := h.dec u j v e
    rw [aL_gs hu, aL_gh hu]
    exact ⟨Ψ, h1, h2, h3, hd u j v Ψ e h1 h4⟩
theorem Met.addN {D : Dt} {s0 : Slots} {h0 : Hp} {Dn : Nat → Bool} {g : Nat → Value × Hp} {pd : Pd} {l : List Ev} {i : Nat} (h : Met P n w0 M ops D s0 h0 Dn g pd l) (hk : kys (g i).2 (gA [] D.I i) = true)
    (hf : memB i D.G = false → LocR P n w0 M ops i (aL (gs ops g) (con l) s0) (hsel (aL (gh g) (con l) h0) (gA [] D.T i)) (eqΨ (dsO ops i) (g i).1 (g i).2)) : Met P n w0 M ops D s0 h0 Dn g pd (l ++ [.n i]) := by
  refine ⟨fun k hm => ?_, fun u j v e hG => ?_, fun u j v e => ?_⟩
  · rw [con_app] at hm
    rcases List.mem_append.1 hm with hm | hm
    · exact h.key k hm
    · simp only [con, List.mem_singleton] at hm; subst hm; exact hk
  · rcases snoc_split e with ⟨_, rfl, e2⟩ | ⟨v', _, e1⟩
    · cases e2; exact hf hG
    · exact h.fact u j v' e1 hG
  · rcases snoc_split e with ⟨_, _, e2⟩ | ⟨v', _, e1⟩
    · cases e2
    · exact h.dec u j v' e1
theorem Met.addO {D : Dt} {s0 : Slots} {h0 : Hp} {Dn : Nat → Bool} {g : Nat → Value × Hp} {pd : Pd} {l : List Ev} {i : Nat} (h : Met P n w0 M ops D s0 h0 Dn g pd l) (hk : kys (g i).2 (gA [] D.I i) = true) : Met P n w0 M ops D s0 h0 Dn g pd (l ++ [.o i]) := by
  refine ⟨fun k hm => ?_, fun u j v e hG => ?_, fun u j v e => ?_⟩
  · rw [con_app] at hm
    rcases List.mem_append.1 hm with hm | hm
    · exact h.key k hm
    · simp only [con, List.mem_singleton] at hm; subst hm; exact hk
  · rcases snoc_split e with ⟨_, _, e2⟩ | ⟨v', _, e1⟩
    · cases e2
    · exact h.fact u j v' e1 hG
  · rcases snoc_split e with ⟨_, _, e2⟩ | ⟨v', _, e1⟩
    · cases e2
    · exact h.dec u j v' e1
theorem Met.addD {D : Dt} {s0 : Slots} {h0 : Hp} {Dn : Nat → Bool} {g : Nat → Value × Hp} {pd : Pd} {l : List Ev} {i : Nat} {Ψ : Value → Hp → Prop} (h : Met P n w0 M ops D s0 h0 Dn g pd l) (hi : .d i ∉ l) (hn : Dn i = false)
    (hL : LocR P n w0 M ops i (aL (gs ops g) (con l) s0) (hsel (aL (gh g) (con l) h0) (gA [] D.T i)) Ψ) (hk : ∀ v U, Ψ v U → kys U (gA [] D.I i) = true) : Met P n w0 M ops D s0 h0 Dn g ((i, Ψ) :: pd) (l ++ [.d i]) := by
  refine ⟨fun k hm => h.key k (by simpa [con_app, con] using hm), fun u j v e hG => ?_, fun u j v e => ?_⟩
  · rcases snoc_split e with ⟨_, _, e2⟩ | ⟨v', _, e1⟩
    · cases e2
    · exact h.fact u j v' e1 hG
  · rcases snoc_split e with ⟨_, rfl, e2⟩ | ⟨v', _, e1⟩
    · cases e2
      exact ⟨Ψ, aget_cons_eq _ _ _, hL, hk, fun h => by rw [hn] at h; cases h⟩
    · obtain ⟨Ψ', h1, h2⟩ := h.dec u j v' e1
      exact ⟨Ψ', by rw [aget_cons_ne _ _ (fun e => hi (by rw [e, e1]; simp))]; exact h1, h2⟩

/-- where the telescope has to wait -/
def Blk (G : List Nat) (Dn : Nat → Bool) : Ev → Prop
  | .n e => memB e G = true
  | .d _ => False
  | .o e => Dn e = false
/-- what is known, or has been done, is gone through -/
theorem advance {D : Dt} {E : Slots → Hp → Prop} {s0 : Slots} {h0 : Hp} {pr : List (List Nat)} {es0 : List Ev} (hnod : (con es0).Nodup) (htop : topB pr D.G [] [] es0 = true) (Dn : Nat → Bool) : ∀ (l2 l1 : List Ev) (g : Nat → Value × Hp) (pd : Pd), es0 = l1 ++ l2 → Met P n w0 M ops D s0 h0 Dn g pd l1 →
    (∀ k, Dn k = true → k ∈ con l1 ∨ .d k ∈ l1) → DW P n w0 M ops D E l2 pd (aL (gs ops g) (con l1) s0) (aL (gh g) (con l1) h0) →
    ∃ m l2' g' pd', l2 = m ++ l2' ∧ (∀ k, k ∈ con l1 ∨ Dn k = true → g' k = g k) ∧ (∀ k ∈ con m, memB k D.G = true → Dn k = true) ∧ Met P n w0 M ops D s0 h0 Dn g' pd' (l1 ++ m) ∧ DW P n w0 M ops D E l2' pd' (aL (gs ops g') (con (l1 ++ m)) s0) (aL (gh g') (con (l1 ++ m)) h0) ∧
      ∀ ev t, l2' = ev :: t → Blk D.G Dn ev
  | [], l1, g, pd, _, hM, _, hD => ⟨[], [], g, pd, rfl, fun _ _ => rfl, fun _ h => (by cases h), by simpa using hM, by simpa using hD, fun _ _ h => (by cases h)⟩
  | ev :: l2, l1, g, pd, hes, hM, hDn, hD => by
    have hst := topB_iff htop l1 ev l2 hes
    have hstop : Blk D.G Dn ev → ∃ m l2' g' pd', ev :: l2 = m ++ l2' ∧ (∀ k, k ∈ con l1 ∨ Dn k = true → g' k = g k) ∧ (∀ k ∈ con m, memB k D.G = true → Dn k = true) ∧ Met P n w0 M ops D s0 h0 Dn g' pd' (l1 ++ m) ∧ DW P n w0 M ops D E l2' pd' (aL (gs ops g') (con (l1 ++ m)) s0) (aL (gh g') (con (l1 ++ m)) h0) ∧
      ∀ ev t, l2' = ev :: t → Blk D.G Dn ev := fun hb => ⟨[], ev :: l2, g, pd, rfl, fun _ _ => rfl, fun _ h => (by cases h), by simpa using hM, by simpa using hD, fun e t h => by
        simp only [List.cons.injEq] at h; rw [← h.1]; exact hb⟩
    have hcn : ∀ i, i ∈ con [ev] → i ∉ con l1 := fun i hi hm => by
      rw [hes, con_app, show con (ev :: l2) = con [ev] ++ con l2 by rw [← con_app]; rfl] at hnod
      exact (List.nodup_append.1 hnod).2.2 i hm i (by simp [hi]) rfl
    cases ev with
    | n i =>
      cases hG : memB i D.G with
      | true => exact hstop hG
      | false =>
        unfold DW at hD
        simp only [hG, cond_false] at hD
        obtain ⟨v, U, hL, hky, hD⟩ := hD
        have hi : i ∉ con l1 := hcn i (by simp [con])
        have hid : Dn i = false := by
          cases e : Dn i with
          | false => rfl
          | true =>
            rcases hDn i e with h | h
            · exact absurd h hi
            · exact absurd h hst.1.2
        let g1 : Nat → Value × Hp := fun k => if k = i then (v, U) else g k
        have hne : ∀ k, k ≠ i → g1 k = g k := fun k hk => by simp only [g1]; rw [if_neg hk]
        have hg1 : ∀ k ∈ con l1, g1 k = g k := fun k hk => hne k (fun e => hi (by rw [← e]; exact hk))
        have hgi : g1 i = (v, U) := by simp [g1]
        have hM1 : Met P n w0 M ops D s0 h0 Dn g1 pd (l1 ++ [.n i]) := (hM.re hg1 (fun u j v' Ψ e h1 h2 hd => by
          rw [hne j (fun e => by subst e; rw [hid] at hd; cases hd)]; exact h2 hd)).addN (by rw [hgi]; exact hky) (fun _ => by rw [hgi, aL_gs hg1, aL_gh hg1]; exact hL)
        have hD1 : DW P n w0 M ops D E l2 pd (aL (gs ops g1) (con (l1 ++ [.n i])) s0) (aL (gh g1) (con (l1 ++ [.n i])) h0) := by
          rw [con_app, aL_app, aL_app, aL_gs hg1, aL_gh hg1]
          simp only [con, aL, gs, gh, hgi]
          exact hD
        obtain ⟨m, l2', g', pd', e1, e2, e3, e4, e5, e6⟩ := advance hnod htop Dn l2 (l1 ++ [.n i]) g1 pd (by rw [hes]; simp) hM1 (fun k hk => (hDn k hk).imp (fun h => by simp [con_app, h]) (fun h => by simp [h])) hD1
        refine ⟨.n i :: m, l2', g', pd', by rw [e1]; rfl, fun k hk => ?_, fun k hk hg => ?_, by simpa using e4, by simpa using e5, e6⟩
        · rw [e2 k (hk.imp (fun h => by simp [con_app, h]) (fun h => h))]
          exact hne k (fun e => by subst e; rcases hk with h | h; exact hi h; rw [hid] at h; cases h)
        · rcases List.mem_cons.1 hk with e | e
          · subst e; rw [hG] at hg; cases hg
          · exact e3 k e hg
    | d i =>
      unfold DW at hD
      obtain ⟨Ψ, hL, hk, hD⟩ := hD
      have hid : Dn i = false := by
        cases e : Dn i with
        | false => rfl
        | true =>
          rcases hDn i e with h | h
          · exact absurd h hst.1.2.2.2
          · exact absurd h hst.1.2.1.2
      have hc : con (l1 ++ [.d i]) = con l1 := by simp [con_app, con]
      obtain ⟨m, l2', g', pd', e1, e2, e3, e4, e5, e6⟩ := advance hnod htop Dn l2 (l1 ++ [.d i]) g ((i, Ψ) :: pd) (by rw [hes]; simp) (hM.addD hst.1.2.1.2 hid hL hk) (fun k hk => (hDn k hk).imp (fun h => by simp [con_app, h]) (fun h => by simp [h])) (by rw [hc]; exact hD)
      exact ⟨.d i :: m, l2', g', pd', by rw [e1]; rfl, fun k hk => e2 k (by rw [hc]; exact hk), e3, by simpa using e4, by simpa using e5, e6⟩
    | o i =>
      cases hid : Dn i with
      | false => exact hstop hid
      | true =>
        unfold DW at hD
        obtain ⟨Ψ, hp, hD⟩ := hD
        obtain ⟨p, q, hpq⟩ := List.append_of_mem (hst.resolve_left (by simp))
        obtain ⟨Ψ', h1, _, h3, h4⟩ := hM.dec p i q hpq
        rw [hp] at h1
        obtain rfl := Option.some.inj h1
        have hΨ := h4 hid
        have hD1 : DW P n w0 M ops D E l2 pd (aL (gs ops g) (con (l1 ++ [.o i])) s0) (aL (gh g) (con (l1 ++ [.o i])) h0) := by
          rw [con_app, aL_app, aL_app]
          exact hD _ _ hΨ
        obtain ⟨m, l2', g', pd', e1, e2, e3, e4, e5, e6⟩ := advance hnod htop Dn l2 (l1 ++ [.o i]) g pd (by rw [hes]; simp) (hM.addO (h3 _ _ hΨ)) (fun k hk => (hDn k hk).imp (fun h => by simp [con_app, h]) (fun h => by simp [h])) hD1
        refine ⟨.o i :: m, l2', g', pd', by rw [e1]; rfl, fun k hk => e2 k (hk.imp (fun h => by simp [con_app, h]) (fun h => h)), fun k hk hg => ?_, by simpa using e4, by simpa using e5, e6⟩
        rcases List.mem_cons.1 hk with e | e
        · subst e; exact hid
        · exact e3 k e hg

theorem cs_get {d : Option Nat} {v u : Value} {x : Nat} (h : aget (cs d v) x = some u) : d = some x := by
  cases d with
  | none => cases h
  | some d =>
    simp only [cs] at h
    rw [aget_cons] at h
    split at h
    · rename_i e; rw [e]
    · cases h
theorem odst_iff {d : Option Nat} {x : Nat} (h : d = some x) : odst d x = true := by subst h; simp [odst]
theorem Has.puts {n : Nat} {a : Act} {s : Slots} (h : Has n a s) {d : Option Nat} (hd : ∀ x, d = some x → Nat.blt x n = true) (v : Value) : Has n (a.put d v) (cs d v ++ s) := by
  cases d with
  | none => exact h
  | some d => exact h.put (hd d rfl) v

theorem pre_split {α : Type} {p p' q q' : List α} {i : α} (e : p ++ i :: q = p' ++ q') (h : i ∉ p') : ∃ c, p = p' ++ c := by
  rcases List.append_eq_append_iff.1 e with ⟨c, h1, h2⟩ | ⟨c, h1, h2⟩
  · cases c with
    | nil => exact ⟨[], by simpa using h1.symm⟩
    | cons z c => simp only [List.cons_append, List.cons.injEq] at h2; exact absurd (by rw [h1, ← h2.1]; simp) h
  · exact ⟨c, h1⟩
theorem rdt' {id : Nat} {Q : Exit → Act → World → Prop} {s0 : Slots} {h0 : Hp} (hm : P.follows .mixedOrders = true) (es : List Ev) (D : Dt) (pr : List (List Nat))
    (hD : DW P n w0 M ops D (fun s h => KW n w0 M Q .normal s h) es [] s0 h0) (hchk : dchk n ops es D pr = true) : CW P n w0 M (.region id ops.toArray true) Q s0 h0 := by
  simp only [dchk, Bool.and_eq_true, allLt_iff, List.all_eq_true] at hchk
  obtain ⟨⟨⟨⟨hall0, hnod0⟩, hlt0⟩, htop⟩, hop0⟩ := hchk
  have hall : ∀ i, i < ops.length → i ∈ con es := fun i hi => memB_iff.1 (hall0 i hi)
  have hnod := nodB_iff hnod0
  have hlt : ∀ i ∈ con es, i < ops.length := fun i hi => lt_of_blt (hlt0 i hi)
  have hop : ∀ i, i < ops.length → ∃ o, ops[i]? = some o ∧ dsO ops i = o.dst ∧ (∀ x, o.dst = some x → Nat.blt x n = true) ∧ (match o.op with | .select .. => false | _ => true) = true ∧
      (∀ k ∈ gA [] pr i, k ∈ edgesOf ops i ∨ ∃ j ∈ edgesOf ops i, k ∈ gA [] pr j) ∧ (∀ k ∈ edgesOf ops i, k < i) ∧
      (∀ x ∈ o.looksAt ops.toArray, ∀ k, k < ops.length → dsO ops k = some x → ordB pr i k = true) ∧ (∀ x ∈ gA [] D.T i, ∀ k, k < ops.length → x ∈ gA [] D.I k → ordB pr i k = true) ∧
      ∀ k, k < ops.length → ordB pr i k = true ∨ ((∀ d, dsO ops i = some d → dsO ops k ≠ some d) ∧ ∀ x ∈ gA [] D.I i, x ∉ gA [] D.I k) := fun i hi => by
    have h := hop0 i hi
    unfold opB at h
    cases ho : ops[i]? with
    | none => rw [ho] at h; cases h
    | some o =>
      rw [ho] at h
      simp only [Bool.and_eq_true, allLt_iff, List.all_eq_true, Bool.or_eq_true, Bool.not_eq_true', List.any_eq_true, memB_iff] at h
      obtain ⟨⟨⟨⟨⟨⟨h1, h2⟩, h3⟩, h4⟩, h5⟩, h6⟩, h7⟩ := h
      refine ⟨o, rfl, by simp [dsO, ho], fun x hx => by rw [hx] at h1; exact h1, h2, h3, fun k hk => lt_of_blt (h4 k hk), fun x hx k hk hd => (h5 x hx k hk).resolve_left (by rw [odst_iff hd]; simp), fun x hx k hk hd => (h6 x hx k hk).resolve_left (by rw [memB_iff.2 hd]; simp), fun k hk => ?_⟩
      rcases h7 k hk with e | ⟨e1, e2⟩
      · exact .inl e
      · refine .inr ⟨fun d hd hd' => ?_, fun x hx hx' => ?_⟩
        · rw [hd] at e1
          simp only [odst_iff hd', Bool.not_true] at e1
          cases e1
        · have := e2 x hx
          rw [memB_iff.2 hx'] at this
          cases this
  clear hop0 hall0 hlt0 hnod0
  have hord : ∀ {i k}, ordB pr i k = true → k ∈ gA [] pr i ∨ k = i ∨ i ∈ gA [] pr k := fun {i k} h => by
    simp only [ordB, Bool.or_eq_true, memB_iff] at h
    rcases h with (e | e) | e
    · exact .inl e
    · exact .inr (.inl (Nat.eq_of_beq_eq_true e))
    · exact .inr (.inr e)
  intro a w ha hw
  have hs0 : ∀ x v, aget s0 x = some v → x < n := fun x v h => by
    have := (Array.getElem?_eq_some_iff.1 (ha.val x v h)).1
    rw [ha.size] at this
    exact this
  refine wp_region_any hm ?_
  have main : ∀ (fuel : Nat) (listed : Array Bool) (g : Nat → Value × Hp) (pd : Pd) (l1 l2 : List Ev) (a : Act) (w : World), listed.size = ops.length → (List.range ops.length).countP (fun k => !listed.getD k false) ≤ fuel →
      (∀ k, k < ops.length → listed.getD k false = true → ∀ j ∈ gA [] pr k, listed.getD j false = true) → es = l1 ++ l2 → Met P n w0 M ops D s0 h0 (fun k => listed.getD k false) g pd l1 → DW P n w0 M ops D (fun s h => KW n w0 M Q .normal s h) l2 pd (aL (gs ops g) (con l1) s0) (aL (gh g) (con l1) h0) →
      (∀ ev t, l2 = ev :: t → Blk D.G (fun k => listed.getD k false) ev) → (∀ k ∈ con l1, memB k D.G = true → listed.getD k false = true) → (∀ k, listed.getD k false = true → k ∈ con l1 ∨ .d k ∈ l1) →
      Has n a (aL (gs ops g) ((con es).filter fun k => listed.getD k false) s0) → Sat w0 M w (aL (gh g) ((con es).filter fun k => listed.getD k false) h0) → wpAny P .any ops.toArray Q fuel listed a w := by
    have hgetD : ∀ (listed : Array Bool), listed.size = ops.length → ∀ k, k < ops.length → listed.getD k true = listed.getD k false := fun listed hs k hk => by
      simp [hs, hk]
    have hready : ∀ (listed : Array Bool) (i : Nat), listed.size = ops.length → i < ops.length → listed.getD i false = false → (∀ k ∈ edgesOf ops i, listed.getD k false = true) → i ∈ Region.ready .any ops.toArray listed := fun listed i hs hi h1 h2 => by
      rw [mem_ready]
      refine ⟨by rw [hgetD listed hs i hi]; exact h1, ?_⟩
      obtain ⟨o, ho, _⟩ := hop i hi
      refine ⟨o, by simpa using ho, fun e he hb => h2 e.on ?_⟩
      unfold edgesOf
      rw [ho]
      exact List.mem_map.2 ⟨e, List.mem_filter.2 ⟨by simpa using he, hb⟩, rfl⟩
    have hback : ∀ i, i < ops.length → ∀ k ∈ edgesOf ops i, k < i := fun i hi => by obtain ⟨o, _, _, _, _, _, h, _⟩ := hop i hi; exact h
    have hdoneall : ∀ (listed : Array Bool), listed.size = ops.length → Region.ready .any ops.toArray listed = [] → ∀ k, k < ops.length → listed.getD k false = true := fun listed hs hr k => by
      induction k using Nat.strongRecOn with
      | _ k ih =>
        intro hk
        cases hd : listed.getD k false with
        | true => rfl
        | false =>
          have := hready listed k hs hk hd (fun j hj => ih j (hback k hk j hj) (by have := hback k hk j hj; omega))
          rw [hr] at this
          cases this
    have hdone : ∀ (listed : Array Bool) (g : Nat → Value × Hp) (pd : Pd) (l1 l2 : List Ev) (a : Act) (w : World), listed.size = ops.length → es = l1 ++ l2 → DW P n w0 M ops D (fun s h => KW n w0 M Q .normal s h) l2 pd (aL (gs ops g) (con l1) s0) (aL (gh g) (con l1) h0) →
        (∀ ev t, l2 = ev :: t → Blk D.G (fun k => listed.getD k false) ev) → (∀ k, listed.getD k false = true → k ∈ con l1 ∨ .d k ∈ l1) →
        Has n a (aL (gs ops g) ((con es).filter fun k => listed.getD k false) s0) → Sat w0 M w (aL (gh g) ((con es).filter fun k => listed.getD k false) h0) → Region.ready .any ops.toArray listed = [] → Q .normal a w := fun listed g pd l1 l2 a w hs his hDW hhd hin ha hw hr => by
      have hk := hdoneall listed hs hr
      have hl2 : l2 = [] := by
        cases l2 with
        | nil => rfl
        | cons ev t =>
          exfalso
          have hb := hhd ev t rfl
          have hst := topB_iff htop l1 ev t his
          cases ev with
          | n e =>
            have hem : e ∈ con es := by rw [his, con_app]; simp [con]
            rcases hin e (hk e (hlt e hem)) with h | h
            · rw [his, con_app] at hnod
              exact (List.nodup_append.1 hnod).2.2 e h e (by simp [con]) rfl
            · exact hst.1.2 h
          | d e => exact hb
          | o e =>
            have hem : e ∈ con es := by rw [his, con_app]; simp [con]
            have h1 := hk e (hlt e hem)
            have h2 : listed.getD e false = false := hb
            rw [h1] at h2
            cases h2
      subst hl2
      have hf : ((con es).filter fun k => listed.getD k false) = con es := List.filter_eq_self.2 fun k hk' => hk k (hlt k hk')
      rw [hf] at ha hw
      simp only [List.append_nil] at his
      rw [his] at ha hw
      unfold DW at hDW
      exact hDW a w ha hw
    intro fuel
    induction fuel with
    | zero =>
      intro listed g pd l1 l2 a w hs hcnt hcl his hM hDW hhd hgh hin ha hw
      have hk : ∀ k, k < ops.length → listed.getD k false = true := fun k hk => by
        have := List.countP_eq_zero.1 (Nat.le_zero.1 hcnt) k (List.mem_range.2 hk)
        simpa using this
      have hr : Region.ready .any ops.toArray listed = [] := by
        apply List.eq_nil_iff_forall_not_mem.2
        intro i hi
        rw [mem_ready] at hi
        obtain ⟨h1, o, ho, _⟩ := hi
        have hi' : i < ops.length := by
          have := (Array.getElem?_eq_some_iff.1 ho).1
          simpa using this
        rw [hgetD listed hs i hi', hk i hi'] at h1
        cases h1
      exact ⟨hr, hdone listed g pd l1 l2 a w hs his hDW hhd hin ha hw hr⟩
    | succ fuel ih =>
      intro listed g pd l1 l2 a w hs hcnt hcl his hM hDW hhd hgh hin ha hw
      refine ⟨fun hr => hdone listed g pd l1 l2 a w hs his hDW hhd hin ha hw hr, fun i hi => ?_⟩
      rw [mem_ready] at hi
      obtain ⟨h1, o', ho', he⟩ := hi
      have hi' : i < ops.length := by
        have := (Array.getElem?_eq_some_iff.1 ho').1
        simpa using this
      rw [hgetD listed hs i hi'] at h1
      obtain ⟨o, ho, hdst, hbd, hsel', hpre, hbk, hlook, hT, hww⟩ := hop i hi'
      obtain rfl : o' = o := by
        have e : ops[i]? = some o' := by simpa using ho'
        rw [ho] at e
        exact (Option.some.inj e).symm
      have hedge : ∀ k ∈ edgesOf ops i, listed.getD k false = true := fun k hk => by
        unfold edgesOf at hk
        rw [ho] at hk
        obtain ⟨e, he1, rfl⟩ := List.mem_map.1 hk
        obtain ⟨he2, he3⟩ := List.mem_filter.1 he1
        exact he e (by simpa using he2) he3
      have hpreD : ∀ k ∈ gA [] pr i, listed.getD k false = true := fun k hk => by
        rcases hpre k hk with e | ⟨j, hj, e⟩
        · exact hedge k e
        · exact hcl j (by have := hbk j hj; omega) (hedge j hj) k e
      have hafter : ∀ k, k < ops.length → i ∈ gA [] pr k → listed.getD k false = false := fun k hk hm => by
        cases hd : listed.getD k false with
        | false => rfl
        | true => rw [hcl k hk hd i hm] at h1; cases h1
      -- where it is met
      have hdecl : ∃ p ev q, es = p ++ ev :: q ∧ (ev = .n i ∨ ev = .d i) := by
        rcases con_mem (hall i hi') with h | h
        · obtain ⟨p, q, e⟩ := List.append_of_mem h
          exact ⟨p, _, q, e, .inl rfl⟩
        · obtain ⟨p, q, e⟩ := List.append_of_mem h
          obtain ⟨p', q', e'⟩ := List.append_of_mem ((topB_iff htop p _ q e).resolve_left (by simp))
          exact ⟨p', _, q' ++ .o i :: q, by rw [e, e']; simp, .inr rfl⟩
      obtain ⟨p, ev, q, hpq, hev⟩ := hdecl
      have hst := topB_iff htop p ev q hpq
      have hsplit : con es = con p ++ con (ev :: q) := by rw [hpq, con_app]
      have hiu : i ∉ con p := by
        rcases hev with rfl | rfl
        · rw [hsplit] at hnod
          exact fun hm => (List.nodup_append.1 hnod).2.2 i hm i (by simp [con]) rfl
        · exact hst.1.2.2.2
      have htp : ∀ k ∈ gA [] pr i, k ∈ con p := fun k hk => by
        rcases hev with rfl | rfl
        · exact (hst.2.1 k hk).resolve_left (by simp)
        · exact (hst.2.1 k hk).resolve_left (by simp)
      have htg : ∀ e ∈ con p, memB e D.G = true → listed.getD e false = true := fun e he hg => hpreD e (by
        rcases hev with rfl | rfl
        · exact hst.2.2 e (.inr he) hg
        · exact hst.2.2 e (.inr he) hg)
      have hpp : ∀ k ∈ con p, i ∉ gA [] pr k := fun k hk hm => by
        have := topB_pre htop (fun k hk => by cases hk) p (ev :: q) hpq k hk i hm
        exact hiu (this.resolve_left (by simp))
      have hul : ∀ k ∈ con p, k < ops.length := fun k hk => hlt k (by rw [hsplit]; simp [hk])
      have hvl : ∀ k ∈ con (ev :: q), k < ops.length := fun k hk => hlt k (by rw [hsplit]; exact List.mem_append_right _ hk)
      have hdisj : ∀ k ∈ con p, k ∉ con (ev :: q) := fun k hk hk' => by
        rw [hsplit] at hnod
        exact (List.nodup_append.1 hnod).2.2 k hk k hk' rfl
      have hkD : ∀ k, listed.getD k false = true → kys (g k).2 (gA [] D.I k) = true := fun k hd => by
        rcases hin k hd with h | h
        · exact hM.key k h
        · obtain ⟨p, q, e⟩ := List.append_of_mem h
          obtain ⟨Ψ, _, _, h3, h4⟩ := hM.dec p k q e
          exact h3 _ _ (h4 hd)
      have hkey : ∀ k x C, listed.getD k false = true ∨ k ∈ con l1 → aget (gh g k) x = some C → x ∈ gA [] D.I k := fun k x C hk hx => by
        by_cases hm : x ∈ gA [] D.I k
        · exact hm
        · have := kys_none (hk.elim (hkD k) (hM.key k)) hm
          unfold gh at hx
          rw [this] at hx
          cases hx
      -- the views: what the telescope shows in front of i is there
      have hvS : ∀ x, x ∈ o'.looksAt ops.toArray → aget (aL (gs ops g) ((con es).filter fun k => listed.getD k false) s0) x = aget (aL (gs ops g) (con p) s0) x := fun x hx => by
        rw [hsplit]
        refine aL_view (fun k hk hne => ?_) fun k hk hne => ?_
        · obtain ⟨y, hy⟩ := Option.ne_none_iff_exists'.1 hne
          rcases hord (hlook x hx k (hul k hk) (cs_get hy)) with e | e | e
          · exact hpreD k e
          · subst e; exact absurd hk hiu
          · exact absurd e (hpp k hk)
        · obtain ⟨y, hy⟩ := Option.ne_none_iff_exists'.1 hne
          rcases hord (hlook x hx k (hvl k hk) (cs_get hy)) with e | e | e
          · exact absurd hk (hdisj k (htp k e))
          · subst e; exact h1
          · exact hafter k (hvl k hk) e
      have hvH : (∀ k ∈ con p, k ∈ con l1) → ∀ x, x ∈ gA [] D.T i → aget (aL (gh g) ((con es).filter fun k => listed.getD k false) h0) x = aget (aL (gh g) (con p) h0) x := fun hu x hx => by
        rw [hsplit]
        refine aL_view (fun k hk hne => ?_) fun k hk hne => ?_
        · obtain ⟨y, hy⟩ := Option.ne_none_iff_exists'.1 hne
          rcases hord (hT x hx k (hul k hk) (hkey k x y (.inr (hu k hk)) hy)) with e | e | e
          · exact hpreD k e
          · subst e; exact absurd hk hiu
          · exact absurd e (hpp k hk)
        · cases hd : listed.getD k false with
          | false => rfl
          | true =>
            obtain ⟨y, hy⟩ := Option.ne_none_iff_exists'.1 hne
            rcases hord (hT x hx k (hvl k hk) (hkey k x y (.inl hd) hy)) with e | e | e
            · exact absurd hk (hdisj k (htp k e))
            · subst e; rw [h1] at hd; cases hd
            · rw [hafter k (hvl k hk) e] at hd; cases hd
      -- a local fact at what the telescope shows is one here
      have hrun : (∀ k ∈ con p, k ∈ con l1) → ∀ Ψ, LocR P n w0 M ops i (aL (gs ops g) (con p) s0) (hsel (aL (gh g) (con p) h0) (gA [] D.T i)) Ψ →
          wpOp P ops.toArray (fun _ _ _ => False) i (fun a' w' => ∃ v, (∃ U, Ψ v U ∧ Sat w0 M w' (U ++ aL (gh g) ((con es).filter fun k => listed.getD k false) h0)) ∧ a' = a.put (dsO ops i) v) a w := fun hu Ψ hL => by
        have hkeyS : ∀ x v, aget (aL (gs ops g) (con p) s0) x = some v → x < n := fun x v hx => by
          by_cases hex : ∃ k ∈ con p, aget (gs ops g k) x ≠ none
          · obtain ⟨k, hk, hne⟩ := hex
            obtain ⟨y, hy⟩ := Option.ne_none_iff_exists'.1 hne
            obtain ⟨ok, _, hdk, hbk, _⟩ := hop k (hul k hk)
            exact lt_of_blt (hbk x (by rw [← hdk]; exact cs_get hy))
          · rw [aL_none fun k hk => by
              cases e : aget (gs ops g k) x with
              | none => rfl
              | some y => exact absurd ⟨k, hk, by simp [e]⟩ hex] at hx
            exact hs0 x v hx
        let b : Act := { tmps := Array.ofFn (n := n) fun x => (aget (aL (gs ops g) (con p) s0) x.val).getD (a.tmps.getD x.val undef), defers := a.defers }
        have hb : Has n b (aL (gs ops g) (con p) s0) := ⟨by simp [b], ha.defers, fun x v hx => by
          have := hkeyS x v hx
          simp [b, this, hx]⟩
        have hv' : Ext (hsel (aL (gh g) (con p) h0) (gA [] D.T i)) (aL (gh g) ((con es).filter fun k => listed.getD k false) h0) := fun x C hx => by
          obtain ⟨q1, q2⟩ := hsel_get hx
          rw [hvH hu x q2]
          exact q1
        have h := hL b w _ hb hv' hw
        rw [hdst] at h ⊢
        refine wpOp_agree (a := b) (b := a) ho' hsel' rfl (by simp [b, ha.size]) (fun t ht => ?_) h
        have hsz := ha.size
        by_cases htn : t < n
        · simp only [b, Array.getElem?_ofFn, htn, dite_true]
          cases e : aget (aL (gs ops g) (con p) s0) t with
          | some y =>
            rw [← hvS t ht] at e
            rw [ha.val t y e]
            rfl
          | none =>
            have : t < a.tmps.size := by rw [hsz]; exact htn
            simp [this]
        · simp [b, htn, hsz]
      have hlist : ∀ k, (listed.setIfInBounds i true).getD k false = if k = i then true else listed.getD k false := fun k => by
        by_cases e : k = i
        · subst e; simp [hs, hi']
        · rw [getD_set_ne false (Ne.symm e), if_neg e]
      have hnx : ∀ g' : Nat → Value × Hp, (∀ k, listed.getD k false = true → g' k = g k) → kys (g' i).2 (gA [] D.I i) = true →
          (∀ x, aget (aL (gs ops g') ((con es).filter fun k => (listed.setIfInBounds i true).getD k false) s0) x = aget (cs (dsO ops i) (g' i).1 ++ aL (gs ops g) ((con es).filter fun k => listed.getD k false) s0) x) ∧
          ∀ x, aget (aL (gh g') ((con es).filter fun k => (listed.setIfInBounds i true).getD k false) h0) x = aget ((g' i).2 ++ aL (gh g) ((con es).filter fun k => listed.getD k false) h0) x := fun g' hg' hk' => by
        have e1 : ((con es).filter fun k => (listed.setIfInBounds i true).getD k false) = (con es).filter fun k => k == i || listed.getD k false := List.filter_congr fun k hk => by
          rw [hlist k]
          by_cases e : k = i <;> simp [e]
        have hgD : ∀ k ∈ ((con es).filter fun k => listed.getD k false), g' k = g k := fun k hk => hg' k (List.mem_filter.1 hk).2
        obtain ⟨c1, c2, hc⟩ := List.append_of_mem (hall i hi')
        have hnc : (c1 ++ i :: c2).Nodup := hc ▸ hnod
        obtain ⟨c, hc1⟩ := pre_split (hc.symm.trans hsplit) hiu
        have hno : ∀ k ∈ c2, listed.getD k false = true → (∀ d, dsO ops i = some d → dsO ops k ≠ some d) ∧ ∀ x ∈ gA [] D.I i, x ∉ gA [] D.I k := fun k hk hd => by
          have hkl : k < ops.length := hlt k (by rw [hc]; simp [hk])
          rcases hww k hkl with e | e
          · rcases hord e with e | e | e
            · exact absurd rfl ((List.nodup_append.1 hnc).2.2 k (by rw [hc1]; simp [htp k e]) k (by simp [hk]))
            · subst e; exact absurd hk (List.nodup_cons.1 (List.nodup_append.1 hnc).2.1).1
            · rw [hafter k hkl e] at hd; cases hd
          · exact e
        rw [e1, ← aL_gs hgD, ← aL_gh hgD, hc]
        refine ⟨fun x => ?_, fun x => ?_⟩
        · refine aL_ins (c := gs ops g') hnc h1 fun k hk hd => ?_
          cases e : aget (gs ops g' i) x with
          | none => exact .inr rfl
          | some y =>
            refine .inl ?_
            cases e2 : aget (gs ops g' k) x with
            | none => rfl
            | some z => exact absurd (cs_get e2) ((hno k hk hd).1 x (cs_get e))
        · refine aL_ins (c := gh g') hnc h1 fun k hk hd => ?_
          by_cases hx : x ∈ gA [] D.I i
          · refine .inl ?_
            unfold gh
            rw [hg' k hd]
            exact kys_none (hkD k hd) ((hno k hk hd).2 x hx)
          · exact .inr (kys_none hk' hx)
      have hcnt' : (List.range ops.length).countP (fun k => !(listed.setIfInBounds i true).getD k false) ≤ fuel := by
        have e : ∀ l : List Nat, l.Nodup → i ∈ l → l.countP (fun k => !(listed.setIfInBounds i true).getD k false) + 1 = l.countP (fun k => !listed.getD k false) := by
          intro l
          induction l with
          | nil => intro _ h; cases h
          | cons k l ihl =>
            intro hn hm
            rw [List.nodup_cons] at hn
            rw [List.countP_cons, List.countP_cons]
            by_cases e : k = i
            · subst e
              have : l.countP (fun j => !(listed.setIfInBounds k true).getD j false) = l.countP (fun j => !listed.getD j false) := by
                apply List.countP_congr
                intro j hj
                rw [hlist j, if_neg (fun e => hn.1 (by rw [← e]; exact hj))]
              rw [this, hlist k, h1]
              simp
            · have := ihl hn.2 (by simpa [Ne.symm e] using hm)
              rw [hlist k, if_neg e]
              omega
        have := e (List.range ops.length) List.nodup_range (List.mem_range.2 hi')
        omega
      have hcl' : ∀ k, k < ops.length → (listed.setIfInBounds i true).getD k false = true → ∀ j ∈ gA [] pr k, (listed.setIfInBounds i true).getD j false = true := fun k hk hd j hj => by
        rw [hlist j]
        split
        · rfl
        · rw [hlist k] at hd
          split at hd
          · rename_i e; subst e; exact hpreD j hj
          · exact hcl k hk hd j hj
      have hset : ∀ k, (listed.setIfInBounds i true).getD k false = true → k = i ∨ listed.getD k false = true := fun k hd => by
        rw [hlist k] at hd
        split at hd
        · exact .inl ‹_›
        · exact .inr hd
      have hsetk : ∀ k, listed.getD k false = true → (listed.setIfInBounds i true).getD k false = true := fun k hd => getD_set_true hd
      have hseti : (listed.setIfInBounds i true).getD i false = true := by rw [hlist i, if_pos rfl]
      have hput : ∀ (g' : Nat → Value × Hp) (x : Value), (∀ k, listed.getD k false = true → g' k = g k) → kys (g' i).2 (gA [] D.I i) = true → (dsO ops i = none ∨ x = (g' i).1) → Has n (a.put (dsO ops i) x) (aL (gs ops g') ((con es).filter fun k => (listed.setIfInBounds i true).getD k false) s0) := fun g' x hg' hk' hx => by
        have hp := ha.puts (d := dsO ops i) (by rw [hdst]; exact hbd) x
        refine ⟨hp.size, hp.defers, fun j y hy => hp.val j y ?_⟩
        rw [(hnx g' hg' hk').1 j] at hy
        rcases hx with hx | hx
        · rw [hx] at hy ⊢; exact hy
        · rw [hx]; exact hy
      -- it has been met, or the telescope waits for it
      have hcase : (∃ q', l1 = p ++ ev :: q') ∨ (ev = .n i ∧ memB i D.G = true ∧ l1 = p ∧ l2 = .n i :: q) := by
        have hwait : l2 = ev :: q → l1 = p → ev = .n i ∧ memB i D.G = true ∧ l1 = p ∧ l2 = .n i :: q := fun e1 e2 => by
          have hb := hhd ev q e1
          rcases hev with rfl | rfl
          · exact ⟨rfl, hb, e2, e1⟩
          · exact hb.elim
        have e : l1 ++ l2 = p ++ ev :: q := by rw [← his, hpq]
        rcases List.append_eq_append_iff.1 e with ⟨c, e1, e2⟩ | ⟨c, e1, e2⟩
        · cases c with
          | nil => exact .inr (hwait (by simpa using e2) (by simpa using e1.symm))
          | cons hd' c =>
            exfalso
            have hb := hhd hd' (c ++ ev :: q) (by rw [e2]; rfl)
            have hst' := topB_iff htop l1 hd' (c ++ ev :: q) (by rw [his, e2]; rfl)
            cases hd' with
            | n e =>
              have hep : e ∈ con p := by rw [e1, con_app]; simp [con]
              rcases hin e (htg e hep hb) with h | h
              · rw [hpq, con_app, e1, con_app] at hnod
                exact (List.nodup_append.1 (List.nodup_append.1 hnod).1).2.2 e h e (by simp [con]) rfl
              · exact hst'.1.2 h
            | d e => exact hb
            | o e =>
              have hep : e ∈ con p := by rw [e1, con_app]; simp [con]
              obtain ⟨p', q', e'⟩ := List.append_of_mem (hst'.resolve_left (by simp))
              have hG := (topB_iff htop p' (.d e) (q' ++ l2) (by rw [his, e']; simp)).1.1
              have h2 : listed.getD e false = false := hb
              rw [htg e hep hG] at h2
              cases h2
        · cases c with
          | nil => exact .inr (hwait (by simpa using e2.symm) (by simpa using e1))
          | cons z c =>
            simp only [List.cons_append, List.cons.injEq] at e2
            exact .inl ⟨c, by rw [e1, ← e2.1]⟩
      rcases hcase with ⟨q', hq'⟩ | ⟨rfl, hG, rfl, hl2⟩
      · have hu : ∀ k ∈ con p, k ∈ con l1 := fun k hk => by rw [hq', con_app]; simp [hk]
        rcases hev with rfl | rfl
        · -- what it brings is known
          have hil : i ∈ con l1 := by rw [hq', con_app]; simp [con]
          have hG : memB i D.G = false := by
            cases e : memB i D.G with
            | false => rfl
            | true => rw [hgh i hil e] at h1; cases h1
          refine wpOp_false' (hrun hu _ (hM.fact p i q' hq' hG)) ?_
          rintro a' w' ⟨x, ⟨U, ⟨hx, rfl⟩, hw'⟩, rfl⟩
          have hk' := hM.key i hil
          refine ih _ g pd l1 l2 _ _ (by simpa using hs) hcnt' hcl' his (hM.re (fun _ _ => rfl) fun u j v Ψ e _ h2 hd => ?_) hDW (fun ev t e => ?_) (fun k hk hg => hsetk k (hgh k hk hg)) (fun k hd => ?_) (hput g x (fun _ _ => rfl) hk' hx) ?_
          · rcases hset j hd with e' | e'
            · have := (topB_iff htop u (.d j) (v ++ l2) (by rw [his, e]; simp)).1.1
              rw [e', hG] at this
              cases this
            · exact h2 e'
          · have hb := hhd ev t e
            cases ev with
            | n e' => exact hb
            | d e' => exact hb
            | o e' =>
              show (listed.setIfInBounds i true).getD e' false = false
              rw [hlist e', if_neg (fun h => ?_)]
              · exact hb
              · subst h
                have hst' := topB_iff htop l1 _ t (by rw [his, e])
                obtain ⟨p', q'', e''⟩ := List.append_of_mem (hst'.resolve_left (by simp))
                have := (topB_iff htop p' (.d e') (q'' ++ l2) (by rw [his, e'']; simp)).1.1
                rw [hG] at this
                cases this
          · rcases hset k hd with e | e
            · subst e; exact .inl hil
            · exact hin k e
          · exact hw'.subg fun j C hj => by rw [← (hnx g (fun _ _ => rfl) hk').2 j]; exact hj
        · -- what it does has been said
          obtain ⟨Ψ, hp, hL, hky, _⟩ := hM.dec p i q' hq'
          have hG : memB i D.G = true := hst.1.1
          have hil : i ∉ con l1 := fun h => by rw [hgh i h hG] at h1; cases h1
          refine wpOp_false' (hrun hu Ψ hL) ?_
          rintro a' w' ⟨x, ⟨U, hΨ, hw'⟩, rfl⟩
          let g1 : Nat → Value × Hp := fun k => if k = i then (x, U) else g k
          have hne : ∀ k, k ≠ i → g1 k = g k := fun k hk => by simp only [g1]; rw [if_neg hk]
          have hgi : g1 i = (x, U) := by simp [g1]
          have hg1 : ∀ k ∈ con l1, g1 k = g k := fun k hk => hne k (fun e => hil (by rw [← e]; exact hk))
          have hM1 : Met P n w0 M ops D s0 h0 (fun k => (listed.setIfInBounds i true).getD k false) g1 pd l1 := hM.re hg1 fun u j v Ψ' e h1' h2 hd => by
            by_cases ej : j = i
            · subst ej
              rw [hp] at h1'
              obtain rfl := Option.some.inj h1'
              rw [hgi]; exact hΨ
            · rw [hne j ej]; exact h2 ((hset j hd).resolve_left ej)
          obtain ⟨m, l2', g', pd', e1, e2, e3, e4, e5, e6⟩ := advance hnod htop (fun k => (listed.setIfInBounds i true).getD k false) l2 l1 g1 pd his hM1 (fun k hd => by
            rcases hset k hd with e | e
            · subst e; exact .inr (by rw [hq']; simp)
            · exact hin k e) (by rw [aL_gs hg1, aL_gh hg1]; exact hDW)
          have hg'D : ∀ k, listed.getD k false = true → g' k = g k := fun k hd => by
            rw [e2 k (.inr (hsetk k hd)), hne k (fun e => by subst e; rw [h1] at hd; cases hd)]
          have hg'i : g' i = (x, U) := by rw [e2 i (.inr hseti), hgi]
          have hk' : kys (g' i).2 (gA [] D.I i) = true := by rw [hg'i]; exact hky x U hΨ
          refine ih _ g' pd' (l1 ++ m) l2' _ _ (by simpa using hs) hcnt' hcl' (by rw [his, e1]; simp) e4 e5 e6 (fun k hk hg => ?_) (fun k hd => ?_) (hput g' x hg'D hk' (.inr (by rw [hg'i]))) ?_
          · rw [con_app] at hk
            rcases List.mem_append.1 hk with hk | hk
            · exact hsetk k (hgh k hk hg)
            · exact e3 k hk hg
          · rcases hset k hd with e | e
            · subst e; exact .inr (by rw [hq']; simp)
            · exact (hin k e).imp (fun h => by simp [con_app, h]) (fun h => by simp [h])
          · exact hw'.subg fun j C hj => by rw [(hnx g' hg'D hk').2 j, hg'i] at hj; exact hj
      · -- it brings what is not known ahead
        subst hl2
        unfold DW at hDW
        simp only [hG, cond_true] at hDW
        obtain ⟨Ψ, hL, hk⟩ := hDW
        refine wpOp_false' (hrun (fun k hk => hk) Ψ hL) ?_
        rintro a' w' ⟨x, ⟨U, hΨ, hw'⟩, rfl⟩
        obtain ⟨hk1, hDW⟩ := hk x U hΨ
        let g1 : Nat → Value × Hp := fun k => if k = i then (x, U) else g k
        have hne : ∀ k, k ≠ i → g1 k = g k := fun k hk => by simp only [g1]; rw [if_neg hk]
        have hg1 : ∀ k ∈ con l1, g1 k = g k := fun k hk => hne k (fun e => hiu (by rw [← e]; exact hk))
        have hgi : g1 i = (x, U) := by simp [g1]
        have hid1 : .d i ∉ l1 := hst.1.2
        have hM1 : Met P n w0 M ops D s0 h0 (fun k => (listed.setIfInBounds i true).getD k false) g1 pd (l1 ++ [.n i]) := (hM.re hg1 fun u j v Ψ' e h1' h2 hd => by
          have ej : j ≠ i := fun ej => hid1 (by rw [e, ej]; simp)
          rw [hne j ej]; exact h2 ((hset j hd).resolve_left ej)).addN (by rw [hgi]; exact hk1) (fun h => by rw [hG] at h; cases h)
        have hD1 : DW P n w0 M ops D (fun s h => KW n w0 M Q .normal s h) q pd (aL (gs ops g1) (con (l1 ++ [.n i])) s0) (aL (gh g1) (con (l1 ++ [.n i])) h0) := by
          rw [con_app, aL_app, aL_app, aL_gs hg1, aL_gh hg1]
          simp only [con, aL, gs, gh, hgi]
          exact hDW
        obtain ⟨m, l2', g', pd', e1, e2, e3, e4, e5, e6⟩ := advance hnod htop (fun k => (listed.setIfInBounds i true).getD k false) q (l1 ++ [.n i]) g1 pd (by rw [hpq]; simp) hM1 (fun k hd => by
          rcases hset k hd with e | e
          · subst e; exact .inl (by simp [con_app, con])
          · exact (hin k e).imp (fun h => by simp [con_app, h]) (fun h => by simp [h])) hD1
        have hg'D : ∀ k, listed.getD k false = true → g' k = g k := fun k hd => by
          rw [e2 k (.inr (hsetk k hd)), hne k (fun e => by subst e; rw [h1] at hd; cases hd)]
        have hg'i : g' i = (x, U) := by rw [e2 i (.inr hseti), hgi]
        have hk' : kys (g' i).2 (gA [] D.I i) = true := by rw [hg'i]; exact hk1
        refine ih _ g' pd' (l1 ++ [.n i] ++ m) l2' _ _ (by simpa using hs) hcnt' hcl' (by rw [hpq, e1]; simp) e4 e5 e6 (fun k hk hg => ?_) (fun k hd => ?_) (hput g' x hg'D hk' (.inr (by rw [hg'i]))) ?_
        · rw [con_app, con_app] at hk
          rcases List.mem_append.1 hk with hk | hk
          · rcases List.mem_append.1 hk with hk | hk
            · exact hsetk k (hgh k hk hg)
            · simp only [con, List.mem_singleton] at hk; subst hk; exact hseti
          · exact e3 k hk hg
        · rcases hset k hd with e | e
          · subst e; exact .inl (by simp [con_app, con])
          · exact (hin k e).imp (fun h => by simp [con_app, h]) (fun h => by simp [h])
        · exact hw'.subg fun j C hj => by rw [(hnx g' hg'D hk').2 j, hg'i] at hj; exact hj
  obtain ⟨m, l2', g', pd', e1, e2, e3, e4, e5, e6⟩ := advance (s0 := s0) (h0 := h0) hnod htop (fun _ => false) es [] (fun _ => (undef, [])) [] rfl ⟨fun _ h => (by cases h), fun u i v e => (by cases u <;> cases e), fun u i v e => (by cases u <;> cases e)⟩ (fun _ h => by cases h) hD
  have hz : ∀ k, (Array.replicate ops.toArray.size false).getD k false = false := fun k => by unfold Array.getD; split <;> simp
  have hz' : (fun k => (Array.replicate ops.toArray.size false).getD k false) = fun _ => false := funext hz
  have hempty : ((con es).filter fun k => (Array.replicate ops.toArray.size false).getD k false) = [] := List.filter_eq_nil_iff.2 fun k _ => by rw [hz k]; simp
  refine main ops.length _ g' pd' m l2' a _ (by simp) (Nat.le_trans List.countP_le_length (by simp)) (fun k hk hd => ?_) e1 (by rw [hz']; simpa using e4) (by simpa using e5) (by rw [hz']; exact e6) (fun k hk hg => ?_) (fun k hd => ?_) ?_ ?_
  · rw [hz k] at hd; cases hd
  · have := e3 k hk hg; cases this
  · rw [hz k] at hd; cases hd
  · rw [hempty]; exact ha
  · rw [hempty]; exact hw.drew _
end
end Go.Proofs.YtbfbfkpcabkchaaGreatDoor
