/- The engine, fifth part: a region that draws its order. Each operation is met once: with what its own forerunners have left; behind the region every operation's fact is there, whatever the order was. -/
import Derived.Test.YtciliaiocakdkaaDoorE4
set_option linter.unusedSimpArgs false
set_option linter.unusedVariables false
set_option linter.unusedSectionVars false
namespace Go.Proofs.YtciliaiocakdkaaDoor
open Go.RowKit

/-- what an operation brings that is not known ahead: addresses, capacities, resources -/
structure Gh where
  a : List (Option Addr)
  c : List Nat
  r : List Res
instance : Inhabited Gh := ⟨⟨[], [], []⟩⟩
def Gh.A (x : Gh) (k : Nat) : Option Addr := match x.a[k]? with | some v => v | none => none
def Gh.C (x : Gh) (k : Nat) : Nat := match x.c[k]? with | some v => v | none => 0
def Gh.R (x : Gh) (k : Nat) : Res := match x.r[k]? with | some v => v | none => []

def memB : Nat → List Nat → Bool
  | _, [] => false
  | k, j :: l => bif Nat.beq j k then true else memB k l
theorem memB_iff {k : Nat} {l : List Nat} : memB k l = true ↔ k ∈ l := by
  induction l with
  | nil => simp [memB]
  | cons j l ih =>
    unfold memB
    by_cases e : j = k
    · subst e; simp
    · rw [beq_false_of_ne e]; simp only [cond_false, ih, List.mem_cons]
      exact ⟨.inr, fun h => h.resolve_left (fun x => e x.symm)⟩
def rst (g : Nat → Gh) (l : List Nat) : Nat → Gh := fun k => bif memB k l then g k else default
theorem rst_congr {g g' : Nat → Gh} {l : List Nat} (h : ∀ k ∈ l, g k = g' k) : rst g l = rst g' l := by
  funext k
  unfold rst
  cases hm : memB k l with
  | true => simp [h k (memB_iff.1 hm)]
  | false => rfl
def upd (g : Nat → Gh) (i : Nat) (x : Gh) : Nat → Gh := fun k => if k = i then x else g k
theorem upd_same (g : Nat → Gh) (i : Nat) (x : Gh) : upd g i x i = x := by simp [upd]
theorem upd_ne (g : Nat → Gh) {i k : Nat} (x : Gh) (h : k ≠ i) : upd g i x k = g k := by simp [upd, h]

/-- what is said of the operations of a region -/
structure RC where
  dst : Nat → Option Nat
  pre : Nat → List Nat
  ids : Nat → List Nat
  rs : Nat → List (Nat × Option Nat)
  rh : Nat → List (Nat × Option Nat)
structure RSpec extends RC where
  V : Nat → (Nat → Gh) → Value
  U : Nat → (Nat → Gh) → Hp
  Φ : Nat → Gh → Prop
def RSpec.v (S : RSpec) (i : Nat) (g : Nat → Gh) : Value := S.V i (rst g (i :: S.pre i))
def RSpec.u (S : RSpec) (i : Nat) (g : Nat → Gh) : Hp := S.U i (rst g (i :: S.pre i))

def stS (S : RSpec) (g : Nat → Gh) (D : Nat → Bool) (s0 : Slots) : Nat → Slots
  | 0 => s0
  | m + 1 => bif D m then (match S.dst m with | some d => (d, S.v m g) :: stS S g D s0 m | none => stS S g D s0 m) else stS S g D s0 m
def stH (S : RSpec) (g : Nat → Gh) (D : Nat → Bool) (h0 : Hp) : Nat → Hp
  | 0 => h0
  | m + 1 => bif D m then S.u m g ++ stH S g D h0 m else stH S g D h0 m

def vS (S : RSpec) (s0 : Slots) (g : Nat → Gh) : List (Nat × Option Nat) → Slots
  | [] => []
  | (x, some k) :: l => (x, S.v k g) :: vS S s0 g l
  | (x, none) :: l => (x, (match aget s0 x with | some v => v | none => undef)) :: vS S s0 g l
def vH (S : RSpec) (h0 : Hp) (g : Nat → Gh) : List (Nat × Option Nat) → Hp
  | [] => []
  | (x, some k) :: l => (x, (match aget (S.u k g) x with | some v => v | none => [])) :: vH S h0 g l
  | (x, none) :: l => (x, (match aget h0 x with | some v => v | none => [])) :: vH S h0 g l

def allLt : Nat → (Nat → Bool) → Bool
  | 0, _ => true
  | m + 1, p => allLt m p && p m
theorem allLt_iff {m : Nat} {p : Nat → Bool} : allLt m p = true ↔ ∀ k, k < m → p k = true := by
  induction m with
  | zero => simp [allLt]
  | succ m ih =>
    simp only [allLt, Bool.and_eq_true, ih]
    exact ⟨fun h k hk => by rcases Nat.lt_succ_iff_lt_or_eq.1 hk with e | e; exact h.1 k e; subst e; exact h.2, fun h => ⟨fun k hk => h k (by omega), h m (by omega)⟩⟩

def AllLt : Nat → (Nat → Prop) → Prop
  | 0, _ => True
  | m + 1, p => AllLt m p ∧ p m
theorem AllLt.get {m : Nat} {p : Nat → Prop} (h : AllLt m p) : ∀ k, k < m → p k := by
  induction m with
  | zero => intro k hk; omega
  | succ m ih =>
    intro k hk
    rcases Nat.lt_succ_iff_lt_or_eq.1 hk with e | e
    · exact ih h.1 k e
    · subst e; exact h.2

def edgesOf (ops : List Oper) (i : Nat) : List Nat := match ops[i]? with
  | some o => (o.after.toList.filter (Region.binds .any)).map (·.on)
  | none => []
def odst (d : Option Nat) (x : Nat) : Bool := match d with | some d => Nat.beq d x | none => false
/-- the closed side conditions -/
def RC.chk (S : RC) (n : Nat) (ops : List Oper) (ks kh : List Nat) : Bool :=
  allLt ops.length fun i =>
    (match S.dst i with | some d => Nat.blt d n | none => true) &&
    (match ops[i]? with | some o => o.dst == S.dst i && (match o.op with | .select .. => false | _ => true) | none => false) &&
    (edgesOf ops i).all (fun k => Nat.blt k i) &&
    (S.pre i).all (fun k => Nat.blt k i && (memB k (edgesOf ops i) || (edgesOf ops i).any fun j => memB k (S.pre j))) &&
    allLt i (fun k => memB k (S.pre i) || ((match S.dst k with | some d => !(odst (S.dst i) d) | none => true) && (S.ids k).all fun x => !(memB x (S.ids i)))) &&
    (S.rs i).all (fun p => match p with
      | (x, some k) => memB k (S.pre i) && odst (S.dst k) x && allLt ops.length (fun k' => !(odst (S.dst k') x) || Nat.ble k' k || Nat.beq k' i || memB i (S.pre k'))
      | (x, none) => memB x ks && allLt ops.length (fun k' => !(odst (S.dst k') x) || Nat.beq k' i || memB i (S.pre k'))) &&
    (S.rh i).all (fun p => match p with
      | (x, some k) => memB k (S.pre i) && allLt ops.length (fun k' => !(memB x (S.ids k')) || Nat.ble k' k || Nat.beq k' i || memB i (S.pre k'))
      | (x, none) => memB x kh && allLt ops.length (fun k' => !(memB x (S.ids k')) || Nat.beq k' i || memB i (S.pre k')))

section
variable {P : Program} {n : Nat} {w0 : World} {M : List Nat}

/-- what is shown of operation i -/
def Loc (P : Program) (n : Nat) (w0 : World) (M : List Nat) (ops : List Oper) (S : RSpec) (s0 : Slots) (h0 : Hp) (i : Nat) : Prop :=
  ∀ g, (∀ k, memB k (S.pre i) = true → S.Φ k (g k)) → ∀ s h, SubS (vS S s0 g (S.rs i)) s → SubH (vH S h0 g (S.rh i)) h → ∀ a w, Has n a s → Sat w0 M w h →
    wpOp P ops.toArray (fun _ _ _ => False) i (fun a' w' => ∃ x, S.Φ i x ∧ a' = a.put (S.dst i) (S.v i (upd g i x)) ∧ Sat w0 M w' (S.u i (upd g i x) ++ h)) a w

theorem wpOp_false {ops : Array Oper} {i : Nat} {K K' : Act → World → Prop} {Q : Exit → Act → World → Prop} {a : Act} {w : World} (hh : wpOp P ops (fun _ _ _ => False) i K a w) (h : ∀ a w, K a w → K' a w) : wpOp P ops Q i K' a w := by
  unfold wpOp at *
  split
  · rename_i e; simp only [e] at hh; exact h _ _ hh
  · rename_i o e
    simp only [e] at hh
    split
    · rename_i hw
      simp only [hw, if_true] at hh
      rcases hh with hh | ⟨_, _, _, f⟩
      · exact .inl (oper_wp_false hh h)
      · exact f.elim
    · rename_i hw; simp only [hw] at hh; exact h _ _ hh

theorem v_congr {S : RSpec} {i : Nat} {g g' : Nat → Gh} (h : ∀ k, k = i ∨ k ∈ S.pre i → g k = g' k) : S.v i g = S.v i g' ∧ S.u i g = S.u i g' := by
  unfold RSpec.v RSpec.u
  rw [rst_congr (g := g) (g' := g') (l := i :: S.pre i) (fun k hk => h k (by simpa using hk))]
  exact ⟨rfl, rfl⟩

theorem vS_cons {S : RSpec} {s0 : Slots} {g : Nat → Gh} {x : Nat} {src : Option Nat} {l : List (Nat × Option Nat)} : vS S s0 g ((x, src) :: l) = (x, (match src with | some k => S.v k g | none => match aget s0 x with | some v => v | none => undef)) :: vS S s0 g l := by cases src <;> rfl
theorem vH_cons {S : RSpec} {h0 : Hp} {g : Nat → Gh} {x : Nat} {src : Option Nat} {l : List (Nat × Option Nat)} : vH S h0 g ((x, src) :: l) = (x, (match src with | some k => (match aget (S.u k g) x with | some v => v | none => []) | none => match aget h0 x with | some v => v | none => [])) :: vH S h0 g l := by cases src <;> rfl

theorem stS_none {S : RSpec} {g : Nat → Gh} {D : Nat → Bool} {s0 : Slots} {x : Nat} : ∀ m, (∀ k, k < m → D k = true → S.dst k ≠ some x) → aget (stS S g D s0 m) x = aget s0 x
  | 0, _ => rfl
  | m + 1, h => by
    have ih := stS_none (s0 := s0) (g := g) m (fun k hk => h k (by omega))
    unfold stS
    cases hd : D m with
    | false => exact ih
    | true =>
      have := h m (by omega) hd
      simp only [cond_true]
      cases hs : S.dst m with
      | none => exact ih
      | some d => simp only []; rw [aget_cons_ne _ _ (fun e => this (by rw [hs, e]))]; exact ih
theorem stS_last {S : RSpec} {g : Nat → Gh} {D : Nat → Bool} {s0 : Slots} {x k : Nat} (hk : S.dst k = some x) (hD : D k = true) : ∀ m, k < m → (∀ k', k < k' → k' < m → D k' = true → S.dst k' ≠ some x) → aget (stS S g D s0 m) x = some (S.v k g)
  | 0, h, _ => by omega
  | m + 1, hlt, h => by
    unfold stS
    by_cases e : k = m
    · subst e; simp only [hD, cond_true, hk]; exact aget_cons_eq _ _ _
    · have ih := stS_last (s0 := s0) (g := g) hk hD m (by omega) (fun k' h1 h2 => h k' h1 (by omega))
      cases hd : D m with
      | false => exact ih
      | true =>
        have := h m (by omega) (by omega) hd
        simp only [cond_true]
        cases hs : S.dst m with
        | none => exact ih
        | some d => simp only []; rw [aget_cons_ne _ _ (fun e => this (by rw [hs, e]))]; exact ih
theorem aget_none_of_keys {u : Hp} {x : Nat} (h : ∀ p ∈ u, p.1 ≠ x) : aget u x = none := by
  induction u with
  | nil => rfl
  | cons p u ih =>
    obtain ⟨j, C⟩ := p
    rw [aget_cons_ne _ _ (h (j, C) (by simp))]
    exact ih fun q hq => h q (by simp [hq])
theorem stH_none {S : RSpec} {g : Nat → Gh} {D : Nat → Bool} {h0 : Hp} {x : Nat} : ∀ m, (∀ k, k < m → D k = true → aget (S.u k g) x = none) → aget (stH S g D h0 m) x = aget h0 x
  | 0, _ => rfl
  | m + 1, h => by
    have ih := stH_none (h0 := h0) (g := g) m (fun k hk => h k (by omega))
    unfold stH
    cases hd : D m with
    | false => exact ih
    | true => simp only [cond_true]; rw [aget_append, h m (by omega) hd]; simpa using ih
theorem stH_last {S : RSpec} {g : Nat → Gh} {D : Nat → Bool} {h0 : Hp} {x k : Nat} {C : Res} (hk : aget (S.u k g) x = some C) (hD : D k = true) : ∀ m, k < m → (∀ k', k < k' → k' < m → D k' = true → aget (S.u k' g) x = none) → aget (stH S g D h0 m) x = some C
  | 0, h, _ => by omega
  | m + 1, hlt, h => by
    unfold stH
    by_cases e : k = m
    · subst e; simp only [hD, cond_true]; rw [aget_append, hk]; rfl
    · have ih := stH_last (h0 := h0) (g := g) hk hD m (by omega) (fun k' h1 h2 => h k' h1 (by omega))
      cases hd : D m with
      | false => exact ih
      | true => simp only [cond_true]; rw [aget_append, h m (by omega) (by omega) hd]; simpa using ih

/-- operation i is added to those that are done -/
theorem st_add {S : RSpec} {g g' : Nat → Gh} {D : Nat → Bool} {s0 : Slots} {h0 : Hp} {i : Nat} (hi : D i = false) (hg : ∀ k, D k = true → S.v k g' = S.v k g ∧ S.u k g' = S.u k g) :
    ∀ m, (∀ k, i < k → k < m → D k = true → (∀ d, S.dst i = some d → S.dst k ≠ some d) ∧ ∀ x, aget (S.u i g') x = none ∨ aget (S.u k g) x = none) →
      (m ≤ i → stS S g' (fun k => if k = i then true else D k) s0 m = stS S g D s0 m ∧ stH S g' (fun k => if k = i then true else D k) h0 m = stH S g D h0 m) ∧
      (i < m → (∀ x, aget (stS S g' (fun k => if k = i then true else D k) s0 m) x = aget (match S.dst i with | some d => (d, S.v i g') :: stS S g D s0 m | none => stS S g D s0 m) x) ∧
        ∀ x, aget (stH S g' (fun k => if k = i then true else D k) h0 m) x = aget (S.u i g' ++ stH S g D h0 m) x)
  | 0, _ => ⟨fun _ => ⟨rfl, rfl⟩, fun h => by omega⟩
  | m + 1, hc => by
    have ih := st_add (s0 := s0) (h0 := h0) hi hg m (fun k h1 h2 => hc k h1 (by omega))
    refine ⟨fun hle => ?_, fun hlt => ?_⟩
    · obtain ⟨e1, e2⟩ := ih.1 (by omega)
      unfold stS stH
      have hne : m ≠ i := by omega
      simp only [hne, if_false]
      cases hd : D m with
      | false => exact ⟨e1, e2⟩
      | true => simp only [cond_true, (hg m hd).1, (hg m hd).2, e1, e2]; exact ⟨trivial, trivial⟩
    · by_cases e : m = i
      · subst e
        obtain ⟨e1, e2⟩ := ih.1 (Nat.le_refl _)
        unfold stS stH
        simp only [if_true, cond_true, hi, cond_false, e1, e2]
        exact ⟨fun _ => trivial, fun _ => trivial⟩
      · obtain ⟨f1, f2⟩ := ih.2 (by omega)
        unfold stS stH
        simp only [e, if_false]
        cases hd : D m with
        | false => exact ⟨f1, f2⟩
        | true =>
          obtain ⟨c1, c2⟩ := hc m (by omega) (by omega) hd
          simp only [cond_true, (hg m hd).1, (hg m hd).2]
          refine ⟨fun x => ?_, fun x => ?_⟩
          · cases hm : S.dst m with
            | none => simp only []; exact f1 x
            | some dm =>
              simp only []
              rw [aget_cons, f1 x]
              cases hs : S.dst i with
              | none => simp only []; rw [aget_cons]
              | some d =>
                have hne : dm ≠ d := fun e => c1 d hs (by rw [hm, e])
                simp only [aget_cons]
                by_cases e1 : dm = x
                · subst e1; simp [hne.symm]
                · simp [e1]
          · rw [aget_append, f2 x, aget_append, aget_append, aget_append]
            rcases c2 x with e1 | e1 <;> rw [e1] <;> simp

theorem region_drawn {id : Nat} {ops : List Oper} {Q : Exit → Act → World → Prop} {s0 : Slots} {h0 : Hp} (S : RSpec) (hm : P.follows .mixedOrders = true) (ks kh : List Nat) (hchk : S.toRC.chk n ops ks kh = true)
    (hks : ks.all (fun x => (aget s0 x).isSome) = true) (hkh : kh.all (fun x => (aget h0 x).isSome) = true)
    (hUU : AllLt ops.length fun i => ∀ g, (S.u i g).all (fun p => memB p.1 (S.ids i)) = true ∧ (S.rh i).all (fun p => match p with | (x, some k) => (aget (S.u k g) x).isSome | _ => true) = true)
    (hopp : AllLt ops.length fun i => Loc P n w0 M ops S s0 h0 i) (hfin : ∀ g, (∀ i, i < ops.length → S.Φ i (g i)) → KW n w0 M Q .normal (stS S g (fun _ => true) s0 ops.length) (stH S g (fun _ => true) h0 ops.length)) :
    CW P n w0 M (.region id ops.toArray true) Q s0 h0 := by
  have hU : ∀ i g, i < ops.length → (S.u i g).all (fun p => memB p.1 (S.ids i)) = true := fun i g hi => (AllLt.get hUU i hi g).1
  have hrh : ∀ i g x k, i < ops.length → (x, some k) ∈ S.rh i → (aget (S.u k g) x).isSome = true := fun i g x k hi hx => List.all_eq_true.1 (AllLt.get hUU i hi g).2 (x, some k) hx
  have hop := AllLt.get hopp
  have hks' : ∀ x, memB x ks = true → (aget s0 x).isSome = true := fun x hx => List.all_eq_true.1 hks x (memB_iff.1 hx)
  have hkh' : ∀ x, memB x kh = true → (aget h0 x).isSome = true := fun x hx => List.all_eq_true.1 hkh x (memB_iff.1 hx)
  intro a w ha hw
  refine wp_region_any hm ?_
  -- the side conditions, laid out
  have hc := allLt_iff.1 hchk
  simp only [Bool.and_eq_true] at hc
  have hdst : ∀ i, i < ops.length → ∃ o, ops[i]? = some o ∧ o.dst = S.dst i := fun i hi => by
    have := (hc i hi).1.1.1.1.1.2
    cases ho : ops[i]? with
    | none => rw [ho] at this; cases this
    | some o =>
      rw [ho] at this
      simp only [Bool.and_eq_true, beq_iff_eq] at this
      exact ⟨o, rfl, this.1⟩
  have hbd : ∀ i, i < ops.length → ∀ d, S.dst i = some d → Nat.blt d n = true := fun i hi d hd => by
    have := (hc i hi).1.1.1.1.1.1
    rw [hd] at this
    exact this
  have hback : ∀ i, i < ops.length → ∀ k ∈ edgesOf ops i, k < i := fun i hi k hk => lt_of_blt (List.all_eq_true.1 (hc i hi).1.1.1.1.2 k hk)
  have hpre : ∀ i, i < ops.length → ∀ k ∈ S.pre i, k < i ∧ (k ∈ edgesOf ops i ∨ ∃ j ∈ edgesOf ops i, k ∈ S.pre j) := fun i hi k hk => by
    have := List.all_eq_true.1 (hc i hi).1.1.1.2 k hk
    simp only [Bool.and_eq_true, Bool.or_eq_true, List.any_eq_true] at this
    refine ⟨lt_of_blt this.1, ?_⟩
    rcases this.2 with e | ⟨j, hj, e⟩
    · exact .inl (memB_iff.1 e)
    · exact .inr ⟨j, hj, memB_iff.1 e⟩
  have hww : ∀ i, i < ops.length → ∀ k, k < i → k ∈ S.pre i ∨ ((∀ d, S.dst k = some d → S.dst i ≠ some d) ∧ ∀ x ∈ S.ids k, x ∉ S.ids i) := fun i hi k hk => by
    have := allLt_iff.1 (hc i hi).1.1.2 k hk
    simp only [Bool.or_eq_true, Bool.and_eq_true] at this
    rcases this with e | ⟨e1, e2⟩
    · exact .inl (memB_iff.1 e)
    · refine .inr ⟨fun d hd hd' => ?_, fun x hx hx' => ?_⟩
      · rw [hd] at e1
        simp only [hd', odst, Bool.not_eq_true'] at e1
        simp at e1
      · have := List.all_eq_true.1 e2 x hx
        simp only [Bool.not_eq_true', ← Bool.not_eq_true] at this
        exact this (memB_iff.2 hx')
  have hkeys : ∀ i g x, i < ops.length → x ∉ S.ids i → aget (S.u i g) x = none := fun i g x hi hx =>
    aget_none_of_keys fun p hp e => hx (by rw [← e]; exact memB_iff.1 (List.all_eq_true.1 (hU i g hi) p hp))
  have hrs : ∀ i, i < ops.length → ∀ x src, (x, src) ∈ S.rs i → (match src with
      | some k => k ∈ S.pre i ∧ S.dst k = some x ∧ ∀ k', k' < ops.length → S.dst k' = some x → k' ≤ k ∨ k' = i ∨ i ∈ S.pre k'
      | none => (aget s0 x).isSome = true ∧ ∀ k', k' < ops.length → S.dst k' = some x → k' = i ∨ i ∈ S.pre k') := fun i hi x src hx => by
    have := List.all_eq_true.1 (hc i hi).1.2 (x, src) hx
    have hod : ∀ k', S.dst k' = some x → odst (S.dst k') x = true := fun k' e => by rw [e]; simp [odst]
    cases src with
    | some k =>
      simp only [Bool.and_eq_true] at this
      refine ⟨memB_iff.1 this.1.1, ?_, fun k' hk' hd => ?_⟩
      · have := this.1.2
        unfold odst at this
        cases hd : S.dst k with
        | none => rw [hd] at this; cases this
        | some d => rw [hd] at this; simp only [] at this; rw [Nat.eq_of_beq_eq_true this]
      · have := allLt_iff.1 this.2 k' hk'
        simp only [hod k' hd, Bool.not_true, Bool.false_or, Bool.or_eq_true] at this
        rcases this with (e | e) | e
        · exact .inl (Nat.le_of_ble_eq_true e)
        · exact .inr (.inl (Nat.eq_of_beq_eq_true e))
        · exact .inr (.inr (memB_iff.1 e))
    | none =>
      simp only [Bool.and_eq_true] at this
      refine ⟨hks' x this.1, fun k' hk' hd => ?_⟩
      have := allLt_iff.1 this.2 k' hk'
      simp only [hod k' hd, Bool.not_true, Bool.false_or, Bool.or_eq_true] at this
      rcases this with e | e
      · exact .inl (Nat.eq_of_beq_eq_true e)
      · exact .inr (memB_iff.1 e)
  have hrhc : ∀ i, i < ops.length → ∀ x src, (x, src) ∈ S.rh i → (match src with
      | some k => k ∈ S.pre i ∧ ∀ k', k' < ops.length → x ∈ S.ids k' → k' ≤ k ∨ k' = i ∨ i ∈ S.pre k'
      | none => (aget h0 x).isSome = true ∧ ∀ k', k' < ops.length → x ∈ S.ids k' → k' = i ∨ i ∈ S.pre k') := fun i hi x src hx => by
    have := List.all_eq_true.1 (hc i hi).2 (x, src) hx
    cases src with
    | some k =>
      simp only [Bool.and_eq_true] at this
      refine ⟨memB_iff.1 this.1, fun k' hk' hd => ?_⟩
      have := allLt_iff.1 this.2 k' hk'
      simp only [memB_iff.2 hd, Bool.not_true, Bool.false_or, Bool.or_eq_true] at this
      rcases this with (e | e) | e
      · exact .inl (Nat.le_of_ble_eq_true e)
      · exact .inr (.inl (Nat.eq_of_beq_eq_true e))
      · exact .inr (.inr (memB_iff.1 e))
    | none =>
      simp only [Bool.and_eq_true] at this
      refine ⟨hkh' x this.1, fun k' hk' hd => ?_⟩
      have := allLt_iff.1 this.2 k' hk'
      simp only [memB_iff.2 hd, Bool.not_true, Bool.false_or, Bool.or_eq_true] at this
      rcases this with e | e
      · exact .inl (Nat.eq_of_beq_eq_true e)
      · exact .inr (memB_iff.1 e)
  clear hc hchk
  -- every order
  have main : ∀ (fuel : Nat) (listed : Array Bool) (g : Nat → Gh) (a : Act) (w : World), listed.size = ops.length → (∀ m, m ≤ ops.length → (List.range ops.length).countP (fun k => !listed.getD k false) ≤ fuel) →
      (∀ k, k < ops.length → listed.getD k false = true → ∀ j ∈ S.pre k, listed.getD j false = true) → (∀ k, k < ops.length → listed.getD k false = true → S.Φ k (g k)) →
      Has n a (stS S g (fun k => listed.getD k false) s0 ops.length) → Sat w0 M w (stH S g (fun k => listed.getD k false) h0 ops.length) → wpAny P .any ops.toArray Q fuel listed a w := by
    have hgetD : ∀ (listed : Array Bool), listed.size = ops.length → ∀ k, k < ops.length → listed.getD k true = listed.getD k false := fun listed hs k hk => by
      simp [hs, hk]
    have hready : ∀ (listed : Array Bool) (i : Nat), listed.size = ops.length → i < ops.length → listed.getD i false = false → (∀ k ∈ edgesOf ops i, listed.getD k false = true) → i ∈ Region.ready .any ops.toArray listed := fun listed i hs hi h1 h2 => by
      rw [mem_ready]
      refine ⟨by rw [hgetD listed hs i hi]; exact h1, ?_⟩
      obtain ⟨o, ho, _⟩ := hdst i hi
      refine ⟨o, by simpa using ho, fun e he hb => h2 e.on ?_⟩
      unfold edgesOf
      rw [ho]
      exact List.mem_map.2 ⟨e, List.mem_filter.2 ⟨by simpa using he, hb⟩, rfl⟩
    have hall : ∀ (listed : Array Bool), listed.size = ops.length → Region.ready .any ops.toArray listed = [] → ∀ k, k < ops.length → listed.getD k false = true := fun listed hs hr k => by
      induction k using Nat.strongRecOn with
      | _ k ih =>
        intro hk
        cases hd : listed.getD k false with
        | true => rfl
        | false =>
          have := hready listed k hs hk hd (fun j hj => ih j (hback k hk j hj) (by have := hback k hk j hj; omega))
          rw [hr] at this
          cases this
    have hdone : ∀ (listed : Array Bool) (g : Nat → Gh) (a : Act) (w : World), listed.size = ops.length → (∀ k, k < ops.length → listed.getD k false = true → S.Φ k (g k)) →
        Has n a (stS S g (fun k => listed.getD k false) s0 ops.length) → Sat w0 M w (stH S g (fun k => listed.getD k false) h0 ops.length) → Region.ready .any ops.toArray listed = [] → Q .normal a w := fun listed g a w hs hΦ ha hw hr => by
      have hk := hall listed hs hr
      have e : ∀ m, m ≤ ops.length → stS S g (fun k => listed.getD k false) s0 m = stS S g (fun _ => true) s0 m ∧ stH S g (fun k => listed.getD k false) h0 m = stH S g (fun _ => true) h0 m := by
        intro m
        induction m with
        | zero => intro _; exact ⟨rfl, rfl⟩
        | succ m ih =>
          intro hm
          obtain ⟨e1, e2⟩ := ih (by omega)
          unfold stS stH
          simp only [hk m (by omega), e1, e2]
          exact ⟨trivial, trivial⟩
      obtain ⟨e1, e2⟩ := e _ (Nat.le_refl _)
      exact hfin g (fun i hi => hΦ i hi (hk i hi)) a w (by rw [← e1]; exact ha) (by rw [← e2]; exact hw)
    intro fuel
    induction fuel with
    | zero =>
      intro listed g a w hs hcnt hcl hΦ ha hw
      have h0 := hcnt 0 (by omega)
      have hk : ∀ k, k < ops.length → listed.getD k false = true := fun k hk => by
        have := List.countP_eq_zero.1 (Nat.le_zero.1 h0) k (List.mem_range.2 hk)
        simpa using this
      have hr : Region.ready .any ops.toArray listed = [] := by
        apply List.eq_nil_iff_forall_not_mem.2
        intro i hi
        rw [mem_ready] at hi
        obtain ⟨h1, o, ho, _⟩ := hi
        have hi' : i < ops.length := by
          have := (Array.getElem?_eq_some_iff.1 ho).1
          simpa using this
        rw [hgetD listed hs i hi', hk i hi'] at h1
        cases h1
      exact ⟨hr, hdone listed g a w hs hΦ ha hw hr⟩
    | succ fuel ih =>
      intro listed g a w hs hcnt hcl hΦ ha hw
      refine ⟨fun hr => hdone listed g a w hs hΦ ha hw hr, fun i hi => ?_⟩
      rw [mem_ready] at hi
      obtain ⟨h1, o, ho, he⟩ := hi
      have hi' : i < ops.length := by
        have := (Array.getElem?_eq_some_iff.1 ho).1
        simpa using this
      rw [hgetD listed hs i hi'] at h1
      have ho' : ops[i]? = some o := by simpa using ho
      have hedge : ∀ k ∈ edgesOf ops i, listed.getD k false = true := fun k hk => by
        unfold edgesOf at hk
        rw [ho'] at hk
        obtain ⟨e, he1, rfl⟩ := List.mem_map.1 hk
        obtain ⟨he2, he3⟩ := List.mem_filter.1 he1
        exact he e (by simpa using he2) he3
      have hpreD : ∀ k ∈ S.pre i, listed.getD k false = true := fun k hk => by
        obtain ⟨_, e | ⟨j, hj, e⟩⟩ := hpre i hi' k hk
        · exact hedge k e
        · exact hcl j (by have := hback i hi' j hj; omega) (hedge j hj) k e
      have hafter : ∀ k', k' < ops.length → i ∈ S.pre k' → listed.getD k' false = false := fun k' hk' hm => by
        cases hd : listed.getD k' false with
        | false => rfl
        | true => rw [hcl k' hk' hd i hm] at h1; cases h1
      -- the views
      have hvs : ∀ l, (∀ p ∈ l, p ∈ S.rs i) → SubS (vS S s0 g l) (stS S g (fun k => listed.getD k false) s0 ops.length) := by
        intro l
        induction l with
        | nil => intro _; exact trivial
        | cons p l ihl =>
          intro hl
          obtain ⟨x, src⟩ := p
          have hx := hrs i hi' x src (hl _ (by simp))
          rw [vS_cons]
          refine ⟨?_, ihl fun q hq => hl q (by simp [hq])⟩
          cases src with
          | some k =>
            simp only [] at hx ⊢
            obtain ⟨x1, x2, x3⟩ := hx
            have hki := (hpre i hi' k x1).1
            refine stS_last x2 (hpreD k x1) _ (by omega) fun k' hlt hk' hd hds => ?_
            rcases x3 k' hk' hds with e | e | e
            · omega
            · subst e; rw [h1] at hd; cases hd
            · rw [hafter k' hk' e] at hd; cases hd
          | none =>
            simp only [] at hx ⊢
            obtain ⟨x1, x3⟩ := hx
            obtain ⟨v, hv⟩ := Option.isSome_iff_exists.1 x1
            rw [hv]
            simp only []
            rw [← hv]
            refine stS_none _ fun k' hk' hd hds => ?_
            rcases x3 k' hk' hds with e | e
            · subst e; rw [h1] at hd; cases hd
            · rw [hafter k' hk' e] at hd; cases hd
      have hvh : ∀ l, (∀ p ∈ l, p ∈ S.rh i) → SubH (vH S h0 g l) (stH S g (fun k => listed.getD k false) h0 ops.length) := by
        intro l
        induction l with
        | nil => intro _; exact trivial
        | cons p l ihl =>
          intro hl
          obtain ⟨x, src⟩ := p
          have hx := hrhc i hi' x src (hl _ (by simp))
          rw [vH_cons]
          refine ⟨?_, ihl fun q hq => hl q (by simp [hq])⟩
          cases src with
          | some k =>
            simp only [] at hx ⊢
            obtain ⟨x1, x3⟩ := hx
            have hki := (hpre i hi' k x1).1
            obtain ⟨C, hC⟩ := Option.isSome_iff_exists.1 (hrh i g x k hi' (hl _ (by simp)))
            rw [hC]
            refine stH_last hC (hpreD k x1) _ (by omega) fun k' hlt hk' hd => ?_
            by_cases hm : x ∈ S.ids k'
            · rcases x3 k' hk' hm with e | e | e
              · omega
              · subst e; rw [h1] at hd; cases hd
              · rw [hafter k' hk' e] at hd; cases hd
            · exact hkeys k' g x hk' hm
          | none =>
            simp only [] at hx ⊢
            obtain ⟨x1, x3⟩ := hx
            obtain ⟨v, hv⟩ := Option.isSome_iff_exists.1 x1
            rw [hv]
            simp only []
            rw [← hv]
            refine stH_none _ fun k' hk' hd => ?_
            by_cases hm : x ∈ S.ids k'
            · rcases x3 k' hk' hm with e | e
              · subst e; rw [h1] at hd; cases hd
              · rw [hafter k' hk' e] at hd; cases hd
            · exact hkeys k' g x hk' hm
      refine wpOp_false (hop i hi' g (fun k hk => hΦ k (by have := (hpre i hi' k (memB_iff.1 hk)).1; omega) (hpreD k (memB_iff.1 hk))) _ _ (hvs _ fun _ h => h) (hvh _ fun _ h => h) a w ha hw) ?_
      rintro a' w' ⟨x, hx, rfl, hw'⟩
      have hlist : ∀ k, (listed.setIfInBounds i true).getD k false = if k = i then true else listed.getD k false := fun k => by
        by_cases e : k = i
        · subst e; simp [hs, hi']
        · rw [getD_set_ne false (Ne.symm e), if_neg e]
      have hgk : ∀ k, k < ops.length → listed.getD k false = true → S.v k (upd g i x) = S.v k g ∧ S.u k (upd g i x) = S.u k g := fun k hk hd => v_congr fun j hj => by
        refine upd_ne g x fun e => ?_
        subst e
        rcases hj with e | e
        · subst e; rw [h1] at hd; cases hd
        · rw [hafter k hk e] at hd; cases hd
      -- only those below the region's length matter
      have hadd := st_add (S := S) (g := g) (g' := upd g i x) (D := fun k => listed.getD k false && decide (k < ops.length)) (s0 := s0) (h0 := h0) (i := i) (by simp [h1])
        (fun k hk => by simp only [Bool.and_eq_true, decide_eq_true_eq] at hk; exact hgk k hk.2 hk.1) ops.length (fun k hlt hk hd => by
          simp only [Bool.and_eq_true, decide_eq_true_eq] at hd
          rcases hww k hk i hlt with e | ⟨e1, e2⟩
          · rw [hafter k hk e] at hd; cases hd.1
          · refine ⟨e1, fun y => ?_⟩
            by_cases hm : y ∈ S.ids i
            · exact .inr (hkeys k g y hk (e2 y hm))
            · exact .inl (hkeys i _ y hi' hm))
      have hDeq : ∀ (g : Nat → Gh) (D D' : Nat → Bool) m, (∀ k, k < m → D k = D' k) → stS S g D s0 m = stS S g D' s0 m ∧ stH S g D h0 m = stH S g D' h0 m := by
        intro g D D' m
        induction m with
        | zero => intro _; exact ⟨rfl, rfl⟩
        | succ m ihm =>
          intro h
          obtain ⟨e1, e2⟩ := ihm fun k hk => h k (by omega)
          unfold stS stH
          rw [h m (by omega), e1, e2]
          exact ⟨rfl, rfl⟩
      obtain ⟨q1, q2⟩ := hDeq g (fun k => listed.getD k false && decide (k < ops.length)) (fun k => listed.getD k false) ops.length (fun k hk => by simp [hk])
      obtain ⟨q3, q4⟩ := hDeq (upd g i x) (fun k => if k = i then true else (listed.getD k false && decide (k < ops.length))) (fun k => (listed.setIfInBounds i true).getD k false) ops.length (fun k hk => by rw [hlist k]; simp [hk])
      obtain ⟨f1, f2⟩ := hadd.2 hi'
      simp only [q1, q2] at f1 f2
      rw [q3] at f1
      rw [q4] at f2
      refine ih (listed.setIfInBounds i true) (upd g i x) _ _ (by simpa using hs) (fun m hm => ?_) (fun k hk hd j hj => ?_) (fun k hk hd => ?_) ?_ ?_
      · have hc := hcnt m hm
        have hlt : (List.range ops.length).countP (fun k => !(listed.setIfInBounds i true).getD k false) < (List.range ops.length).countP (fun k => !listed.getD k false) := by
          have e : ∀ l : List Nat, l.Nodup → i ∈ l → l.countP (fun k => !(listed.setIfInBounds i true).getD k false) + 1 = l.countP (fun k => !listed.getD k false) := by
            intro l
            induction l with
            | nil => intro _ h; cases h
            | cons k l ihl =>
              intro hn hm
              rw [List.nodup_cons] at hn
              rw [List.countP_cons, List.countP_cons]
              by_cases e : k = i
              · subst e
                have : l.countP (fun j => !(listed.setIfInBounds k true).getD j false) = l.countP (fun j => !listed.getD j false) := by
                  apply List.countP_congr
                  intro j hj
                  rw [hlist j, if_neg (fun e => hn.1 (by rw [← e]; exact hj))]
                rw [this, hlist k, h1]
                simp
              · have := ihl hn.2 (by simpa [Ne.symm e] using hm)
                rw [hlist k, if_neg e]
                omega
          have := e (List.range ops.length) List.nodup_range (List.mem_range.2 hi')
          omega
        omega
      · rw [hlist j]
        split
        · rfl
        · rw [hlist k] at hd
          split at hd
          · rename_i e; subst e; exact hpreD j hj
          · exact hcl k hk hd j hj
      · rw [hlist k] at hd
        split at hd
        · rename_i e; subst e; rw [upd_same]; exact hx
        · rename_i e; rw [upd_ne g x e]; exact hΦ k hk hd
      · cases hs' : S.dst i with
        | none =>
          rw [hs'] at f1
          simp only [] at f1
          exact ⟨ha.size, ha.defers, fun j v hv => ha.val j v (by rw [← f1 j]; exact hv)⟩
        | some d =>
          rw [hs'] at f1
          simp only [] at f1
          have hp := ha.put (d := d) (hbd i hi' d hs') (S.v i (upd g i x))
          exact ⟨hp.size, hp.defers, fun j v hv => hp.val j v (by rw [← f1 j]; exact hv)⟩
      · exact hw'.subg fun j C hj => by rw [← f2 j]; exact hj
  refine main ops.length _ (fun _ => default) a _ (by simp) (fun m hm => ?_) (fun k hk hd => ?_) (fun k hk hd => ?_) ?_ ?_
  · refine Nat.le_trans List.countP_le_length (by simp)
  · simp [hk] at hd
  · simp [hk] at hd
  · have e : ∀ m, m ≤ ops.length → stS S (fun _ => default) (fun k => (Array.replicate ops.length false).getD k false) s0 m = s0 := by
      intro m
      induction m with
      | zero => intro _; rfl
      | succ m ihm => intro hm; unfold stS; rw [ihm (by omega)]; have hz : (Array.replicate ops.length false).getD m false = false := (by unfold Array.getD; split <;> simp); rw [hz]; rfl
    have := e ops.length (Nat.le_refl _)
    simp only [List.size_toArray]
    rw [this]
    exact ha
  · have e : ∀ m, m ≤ ops.length → stH S (fun _ => default) (fun k => (Array.replicate ops.length false).getD k false) h0 m = h0 := by
      intro m
      induction m with
      | zero => intro _; rfl
      | succ m ihm => intro hm; unfold stH; rw [ihm (by omega)]; have hz : (Array.replicate ops.length false).getD m false = false := (by unfold Array.getD; split <;> simp); rw [hz]; rfl
    have := e ops.length (Nat.le_refl _)
    simp only [List.size_toArray]
    rw [this]
    exact hw.drew _

variable {op : Op} {ty : TypeId} {pos : String} {after : Array Edge} {gd : Option (Nat × Bool)} {dst : Option Nat} {ops : List Oper} {S : RSpec} {s0 : Slots} {h0 : Hp}
/-- an operation of a drawn region that only computes -/
theorem loc_det {i : Nat} (ho : ops[i]? = some ⟨dst, op, ty, pos, after, gd⟩) (hd : S.dst i = dst) (hu : ∀ g, S.u i g = []) (hΦ : S.Φ i default)
    (k : ∀ g, (∀ k, memB k (S.pre i) = true → S.Φ k (g k)) → ∀ s h, SubS (vS S s0 g (S.rs i)) s → SubH (vH S h0 g (S.rh i)) h → GOn ops.toArray s gd ∧ Stp P n w0 M op ty s h (S.v i (upd g i default))) : Loc P n w0 M ops S s0 h0 i := by
  intro g hg s h hs hh a w ha hw
  obtain ⟨k1, k2⟩ := k g hg s h hs hh
  unfold wpOp
  have ho' : ops.toArray[i]? = some ⟨dst, op, ty, pos, after, gd⟩ := by simpa using ho
  rw [ho']
  simp only []
  rw [if_pos (GOn.wanted (o := ⟨dst, op, ty, pos, after, gd⟩) k1 ha)]
  refine .inl ?_
  unfold Oper.wp
  have h1 : (execOp a.eval ⟨dst, op, ty, pos, after, gd⟩).run P w = .ok (.value (S.v i (upd g i default))) w := k2 a w ha hw
  rw [h1, Oper.upon_value]
  exact ⟨default, hΦ, by rw [hd], by rw [hu]; exact hw⟩
theorem loc_off {i : Nat} (ho : ops[i]? = some ⟨dst, op, ty, pos, after, gd⟩) (hd : S.dst i = dst) (hu : ∀ g, S.u i g = []) (hv : ∀ g, S.v i g = undef) (hΦ : S.Φ i default)
    (k : ∀ g, (∀ k, memB k (S.pre i) = true → S.Φ k (g k)) → ∀ s h, SubS (vS S s0 g (S.rs i)) s → SubH (vH S h0 g (S.rh i)) h → GOff ops.toArray s gd) : Loc P n w0 M ops S s0 h0 i := by
  intro g hg s h hs hh a w ha hw
  have k1 := k g hg s h hs hh
  unfold wpOp
  have ho' : ops.toArray[i]? = some ⟨dst, op, ty, pos, after, gd⟩ := by simpa using ho
  rw [ho']
  simp only []
  rw [if_neg (by rw [GOff.wanted (o := ⟨dst, op, ty, pos, after, gd⟩) k1 ha]; simp)]
  exact ⟨default, hΦ, by rw [hd, hv], by rw [hu]; exact hw⟩
theorem loc_eff {i : Nat} {Ψ : (Nat → Gh) → Value → Hp → Prop} (ho : ops[i]? = some ⟨dst, op, ty, pos, after, gd⟩) (hd : S.dst i = dst)
    (k : ∀ g, (∀ k, memB k (S.pre i) = true → S.Φ k (g k)) → ∀ s h, SubS (vS S s0 g (S.rs i)) s → SubH (vH S h0 g (S.rh i)) h → GOn ops.toArray s gd ∧ StpU P n w0 M op ty s h (Ψ g))
    (kx : ∀ g v U, Ψ g v U → ∃ x, S.Φ i x ∧ (dst = none ∨ v = S.v i (upd g i x)) ∧ U = S.u i (upd g i x)) : Loc P n w0 M ops S s0 h0 i := by
  intro g hg s h hs hh a w ha hw
  obtain ⟨k1, k2⟩ := k g hg s h hs hh
  unfold wpOp
  have ho' : ops.toArray[i]? = some ⟨dst, op, ty, pos, after, gd⟩ := by simpa using ho
  rw [ho']
  simp only []
  rw [if_pos (GOn.wanted (o := ⟨dst, op, ty, pos, after, gd⟩) k1 ha)]
  refine .inl (oper_wp_false (k2 a w ha hw _ rfl rfl) ?_)
  rintro a' w' ⟨v, U, hv, rfl, hs'⟩
  obtain ⟨x, x1, x2, x3⟩ := kx g v U hv
  refine ⟨x, x1, ?_, by rw [← x3]; exact hs'⟩
  rcases x2 with e | e
  · subst e; rw [hd]; rfl
  · rw [hd, ← e]
end
end Go.Proofs.YtciliaiocakdkaaDoor
