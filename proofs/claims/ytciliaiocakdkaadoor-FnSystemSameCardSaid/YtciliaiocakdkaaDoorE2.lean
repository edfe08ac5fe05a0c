/- The engine, second part: the operations, one law each. -/
import Derived.Test.YtciliaiocakdkaaDoorE1
set_option linter.unusedSimpArgs false
set_option linter.unusedVariables false
namespace Go.Proofs.YtciliaiocakdkaaDoor
open Go.RowKit

/-! ### what a pure function may fail at -/
def ck (n : Int) : Option Int := if -9223372036854775808 ≤ n ∧ n ≤ 9223372036854775807 then some n else none
def ckU (n : Int) : Option Int := if 0 ≤ n ∧ n ≤ 18446744073709551615 then some n else none
def idx {α : Type} (l : List α) (i : Int) : Option α := if 0 ≤ i then l[i.toNat]? else none
def quoO (a b : Int) : Option Int := if b = 0 then none else ck (a.tdiv b)
def remO (a b : Int) : Option Int := if b = 0 then none else some (a.tmod b)
def quoU (a b : Int) : Option Int := if b = 0 then none else ckU (a.tdiv b)
def cnt {α : Type} (l : List α) : Option (List α) := if l.length ≤ 4294967296 then some l else none

theorem ck_some {n m : Int} (h : ck n = some m) : m = n ∧ -9223372036854775808 ≤ n ∧ n ≤ 9223372036854775807 := by
  unfold ck at h; split at h
  · rename_i g; simp at h; exact ⟨h.symm, g⟩
  · cases h
theorem ck_in {n : Int} (h : -9223372036854775808 ≤ n ∧ n ≤ 9223372036854775807) : ck n = some n := by unfold ck; rw [if_pos h]
theorem ckU_some {n m : Int} (h : ckU n = some m) : m = n ∧ 0 ≤ n ∧ n ≤ 18446744073709551615 := by
  unfold ckU at h; split at h
  · rename_i g; simp at h; exact ⟨h.symm, g⟩
  · cases h
theorem ckU_in {n : Int} (h : 0 ≤ n ∧ n ≤ 18446744073709551615) : ckU n = some n := by unfold ckU; rw [if_pos h]
theorem idx_some {α : Type} {l : List α} {i : Int} {x : α} (h : idx l i = some x) : 0 ≤ i ∧ i.toNat < l.length ∧ l[i.toNat]? = some x := by
  unfold idx at h; split at h
  · exact ⟨‹_›, (List.getElem?_eq_some_iff.1 h).1, h⟩
  · cases h
theorem idx_nat {α : Type} {l : List α} {i : Nat} (h : i < l.length) : idx l (i : Int) = some l[i] := by simp [idx, h]
theorem cnt_some {α : Type} {l m : List α} (h : cnt l = some m) : m = l ∧ l.length ≤ 4294967296 := by
  unfold cnt at h; split at h
  · simp at h; exact ⟨h.symm, ‹_›⟩
  · cases h
theorem cnt_in {α : Type} {l : List α} (h : l.length ≤ 4294967296) : cnt l = some l := by unfold cnt; rw [if_pos h]
theorem bind_some {α β : Type} {o : Option α} {f : α → Option β} {r : β} (h : Option.bind o f = some r) : ∃ x, o = some x ∧ f x = some r := by
  cases o with
  | none => cases h
  | some x => exact ⟨x, rfl, h⟩
theorem cond_t {α : Type} {b : Bool} {x y r : α} (h : cond b x y = r) (e : b = true) : x = r := by subst e; exact h
theorem cond_f {α : Type} {b : Bool} {x y r : α} (h : cond b x y = r) (e : b = false) : y = r := by subst e; exact h

/-! ### several operands -/
def sevs (s : Slots) : List Operand → Option (List Value)
  | [] => some []
  | x :: xs => match sev s x, sevs s xs with
    | some v, some vs => some (v :: vs)
    | _, _ => none
theorem sevs_map {n : Nat} {a : Act} {s : Slots} (ha : Has n a s) : ∀ {xs : List Operand} {vs : List Value}, sevs s xs = some vs → xs.map a.eval = vs
  | [], vs, h => by simp [sevs] at h; simp [h]
  | x :: xs, vs, h => by
    unfold sevs at h
    cases h1 : sev s x with
    | none => simp [h1] at h
    | some v =>
      cases h2 : sevs s xs with
      | none => simp [h1, h2] at h
      | some vs' =>
        simp [h1, h2] at h
        subst h
        simp [ha.ev h1, sevs_map ha h2]
def sevp (s : Slots) : List (Nat × Operand) → Option (List (Nat × Value))
  | [] => some []
  | (i, x) :: xs => match sev s x, sevp s xs with
    | some v, some vs => some ((i, v) :: vs)
    | _, _ => none
theorem sevp_map {n : Nat} {a : Act} {s : Slots} (ha : Has n a s) : ∀ {xs : List (Nat × Operand)} {vs : List (Nat × Value)}, sevp s xs = some vs → xs.map (fun (i, x) => (i, a.eval x)) = vs
  | [], vs, h => by simp [sevp] at h; simp [h]
  | (i, x) :: xs, vs, h => by
    unfold sevp at h
    cases h1 : sev s x with
    | none => simp [h1] at h
    | some v =>
      cases h2 : sevp s xs with
      | none => simp [h1, h2] at h
      | some vs' =>
        simp [h1, h2] at h
        subst h
        simp [ha.ev h1, sevp_map ha h2]

/-! ### steps -/
def exo (op : Op) (ty : TypeId) : Oper := ⟨none, op, ty, "", #[], none⟩

section
variable {P : Program} {n : Nat} {w0 : World} {M : List Nat}

/-- an operation that only computes: its value, in whatever world that meets the state -/
def Stp (P : Program) (n : Nat) (w0 : World) (M : List Nat) (op : Op) (ty : TypeId) (s : Slots) (h : Hp) (v : Value) : Prop :=
  ∀ a w, Has n a s → Sat w0 M w h → (execOp a.eval (exo op ty)).run P w = .ok (.value v) w
/-- an operation that changes memory, or makes some -/
def StpU (P : Program) (n : Nat) (w0 : World) (M : List Nat) (op : Op) (ty : TypeId) (s : Slots) (h : Hp) (Ψ : Value → Hp → Prop) : Prop :=
  ∀ a w, Has n a s → Sat w0 M w h → ∀ o : Oper, o.op = op → o.type = ty → o.wp P a w (fun a' w' => ∃ v U, Ψ v U ∧ a' = a.put o.dst v ∧ Sat w0 M w' (U ++ h)) (fun _ _ _ => False)

theorem oper_wp_false {o : Oper} {a : Act} {w : World} {K K' : Act → World → Prop} {Q : Exit → Act → World → Prop} (hh : o.wp P a w K (fun _ _ _ => False)) (h : ∀ a w, K a w → K' a w) : o.wp P a w K' Q := by
  unfold Oper.wp at *
  generalize (execOp a.eval o).run P w = r at *
  cases r with
  | ok m w' =>
    cases m <;> simp only [Oper.upon] at hh ⊢ <;>
      first
        | exact h _ _ hh
        | exact Calls.mono hh (fun e w'' he => by cases e <;> first | exact h _ _ he | exact he.elim | (obtain ⟨_, _, f⟩ := he; exact f.elim))
        | exact Rows.mono hh (fun _ _ he => h _ _ he)
  | halt x w' => cases x <;> simp only [Oper.upon] at hh

/-- whether a guard lets the operation run -/
def gval (L : Array Oper) (s : Slots) (j : Nat) : Option Bool :=
  match (L[j]?).bind (·.dst) with
  | some d => match aget s d with
    | some (.bool b) => some b
    | _ => none
  | none => none
theorem gval_yielded {L : Array Oper} {s : Slots} {j : Nat} {b : Bool} {a : Act} (h : gval L s j = some b) (ha : Has n a s) : yielded L a.tmps j = some b := by
  unfold gval at h
  unfold yielded
  cases hd : (L[j]?).bind (·.dst) with
  | none => rw [hd] at h; cases h
  | some d =>
    rw [hd] at h
    simp only [] at h
    cases hv : aget s d with
    | none => rw [hv] at h; cases h
    | some v =>
      rw [hv] at h
      cases v <;> simp only [] at h <;> try cases h
      simp [ha.val d _ hv]

inductive GOn (L : Array Oper) (s : Slots) : Option (Nat × Bool) → Prop where
  | none : GOn L s none
  | some {j : Nat} {want e : Bool} (h : gval L s j = some e) (he : e = want) : GOn L s (some (j, want))
inductive GOff (L : Array Oper) (s : Slots) : Option (Nat × Bool) → Prop where
  | dead {j d : Nat} {want : Bool} (hd : (L[j]?).bind (·.dst) = some d) (hv : aget s d = some undef) : GOff L s (some (j, want))
  | some {j : Nat} {want e : Bool} (h : gval L s j = some e) (he : e = !want) : GOff L s (some (j, want))

theorem GOn.wanted {L : Array Oper} {s : Slots} {o : Oper} {a : Act} (g : GOn L s o.guard) (ha : Has n a s) : Region.wanted o (yielded L a.tmps) = true := by
  unfold Region.wanted
  generalize hg : o.guard = gd at g
  cases g with
  | none => rfl
  | some h he => simp only [gval_yielded h ha, he]; simp
theorem GOff.wanted {L : Array Oper} {s : Slots} {o : Oper} {a : Act} (g : GOff L s o.guard) (ha : Has n a s) : Region.wanted o (yielded L a.tmps) = false := by
  unfold Region.wanted
  generalize hg : o.guard = gd at g
  cases g with
  | some h he => simp only [gval_yielded h ha, he]; simp
  | dead hd hv =>
    unfold yielded
    simp only [hd, Option.bind_some, ha.val _ _ hv, undef]
    rfl

variable {Q : Exit → Act → World → Prop} {s : Slots} {h : Hp} {L : Array Oper} {rest : List Oper} {op : Op} {ty : TypeId} {pos : String} {after : Array Edge} {gd : Option (Nat × Bool)} {d : Nat} {v : Value} {x y z : Operand}

theorem cw_region {id : Nat} {l : List Oper} (k : OW P n w0 M l.toArray Q l s h) : CW P n w0 M (.region id l.toArray false) Q s h := fun a w ha hw => wp_region_lit (k a w ha hw)
theorem ow_nil (k : KW n w0 M Q .normal s h) : OW P n w0 M L Q [] s h := k
theorem ow_det (g : GOn L s gd) (st : Stp P n w0 M op ty s h v) (hd : Nat.blt d n = true) (k : OW P n w0 M L Q rest ((d, v) :: s) h) : OW P n w0 M L Q (⟨some d, op, ty, pos, after, gd⟩ :: rest) s h := by
  intro a w ha hw
  unfold wpList
  rw [if_pos (GOn.wanted (o := ⟨some d, op, ty, pos, after, gd⟩) g ha)]
  refine .inl ?_
  unfold Oper.wp
  have h1 : (execOp a.eval ⟨some d, op, ty, pos, after, gd⟩).run P w = .ok (.value v) w := st a w ha hw
  rw [h1, Oper.upon_value]
  exact k _ _ (ha.put hd v) hw
theorem ow_off (g : GOff L s gd) (hd : Nat.blt d n = true) (k : OW P n w0 M L Q rest ((d, undef) :: s) h) : OW P n w0 M L Q (⟨some d, op, ty, pos, after, gd⟩ :: rest) s h := by
  intro a w ha hw
  unfold wpList
  rw [if_neg (by rw [GOff.wanted (o := ⟨some d, op, ty, pos, after, gd⟩) g ha]; simp)]
  exact k _ _ (ha.put hd undef) hw
theorem ow_eff {Ψ : Value → Hp → Prop} (g : GOn L s gd) (st : StpU P n w0 M op ty s h Ψ) (hd : Nat.blt d n = true) (k : ∀ v U, Ψ v U → OW P n w0 M L Q rest ((d, v) :: s) (U ++ h)) : OW P n w0 M L Q (⟨some d, op, ty, pos, after, gd⟩ :: rest) s h := by
  intro a w ha hw
  unfold wpList
  rw [if_pos (GOn.wanted (o := ⟨some d, op, ty, pos, after, gd⟩) g ha)]
  refine .inl (oper_wp_false (st a w ha hw ⟨some d, op, ty, pos, after, gd⟩ rfl rfl) ?_)
  rintro a' w' ⟨v, U, hv, rfl, hs⟩
  exact k v U hv _ _ (ha.put hd v) hs
theorem ow_eff0 {Ψ : Value → Hp → Prop} (g : GOn L s gd) (st : StpU P n w0 M op ty s h Ψ) (k : ∀ v U, Ψ v U → OW P n w0 M L Q rest s (U ++ h)) : OW P n w0 M L Q (⟨none, op, ty, pos, after, gd⟩ :: rest) s h := by
  intro a w ha hw
  unfold wpList
  rw [if_pos (GOn.wanted (o := ⟨none, op, ty, pos, after, gd⟩) g ha)]
  refine .inl (oper_wp_false (st a w ha hw ⟨none, op, ty, pos, after, gd⟩ rfl rfl) ?_)
  rintro a' w' ⟨v, U, hv, rfl, hs⟩
  exact k v U hv _ _ ha hs
theorem ow_sub {s' : Slots} {h' : Hp} {ops : List Oper} (hs : SubS s' s) (hh : SubH h' h) (k : OW P n w0 M L Q ops s' h') : OW P n w0 M L Q ops s h := fun a w ha hw => k a w (ha.sub hs) (hw.sub hh)

/-! ### operations that only compute -/
theorem stp_move (hx : sev s x = some v) : Stp P n w0 M (.move x) ty s h v := fun a w ha hw => by simp [execOp, exo, ha.ev hx]
theorem stp_assign (hx : sev s x = some v) : Stp P n w0 M (.assign x) ty s h v := fun a w ha hw => by simp [execOp, exo, ha.ev hx]
theorem stp_pick_t {b : Bool} {u : Value} (hx : sev s x = some (.bool b)) (hb : b = true) (hy : sev s y = some u) : Stp P n w0 M (.pick x y z) ty s h u := fun a w ha hw => by
  subst hb; simp [execOp, exo, ha.ev hx, ha.ev hy, asBool]
theorem stp_pick_f {b : Bool} {u : Value} (hx : sev s x = some (.bool b)) (hb : b = false) (hz : sev s z = some u) : Stp P n w0 M (.pick x y z) ty s h u := fun a w ha hw => by
  subst hb; simp [execOp, exo, ha.ev hx, ha.ev hz, asBool]
theorem stp_pick_tB {b c u : Bool} (hx : sev s x = some (.bool b)) (hb : b = true) (hy : sev s y = some (.bool c)) (e : c = u) : Stp P n w0 M (.pick x y z) ty s h (.bool u) := by subst e; exact stp_pick_t hx hb hy
theorem stp_pick_fB {b c u : Bool} (hx : sev s x = some (.bool b)) (hb : b = false) (hz : sev s z = some (.bool c)) (e : c = u) : Stp P n w0 M (.pick x y z) ty s h (.bool u) := by subst e; exact stp_pick_f hx hb hz
theorem gval_of {j d : Nat} {b : Bool} (hd : (L[j]?).bind (·.dst) = some d) (hv : sev s (.tmp d) = some (.bool b)) : gval L s j = some b := by
  have hv' : aget s d = some (.bool b) := hv
  unfold gval; rw [hd]; simp only []; rw [hv']
theorem stp_not {b : Bool} {t : TypeId} (hx : sev s x = some (.bool b)) : Stp P n w0 M (.unOp .not t x) ty s h (.bool !b) := fun a w ha hw => by simp [execOp, exo, ha.ev hx, Op.unary]
theorem stp_extract {vs : Array Value} {i : Nat} (hx : sev s x = some (.tuple vs)) (hi : vs[i]? = some v) : Stp P n w0 M (.extract x i) ty s h v := fun a w ha hw => by simp [execOp, exo, ha.ev hx, Instr.extract, hi]
theorem stp_nilCheck {b o : Nat} (hx : sev s x = some (.pointer (some ⟨b, o, none⟩))) : Stp P n w0 M (.nilCheck x) ty s h (.pointer (some ⟨b, o, none⟩)) := fun a w ha hw => by simp [execOp, exo, ha.ev hx]
theorem stp_nilCheckF {f' : FuncId} {fi ca : Array Value} (hx : sev s x = some (.func (.func f') fi ca)) : Stp P n w0 M (.nilCheck x) ty s h (.func (.func f') fi ca) := fun a w ha hw => by simp [execOp, exo, ha.ev hx]

section
variable {t t' : TypeId} {k : IntKind} {p q : Int}
theorem stp_eql (hx : sev s x = some (.int k p)) (hy : sev s y = some (.int k q)) : Stp P n w0 M (.binOp .eql t x y t') ty s h (.bool (p == q)) := fun a w ha hw => by simp [execOp, exo, ha.ev hx, ha.ev hy, eqGuard, binOp, Op.intCmp]
theorem stp_neq (hx : sev s x = some (.int k p)) (hy : sev s y = some (.int k q)) : Stp P n w0 M (.binOp .neq t x y t') ty s h (.bool (p != q)) := fun a w ha hw => by simp [execOp, exo, ha.ev hx, ha.ev hy, eqGuard, binOp, Op.intCmp]
theorem stp_lss (hx : sev s x = some (.int k p)) (hy : sev s y = some (.int k q)) : Stp P n w0 M (.binOp .lss t x y t') ty s h (.bool (decide (p < q))) := fun a w ha hw => by simp [execOp, exo, ha.ev hx, ha.ev hy, eqGuard, binOp, Op.intCmp]
theorem stp_leq (hx : sev s x = some (.int k p)) (hy : sev s y = some (.int k q)) : Stp P n w0 M (.binOp .leq t x y t') ty s h (.bool (decide (p ≤ q))) := fun a w ha hw => by simp [execOp, exo, ha.ev hx, ha.ev hy, eqGuard, binOp, Op.intCmp]
theorem stp_gtr (hx : sev s x = some (.int k p)) (hy : sev s y = some (.int k q)) : Stp P n w0 M (.binOp .gtr t x y t') ty s h (.bool (decide (q < p))) := fun a w ha hw => by simp [execOp, exo, ha.ev hx, ha.ev hy, eqGuard, binOp, Op.intCmp]
theorem stp_geq (hx : sev s x = some (.int k p)) (hy : sev s y = some (.int k q)) : Stp P n w0 M (.binOp .geq t x y t') ty s h (.bool (decide (q ≤ p))) := fun a w ha hw => by simp [execOp, exo, ha.ev hx, ha.ev hy, eqGuard, binOp, Op.intCmp]
theorem wrap_i64_ck {e r : Int} (h : ck e = some r) : IntKind.i64.wrap e = r := by
  obtain ⟨rfl, b⟩ := ck_some h
  rw [IntWalk.i64_left, IntWalk.wrap64_in _ b]
theorem wrap_u64_ck {e r : Int} (h : ckU e = some r) : IntKind.u64.wrap e = r := by
  obtain ⟨rfl, b⟩ := ckU_some h
  exact IntWalk.u64_in _ b
theorem stp_add {r : Int} (hx : sev s x = some (.int .i64 p)) (hy : sev s y = some (.int .i64 q)) (hr : ck (p + q) = some r) : Stp P n w0 M (.binOp .add t x y t') ty s h (.int .i64 r) := fun a w ha hw => by
  simp [execOp, exo, ha.ev hx, ha.ev hy, eqGuard, binOp, Op.intArith, wrap_i64_ck hr]
theorem stp_sub {r : Int} (hx : sev s x = some (.int .i64 p)) (hy : sev s y = some (.int .i64 q)) (hr : ck (p - q) = some r) : Stp P n w0 M (.binOp .sub t x y t') ty s h (.int .i64 r) := fun a w ha hw => by
  simp [execOp, exo, ha.ev hx, ha.ev hy, eqGuard, binOp, Op.intArith, wrap_i64_ck hr]
theorem stp_mul {r : Int} (hx : sev s x = some (.int .i64 p)) (hy : sev s y = some (.int .i64 q)) (hr : ck (p * q) = some r) : Stp P n w0 M (.binOp .mul t x y t') ty s h (.int .i64 r) := fun a w ha hw => by
  simp [execOp, exo, ha.ev hx, ha.ev hy, eqGuard, binOp, Op.intArith, wrap_i64_ck hr]
theorem stp_mulU {r : Int} (hx : sev s x = some (.int .u64 p)) (hy : sev s y = some (.int .u64 q)) (hr : ckU (p * q) = some r) : Stp P n w0 M (.binOp .mul t x y t') ty s h (.int .u64 r) := fun a w ha hw => by
  simp [execOp, exo, ha.ev hx, ha.ev hy, eqGuard, binOp, Op.intArith, wrap_u64_ck hr]
theorem stp_quo {r : Int} (hx : sev s x = some (.int .i64 p)) (hy : sev s y = some (.int .i64 q)) (hr : quoO p q = some r) : Stp P n w0 M (.binOp .quo t x y t') ty s h (.int .i64 r) := fun a w ha hw => by
  unfold quoO at hr
  split at hr
  · cases hr
  · simp [execOp, exo, ha.ev hx, ha.ev hy, eqGuard, binOp, Op.intDiv, wrap_i64_ck hr, *]
theorem stp_rem {r : Int} (hx : sev s x = some (.int k p)) (hy : sev s y = some (.int k q)) (hr : remO p q = some r) : Stp P n w0 M (.binOp .rem t x y t') ty s h (.int k r) := fun a w ha hw => by
  unfold remO at hr
  split at hr
  · cases hr
  · simp only [Option.some.injEq] at hr
    subst hr
    simp [execOp, exo, ha.ev hx, ha.ev hy, eqGuard, binOp, Op.intDiv, *]
def bXor (p q : Int) : Int := IntKind.i64.wrap (BitVec.ofInt 64 p ^^^ BitVec.ofInt 64 q).toNat
def bAnd (p q : Int) : Int := IntKind.i64.wrap (BitVec.ofInt 64 p &&& BitVec.ofInt 64 q).toNat
def bAndNot (p q : Int) : Int := IntKind.i64.wrap (BitVec.ofInt 64 p &&& ~~~ BitVec.ofInt 64 q).toNat
theorem stp_xor (hx : sev s x = some (.int .i64 p)) (hy : sev s y = some (.int .i64 q)) : Stp P n w0 M (.binOp .xor t x y t') ty s h (.int .i64 (bXor p q)) := fun a w ha hw => by
  simp only [execOp, exo, ha.ev hx, ha.ev hy, eqGuard, binOp, Op.intBits]; rfl
theorem stp_and (hx : sev s x = some (.int .i64 p)) (hy : sev s y = some (.int .i64 q)) : Stp P n w0 M (.binOp .and t x y t') ty s h (.int .i64 (bAnd p q)) := fun a w ha hw => by
  simp only [execOp, exo, ha.ev hx, ha.ev hy, eqGuard, binOp, Op.intBits]; rfl
theorem stp_andNot (hx : sev s x = some (.int .i64 p)) (hy : sev s y = some (.int .i64 q)) : Stp P n w0 M (.binOp .andNot t x y t') ty s h (.int .i64 (bAndNot p q)) := fun a w ha hw => by
  simp only [execOp, exo, ha.ev hx, ha.ev hy, eqGuard, binOp, Op.intBits]; rfl
theorem stp_shr {k2 : IntKind} {c d : Int} (hd : c < 0 ∨ (2:Int) ^ (min c.toNat k.bits) ≠ d → False) (hx : sev s x = some (.int k p)) (hy : sev s y = some (.int k2 c)) : Stp P n w0 M (.binOp .shr t x y t') ty s h (.int k (p / d)) := fun a w ha hw => by
  have h1 : ¬ c < 0 := fun e => hd (.inl e)
  have h2 : (2:Int) ^ (min c.toNat k.bits) = d := Classical.byContradiction fun e => hd (.inr e)
  have h3 : 0 ≤ d := by rw [← h2]; exact Int.pow_nonneg (by decide)
  simp only [execOp, exo, ha.ev hx, ha.ev hy, eqGuard, binOp, Op.shift, h1, if_false, h2]
  rw [Int.fdiv_eq_ediv_of_nonneg _ h3]
  rfl
theorem stp_neg {r : Int} (hx : sev s x = some (.int .i64 p)) (hr : ck (0 - p) = some r) : Stp P n w0 M (.unOp .neg t x) ty s h (.int .i64 r) := fun a w ha hw => by
  simp only [execOp, exo, ha.ev hx, Op.unary, Op.intArith, wrap_i64_ck hr]; rfl
theorem stp_convI {src dst : TypeId} {k' : IntKind} {dd : TypeDesc} (hs : P.underlying src = some dd) (hd : P.underlying dst = some (.int .i64)) (hx : sev s x = some (.int k' p)) {r : Int} (hr : ck p = some r) : Stp P n w0 M (.convert src dst x) ty s h (.int .i64 r) := fun a w ha hw => by
  simp [execOp, exo, ha.ev hx, convert, run_underlying hs, run_underlying hd, Conv.intToInt, wrap_i64_ck hr]
theorem stp_convU {src dst : TypeId} {k' : IntKind} {dd : TypeDesc} (hs : P.underlying src = some dd) (hd : P.underlying dst = some (.int .u64)) (hx : sev s x = some (.int k' p)) {r : Int} (hr : ckU p = some r) : Stp P n w0 M (.convert src dst x) ty s h (.int .u64 r) := fun a w ha hw => by
  simp [execOp, exo, ha.ev hx, convert, run_underlying hs, run_underlying hd, Conv.intToInt, wrap_u64_ck hr]
theorem run_equalB {P : Program} {t : TypeId} (hu : P.underlying t = some .bool) (p q : Bool) (w : World) : (Op.equal t (.bool p) (.bool q)).run P w = .ok (p == q) w := by
  show (Op.equalIn (9999 + 1) t _ _).run P w = _
  generalize 9999 = d
  simp [Op.equalIn, run_underlying hu]
theorem stp_eqlB {p q : Bool} (hu : P.underlying t = some .bool) (hx : sev s x = some (.bool p)) (hy : sev s y = some (.bool q)) : Stp P n w0 M (.binOp .eql t x y t') ty s h (.bool (p == q)) := fun a w ha hw => by
  simp [execOp, exo, ha.ev hx, ha.ev hy, eqGuard, binOp, run_equalB hu]
theorem stp_neqB {p q : Bool} (hu : P.underlying t = some .bool) (hx : sev s x = some (.bool p)) (hy : sev s y = some (.bool q)) : Stp P n w0 M (.binOp .neq t x y t') ty s h (.bool (p != q)) := fun a w ha hw => by
  simp [execOp, exo, ha.ev hx, ha.ev hy, eqGuard, binOp, run_equalB hu, bne]
theorem stp_makeFunc {f : Nat} {xs : Array Operand} {vs : List Value} (hx : sevs s xs.toList = some vs) : Stp P n w0 M (.makeFunc (.func f) #[] xs) ty s h (.func (.func f) #[] vs.toArray) := fun a w ha hw => by
  have : xs.map a.eval = vs.toArray := by
    apply Array.ext'
    rw [Array.toList_map]
    exact sevs_map ha hx
  simp [execOp, exo, Instr.makeFunc, this]
end
end
end Go.Proofs.YtciliaiocakdkaaDoor
