/- The engine, seventh part: short names for the printed texts, tables of a region, sub-slices. -/
import Derived.Test.YtciliaiocakdkaaDoorE6
import Derived.KernelRfl
set_option linter.unusedSimpArgs false
set_option linter.unusedVariables false
set_option linter.unusedSectionVars false
namespace Go.Proofs.YtciliaiocakdkaaDoor
open Go.RowKit
section
variable {P : Program} {n : Nat} {w0 : World} {M : List Nat} {Q : Exit → Act → World → Prop} {s : Slots} {h : Hp} {L : Array Oper} {rest : List Oper} {op : Op} {ty t : TypeId} {pos : String} {after : Array Edge} {d : Nat} {v : Value} {x y z : Operand} {c : Code}

theorem oD (st : Stp P n w0 M op ty s h v) (hd : Nat.blt d n = true) (k : OW P n w0 M L Q rest ((d, v) :: s) h) : OW P n w0 M L Q (⟨some d, op, ty, pos, after, none⟩ :: rest) s h := ow_det .none st hd k
theorem oG {j : Nat} {want e : Bool} (hj : gval L s j = some e) (he : e = want) (st : Stp P n w0 M op ty s h v) (hd : Nat.blt d n = true) (k : OW P n w0 M L Q rest ((d, v) :: s) h) : OW P n w0 M L Q (⟨some d, op, ty, pos, after, some (j, want)⟩ :: rest) s h := ow_det (.some hj he) st hd k
theorem oO {j : Nat} {want e : Bool} (hj : gval L s j = some e) (he : e = !want) (hd : Nat.blt d n = true) (k : OW P n w0 M L Q rest ((d, undef) :: s) h) : OW P n w0 M L Q (⟨some d, op, ty, pos, after, some (j, want)⟩ :: rest) s h := ow_off (.some hj he) hd k
theorem oX {j d' : Nat} {want : Bool} (hj : (L[j]?).bind (·.dst) = some d') (hv : aget s d' = some undef) (hd : Nat.blt d n = true) (k : OW P n w0 M L Q rest ((d, undef) :: s) h) : OW P n w0 M L Q (⟨some d, op, ty, pos, after, some (j, want)⟩ :: rest) s h := ow_off (.dead hj hv) hd k
theorem oE {Ψ : Value → Hp → Prop} (st : StpU P n w0 M op ty s h Ψ) (hd : Nat.blt d n = true) (k : ∀ v U, Ψ v U → OW P n w0 M L Q rest ((d, v) :: s) (U ++ h)) : OW P n w0 M L Q (⟨some d, op, ty, pos, after, none⟩ :: rest) s h := ow_eff .none st hd k
theorem oF {Ψ : Value → Hp → Prop} (st : StpU P n w0 M op ty s h Ψ) (k : ∀ v U, Ψ v U → OW P n w0 M L Q rest s (U ++ h)) : OW P n w0 M L Q (⟨none, op, ty, pos, after, none⟩ :: rest) s h := ow_eff0 .none st k
theorem sr {id : Nat} {l : List Oper} {c' : Code} (k : OW P n w0 M l.toArray (nx P c' Q) l s h) : CW P n w0 M (.seq (.region id l.toArray false) c') Q s h := cw_seq (cw_region k)
theorem nn {c : Code} (k : CW P n w0 M c Q s h) : OW P n w0 M L (nx P c Q) [] s h := ow_nil (kw_nx k)
theorem mv (hx : sev s x = some v) : Stp P n w0 M (.move x) ty s h v := stp_move hx
theorem sg (hx : sev s x = some v) : Stp P n w0 M (.assign x) ty s h v := stp_assign hx
theorem fA (j : Nat) {b o : Nat} {fs : Array Field} {f : Field} {i k : Nat} {agg : Bool} (hu : P.underlying t = some (.struct fs)) (hf : fs[i]? = some f) (T : TyS P f.type k agg) (hk : Nat.beq k 0 = false) (hx : sev s x = some (.pointer (some ⟨b, o, none⟩))) (hj : f.offset = j) :
    Stp P n w0 M (.fieldAddr t x i) ty s h (.pointer (some ⟨b, o + j, none⟩)) := stp_fieldAddr hu hf T hk hx hj
theorem lB (id : Nat) {b o : Nat} {cs : Array Value} {e : TypeId} {fr : Nat × Nat} {u : Value} (T : TyS P t 1 false) (hx : sev s x = some (.pointer (some ⟨b, o, none⟩))) (hg : aget h id = some [(b, .cells cs e fr)]) (hus : (cs.toList.drop o).take 1 = [u]) :
    Stp P n w0 M (.load t x) ty s h u := stp_load1 T hx (Cells.box hg 1 hus)

/-- tables -/
def gA {α : Type} (d : α) : List α → Nat → α
  | [], _ => d
  | x :: _, 0 => x
  | _ :: l, i + 1 => gA d l i
def dS (l : List Nat) (i : Nat) : Option Nat := match gA 0 l i with
  | 0 => none
  | k + 1 => some k
def rn (a : Nat) : Nat → List Nat
  | 0 => []
  | k + 1 => a :: rn (a + 1) k

def oN (k : Nat) : Option Nat := match k with
  | 0 => none
  | k + 1 => some k
def rL (l : List (List (Nat × Nat))) (i : Nat) : List (Nat × Option Nat) := (gA [] l i).map fun p => (p.1, oN p.2)
theorem rdr {id : Nat} {ops : List Oper} {s0 : Slots} {h0 : Hp} (hm : P.follows .mixedOrders = true) (ks kh : List Nat) (S : RSpec)
    (hopp : AllLt ops.length fun i => Loc P n w0 M ops S s0 h0 i) (hfin : ∀ g, (∀ i, i < ops.length → S.Φ i (g i)) → KW n w0 M Q .normal (stS S g (fun _ => true) s0 ops.length) (stH S g (fun _ => true) h0 ops.length))
    (hchk : S.toRC.chk n ops ks kh = true := by kernel_rfl)
    (hks : ks.all (fun x => (aget s0 x).isSome) = true := by kernel_rfl) (hkh : kh.all (fun x => (aget h0 x).isSome) = true := by kernel_rfl)
    (hUU : AllLt ops.length fun i => ∀ g, (S.u i g).all (fun p => memB p.1 (S.ids i)) = true ∧ (S.rh i).all (fun p => match p with | (x, some k) => (aget (S.u k g) x).isSome | _ => true) = true := by (repeat' (first | exact trivial | exact fun _ => ⟨rfl, rfl⟩ | refine ⟨?_, ?_⟩))) :
    CW P n w0 M (.region id ops.toArray true) Q s0 h0 := region_drawn S hm ks kh hchk hks hkh hUU hopp hfin

variable {gd : Option (Nat × Bool)} {dst : Option Nat} {ops : List Oper} {S : RSpec} {s0 : Slots} {h0 : Hp}
theorem ld {i : Nat} (ho : ops[i]? = some ⟨dst, op, ty, pos, after, none⟩) (hd : S.dst i = dst)
    (k : ∀ g, (∀ k, memB k (S.pre i) = true → S.Φ k (g k)) → ∀ s h, SubS (vS S s0 g (S.rs i)) s → SubH (vH S h0 g (S.rh i)) h → Stp P n w0 M op ty s h (S.v i (upd g i default)))
    (hu : ∀ g, S.u i g = [] := by intro; rfl) (hΦ : S.Φ i default := by exact trivial) : Loc P n w0 M ops S s0 h0 i :=
  loc_det ho hd hu hΦ fun g hg s h hs hh => ⟨.none, k g hg s h hs hh⟩
theorem le {i : Nat} {Ψ : (Nat → Gh) → Value → Hp → Prop} (ho : ops[i]? = some ⟨dst, op, ty, pos, after, none⟩) (hd : S.dst i = dst)
    (k : ∀ g, (∀ k, memB k (S.pre i) = true → S.Φ k (g k)) → ∀ s h, SubS (vS S s0 g (S.rs i)) s → SubH (vH S h0 g (S.rh i)) h → StpU P n w0 M op ty s h (Ψ g))
    (kx : ∀ g v U, Ψ g v U → ∃ x, S.Φ i x ∧ (dst = none ∨ v = S.v i (upd g i x)) ∧ U = S.u i (upd g i x)) : Loc P n w0 M ops S s0 h0 i :=
  loc_eff ho hd (fun g hg s h hs hh => ⟨.none, k g hg s h hs hh⟩) kx
theorem lc {i : Nat} (ho : ops[i]? = some ⟨dst, op, ty, pos, after, none⟩) (hd : S.dst i = dst)
    (k : ∀ {g : Nat → Gh} {s : Slots} {h : Hp}, SubS (vS S s0 g (S.rs i)) s → SubH (vH S h0 g (S.rh i)) h → Stp P n w0 M op ty s h (S.v i (upd g i default)))
    (hu : ∀ g, S.u i g = [] := by intro; rfl) (hΦ : S.Φ i default := by exact trivial) : Loc P n w0 M ops S s0 h0 i :=
  loc_det ho hd hu hΦ fun g hg s h hs hh => ⟨.none, k hs hh⟩
theorem lg {i j : Nat} {want e : Bool} (ho : ops[i]? = some ⟨dst, op, ty, pos, after, some (j, want)⟩) (hd : S.dst i = dst) (d : Nat) (hb : e = want)
    (k : ∀ {g : Nat → Gh} {s : Slots} {h : Hp}, SubS (vS S s0 g (S.rs i)) s → SubH (vH S h0 g (S.rh i)) h → Stp P n w0 M op ty s h (S.v i (upd g i default)))
    (hj : (ops.toArray[j]?).bind (·.dst) = some d := by rfl) (hv : ∀ g, aget (vS S s0 g (S.rs i)) d = some (.bool e) := by intro; rfl)
    (hu : ∀ g, S.u i g = [] := by intro; rfl) (hΦ : S.Φ i default := by exact trivial) : Loc P n w0 M ops S s0 h0 i :=
  loc_det ho hd hu hΦ fun g hg s h hs hh => ⟨.some (gval_of hj (sv hs d (hv g))) hb, k hs hh⟩
theorem lo {i j : Nat} {want e : Bool} (ho : ops[i]? = some ⟨dst, op, ty, pos, after, some (j, want)⟩) (hd : S.dst i = dst) (d : Nat) (hb : e = !want)
    (hj : (ops.toArray[j]?).bind (·.dst) = some d := by rfl) (hv : ∀ g, aget (vS S s0 g (S.rs i)) d = some (.bool e) := by intro; rfl)
    (hu : ∀ g, S.u i g = [] := by intro; rfl) (hV : ∀ g, S.v i g = undef := by intro; rfl) (hΦ : S.Φ i default := by exact trivial) : Loc P n w0 M ops S s0 h0 i :=
  loc_off ho hd hu hV hΦ fun g hg s h hs hh => .some (gval_of hj (sv hs d (hv g))) hb
theorem lx {i j : Nat} {want : Bool} (ho : ops[i]? = some ⟨dst, op, ty, pos, after, some (j, want)⟩) (hd : S.dst i = dst) (d : Nat)
    (hj : (ops.toArray[j]?).bind (·.dst) = some d := by rfl) (hv : ∀ g, aget (vS S s0 g (S.rs i)) d = some undef := by intro; rfl)
    (hu : ∀ g, S.u i g = [] := by intro; rfl) (hV : ∀ g, S.v i g = undef := by intro; rfl) (hΦ : S.Φ i default := by exact trivial) : Loc P n w0 M ops S s0 h0 i :=
  loc_off ho hd hu hV hΦ fun g hg s h hs hh => .dead hj (hs.get d _ (hv g))
/-- nothing but the bool of a group is kept -/
theorem jy (k m : Nat) {d : Nat} {y : Bool} {s' : Slots} {h' : Hp} (hv : aget s' d = some (.bool y) := by rfl) (hs : s'.drop k = s := by rfl) (hn : (s'.take k).all (fun p => (aget s p.1).isNone) = true := by rfl) (hh : h'.drop m = h := by rfl) (hm : (h'.take m).all (fun p => (aget h p.1).isNone) = true := by rfl) :
    KW n w0 M (JY n w0 M Q ((d, .bool y) :: s) h) .normal s' h' := by
  have g : ∀ {α : Type} (a b : List (Nat × α)) (k : Nat), a.drop k = b → (a.take k).all (fun p => (aget b p.1).isNone) = true → Ext b a := by
    intro α a b k e q
    rw [← List.take_append_drop k a, e]
    generalize a.take k = l at q
    induction l with
    | nil => exact Ext.refl _
    | cons p l ih =>
      obtain ⟨i, u⟩ := p
      simp only [List.all_cons, Bool.and_eq_true] at q
      exact Ext.cons (by simpa using q.1) (ih q.2)
  exact kw_jy (.top hv (g _ _ k hs hn)) (g _ _ m hh hm)
end

/-! ### 'clear' of a slice that is owned -/
end Go.Proofs.YtciliaiocakdkaaDoor
