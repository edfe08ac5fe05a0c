/- The engine, third part: memory: variables, slices that are read, slices that are owned. -/
import Derived.Test.YtciliaiocakdkaaDoorE2
import Derived.Deep.MidRow
import Derived.Great.BuildSlice
set_option linter.unusedSimpArgs false
set_option linter.unusedVariables false
namespace Go.Proofs.YtciliaiocakdkaaDoor
open Go.RowKit

/-! ### types -/
structure TyS (P : Program) (t : TypeId) (k : Nat) (agg : Bool) : Prop where
  und : ∃ d, P.underlying t = some d ∧ (match d with | .struct _ | .array _ _ => true | _ => false) = agg
  inf : (P.info? t).map (·.size) = some k
structure TyZ (P : Program) (t : TypeId) (z : Value) : Prop where
  inf : (P.info? t).bind (·.zero) = some z
theorem TyS.isAgg {P : Program} {t : TypeId} {k : Nat} {agg : Bool} (T : TyS P t k agg) (w : World) : (isAgg t).run P w = .ok agg w := by
  obtain ⟨d, hd, ha⟩ := T.und
  unfold Go.isAgg
  rw [Sem.run_bind, run_underlying hd w]
  cases d <;> simp_all
theorem TyS.sizeOf {P : Program} {t : TypeId} {k : Nat} {agg : Bool} (T : TyS P t k agg) (w : World) : (Go.sizeOf t).run P w = .ok k w := by
  obtain ⟨i, hi, hk⟩ := Option.map_eq_some_iff.1 T.inf
  simp [Go.sizeOf, typeInfo, hi, hk]
theorem TyZ.zero {P : Program} {t : TypeId} {z : Value} (T : TyZ P t z) (w : World) : (zeroValue t).run P w = .ok z w := by
  obtain ⟨i, hi, hk⟩ := Option.bind_eq_some_iff.1 T.inf
  simp [zeroValue, typeInfo, hi, hk]

section
variable {P : Program} {n : Nat} {w0 : World} {M : List Nat} {s : Slots} {h : Hp} {ty t : TypeId} {x y : Operand} {b o : Nat}

/-! ### cells -/
/-- whatever becomes of the memory that this call may change, it reads so -/
def RO (w0 : World) (M : List Nat) (φ : World → Prop) : Prop := ∀ w, Fr w0 M w → φ w
def Cells (w0 : World) (M : List Nat) (h : Hp) (b o : Nat) (us : List Value) : Prop := ∀ w, Sat w0 M w h → w.rangeAt b o us
theorem Cells.box {id : Nat} {cs : Array Value} {e : TypeId} {fr : Nat × Nat} {us : List Value} (hg : aget h id = some [(b, .cells cs e fr)]) (k : Nat) (hus : (cs.toList.drop o).take k = us) : Cells w0 M h b o us := by
  intro w hw j v hv
  have hb := (hw.own id _ hg (b, .cells cs e fr) (by simp)).2
  simp only [] at hb
  rw [cell_of_row w b (o + j) cs e fr hb]
  rw [← hus, List.getElem?_take] at hv
  split at hv
  · rw [List.getElem?_drop] at hv; simpa using hv
  · cases hv
theorem Cells.ofRO {cs : List Value} (hr : RO w0 M (fun w => w.rangeAt b 0 cs)) (k : Nat) {us : List Value} (hus : (cs.drop o).take k = us) : Cells w0 M h b o us := by
  intro w hw j v hv
  have h1 := hr w hw.fr
  rw [← hus, List.getElem?_take] at hv
  split at hv
  · rw [List.getElem?_drop] at hv
    have := h1 (o + j) v hv
    rwa [Nat.zero_add] at this
  · cases hv
theorem stp_load1 (T : TyS P t 1 false) {u : Value} (hx : sev s x = some (.pointer (some ⟨b, o, none⟩))) (hc : Cells w0 M h b o [u]) : Stp P n w0 M (.load t x) ty s h u := fun a w ha hw => by
  have h1 : w.cell? ⟨b, o, none⟩ = some u := by simpa using hc w hw 0 u rfl
  simp [execOp, exo, ha.ev hx, Instr.loadAt, Instr.sureAddr, loadVar, T.isAgg w, h1]
theorem stp_loadN {us : List Value} (T : TyS P t us.length true) (hx : sev s x = some (.pointer (some ⟨b, o, none⟩))) (hc : Cells w0 M h b o us) : Stp P n w0 M (.load t x) ty s h (.agg us.toArray) := fun a w ha hw => by
  obtain ⟨d, hd, hag⟩ := T.und
  have h1 := run_loadAt_mid (P := P) w b o t us d (hc w hw) hd (by cases d <;> simp_all) T.inf
  simp [execOp, exo, ha.ev hx, h1]

/-! ### slices that are read -/
def eB (ao : Option Addr) : Nat := match ao with | some a => a.block | none => 0
def eO (ao : Option Addr) : Nat := match ao with | some a => a.off | none => 0
def RdL {α : Type} [Enc α] (ao : Option Addr) (cap : Nat) (l : List α) (w : World) : Prop :=
  l.length ≤ cap ∧ cap ≤ maxLen ∧ (ao = none → cap = 0) ∧ ∀ j u, (cellsL l)[j]? = some u → ∃ b o, ao = some ⟨b, o, none⟩ ∧ w.cell? ⟨b, o + j, none⟩ = some u
def Rdb {α : Type} [Enc α] (w0 : World) (M : List Nat) (h : Hp) (ao : Option Addr) (cap : Nat) (l : List α) : Prop := ∀ w, Sat w0 M w h → RdL ao cap l w
theorem Rdb.ro {α : Type} [Enc α] {ao : Option Addr} {cap : Nat} {l : List α} (hr : RO w0 M (RdL ao cap l)) : Rdb w0 M h ao cap l := fun w hw => hr w hw.fr

theorem RdL.rd {α : Type} [Enc α] {ao : Option Addr} {cap : Nat} {l : List α} {w : World} (hr : RdL ao cap l w) : Rd w (.slice ao l.length cap) l := ⟨ao, cap, rfl, hr.1, hr.2.1, hr.2.2.1, hr.2.2.2⟩
theorem RdL.range {α : Type} [Enc α] {ao : Option Addr} {cap : Nat} {l : List α} {w : World} (hr : RdL ao cap l w) (hs : 0 < Enc.sz α) {k : Nat} {x : α} (hk : l[k]? = some x) :
    ao = some ⟨eB ao, eO ao, none⟩ ∧ w.rangeAt (eB ao) (eO ao + k * Enc.sz α) (Enc.cells x) := by
  have g : ∀ i, i < Enc.sz α → (cellsL l)[k * Enc.sz α + i]? = (Enc.cells x)[i]? := fun i hi => by rw [cellsL_at l k i hi, hk]; rfl
  have g2 : (cellsL l)[k * Enc.sz α + 0]? = some ((Enc.cells x)[0]'(by rw [Enc.len]; exact hs)) := by rw [g 0 hs]; exact List.getElem?_eq_getElem _
  obtain ⟨b, o, rfl, _⟩ := hr.2.2.2 _ _ g2
  refine ⟨rfl, fun j v hv => ?_⟩
  have hj : j < Enc.sz α := by rw [← Enc.len x]; exact (List.getElem?_eq_some_iff.1 hv).1
  obtain ⟨b', o', he, hc⟩ := hr.2.2.2 _ _ ((g j hj).trans hv)
  simp only [Option.some.injEq, Addr.mk.injEq, and_true] at he
  obtain ⟨rfl, rfl⟩ := he
  simp only [eB, eO]
  rw [← Nat.add_assoc] at hc
  exact hc

theorem Cells.el {α : Type} [Enc α] {ao : Option Addr} {cap : Nat} {l : List α} (hr : Rdb w0 M h ao cap l) (hs : 0 < Enc.sz α) {ie : Int} {z : α} (hk : idx l ie = some z) (i k : Nat) {us : List Value} (hus : ((Enc.cells z).drop i).take k = us) :
    Cells w0 M h (eB ao) (eO ao + ie.toNat * Enc.sz α + i) us := by
  intro w hw j v hv
  rw [← hus, List.getElem?_take] at hv
  split at hv
  · rw [List.getElem?_drop] at hv
    have := ((hr w hw).range hs (idx_some hk).2.2).2 (i + j) v hv
    rwa [← Nat.add_assoc] at this
  · cases hv

theorem stp_indexAddr {α : Type} [Enc α] {ao : Option Addr} {cap len : Nat} {l : List α} {e : TypeId} {kk : IntKind} {ie : Int} {z : α} {agg : Bool} (hu : P.underlying t = some (.slice e)) (T : TyS P e (Enc.sz α) agg) (hs : 0 < Enc.sz α)
    (hx : sev s x = some (.slice ao len cap)) (hl : len = l.length) (hy : sev s y = some (.int kk ie)) (hr : Rdb w0 M h ao cap l) (hk : idx l ie = some z) :
    Stp P n w0 M (.indexAddr t x y) ty s h (.pointer (some ⟨eB ao, eO ao + ie.toNat * Enc.sz α, none⟩)) := fun a w ha hw => by
  obtain ⟨h0, h1, h2⟩ := idx_some hk
  obtain ⟨e1, _⟩ := (hr w hw).range hs h2
  subst hl
  rw [e1] at hx
  have h3 : ie < (l.length : Int) := by omega
  have e2 := addr_add (eB ao) (eO ao) (ie.toNat * Enc.sz α)
  simp [execOp, exo, ha.ev hx, ha.ev hy, Instr.indexAt, asIntOf, run_underlying hu, h0, h3, T.sizeOf w, e2]

theorem stp_fieldAddr {fs : Array Field} {f : Field} {i k : Nat} {agg : Bool} (hu : P.underlying t = some (.struct fs)) (hf : fs[i]? = some f) (T : TyS P f.type k agg) (hk : Nat.beq k 0 = false) (hx : sev s x = some (.pointer (some ⟨b, o, none⟩))) {j : Nat} (hj : f.offset = j) :
    Stp P n w0 M (.fieldAddr t x i) ty s h (.pointer (some ⟨b, o + j, none⟩)) := fun a w ha hw => by
  have hk' : k ≠ 0 := ne_of_beq_false hk
  subst hj
  simp [execOp, exo, ha.ev hx, Instr.fieldAt, run_underlying hu, hf, Instr.sureAddr, fieldPlace, T.sizeOf w, hk', addr_add]

theorem stp_len {e : TypeId} {ao : Option Addr} {len cap : Nat} (hu : P.underlying t = some (.slice e)) (hx : sev s x = some (.slice ao len cap)) : Stp P n w0 M (.call ⟨.builtin .len, #[x], #[t]⟩) ty s h (.int .i64 (len : Int)) := fun a w ha hw => by
  simp [execOp, exo, resolve, invoke, builtin, ha.ev hx, Builtin.len_, run_underlying hu, goInt]

theorem stp_field {fs : Array Field} {f : Field} {i : Nat} {cs : Array Value} {u : Value} (hu : P.underlying t = some (.struct fs)) (hf : fs[i]? = some f) (T : TyS P f.type 1 false) (hx : sev s x = some (.agg cs)) (hc : cs[f.offset]? = some u) :
    Stp P n w0 M (.field t x i) ty s h u := fun a w ha hw => by
  simp [execOp, exo, ha.ev hx, Instr.field, run_underlying hu, hf, asAgg, part, T.isAgg w, hc]

theorem stp_build {parts : Array (Nat × Operand)} {vs : List (Nat × Value)} {cs : Array Value} (hp : sevp s parts.toList = some vs) (hb : P.built t vs = some cs) : Stp P n w0 M (.build t parts) ty s h (.agg cs) := fun a w ha hw => by
  have : (parts.map fun (i, x) => (i, a.eval x)).toList = vs := by
    rw [Array.toList_map]
    exact sevp_map ha hp
  have h1 := run_build (P := P) w t (parts.map fun (i, x) => (i, a.eval x)) cs (by rw [this]; exact hb)
  simp [execOp, exo, h1]

/-! ### new variables -/
theorem stpU_box {v : Value} {cs : Array Value} (id : Nat) (hx : sev s x = some v) (hc : v.cells = cs) : StpU P n w0 M (.box t x) ty s h (fun v U => ∃ b, v = .pointer (some ⟨b, 0, none⟩) ∧ U = [(id, [(b, .cells cs t (0, 0))])]) := fun a w ha hw o ho ht => by
  unfold Oper.wp
  subst hc
  have : (execOp a.eval o).run P w = .ok (.value (.pointer (some ⟨w.heap.size, 0, none⟩))) (w.alloc (.cells v.cells t)) := by
    simp [execOp, ho, ha.ev hx, Instr.box, newVar, newRow]
  rw [this, Oper.upon_value]
  exact ⟨_, _, ⟨w.heap.size, rfl, rfl⟩, rfl, hw.new id _⟩
theorem stpU_alloc {z : Value} {cs : Array Value} (id : Nat) (T : TyZ P t z) (hc : z.cells = cs) : StpU P n w0 M (.alloc t) ty s h (fun v U => ∃ b, v = .pointer (some ⟨b, 0, none⟩) ∧ U = [(id, [(b, .cells cs t (0, 0))])]) := fun a w ha hw o ho ht => by
  unfold Oper.wp
  subst hc
  have : (execOp a.eval o).run P w = .ok (.value (.pointer (some ⟨w.heap.size, 0, none⟩))) (w.alloc (.cells z.cells t)) := by
    simp [execOp, ho, Instr.alloc, T.zero w, newVar, newRow]
  rw [this, Oper.upon_value]
  exact ⟨_, _, ⟨w.heap.size, rfl, rfl⟩, rfl, hw.new id _⟩

/-! ### stores -/
def splice (cs : List Value) (o : Nat) (us : List Value) : List Value := cs.take o ++ us ++ cs.drop (o + us.length)
theorem heap_setCells (b : Nat) (e : TypeId) : ∀ (us : List Value) (o : Nat) (w : World) (cs : Array Value), w.heap[b]? = some (.cells cs e (0, 0)) → o + us.length ≤ cs.size →
    (w.setCells b o us).heap[b]? = some (.cells (splice cs.toList o us).toArray e (0, 0))
  | [], o, w, cs, hg, _ => by simp [World.setCells, splice, hg]
  | v :: r, o, w, cs, hg, hl => by
    rw [World.setCells]
    simp only [List.length_cons] at hl
    have h1 := heap_setCell_same w b o cs e v hg
    have h2 := heap_setCells b e r (o + 1) _ _ h1 (by simp; omega)
    rw [h2]
    congr 2
    simp only [splice, Array.toList_setIfInBounds, List.length_cons]
    rw [List.take_set]
    apply congrArg
    apply List.ext_getElem?
    intro k
    simp only [List.getElem?_append, List.length_append, List.length_set, List.length_take, Array.length_toList, List.length_cons, List.getElem?_set, List.getElem?_take, List.getElem?_drop, Nat.min_eq_left (show o + 1 ≤ cs.size by omega), Nat.min_eq_left (show o ≤ cs.size by omega)]
    by_cases hk : k < o
    · simp [hk, show k < o + 1 by omega, show k < o + 1 + r.length by omega, show k < o + (r.length + 1) by omega, show o ≠ k by omega]
    · by_cases hk2 : k = o
      · subst hk2
        simp [show k < k + 1 + r.length by omega, show k < cs.size by omega]
      · by_cases hk3 : k < o + 1 + r.length
        · simp [hk, hk3, show ¬ k < o + 1 by omega, show k < o + (r.length + 1) by omega, show k - o = k - (o + 1) + 1 by omega]
        · simp [hk3, show ¬ k < o + (r.length + 1) by omega]
          rw [if_neg (by omega)]
          congr 1
          omega
theorem setCells_other (b : Nat) : ∀ (us : List Value) (o : Nat) (w : World) (k : Nat), k ≠ b → (w.setCells b o us).heap[k]? = w.heap[k]?
  | [], _, _, _, _ => rfl
  | v :: r, o, w, k, hk => by rw [World.setCells, setCells_other b r _ _ k hk]; exact Below.heap_setCell _ _ _ _ hk
theorem setCells_same (b : Nat) : ∀ (us : List Value) (o : Nat) (w : World), (w.setCells b o us).os = w.os ∧ (w.setCells b o us).tape = w.tape ∧ (w.setCells b o us).output = w.output ∧ (w.setCells b o us).heap.size = w.heap.size
  | [], _, _ => ⟨rfl, rfl, rfl, rfl⟩
  | v :: r, o, w => by
    obtain ⟨a, c, d, e⟩ := setCells_same b r (o + 1) (w.setCell ⟨b, o, none⟩ v)
    rw [World.setCells]
    exact ⟨a, c, d, e.trans (by simp [World.setCell])⟩

theorem run_store_row (w : World) {cs : Array Value} {e : TypeId} {v : Value} {k : Nat} {agg : Bool} (T : TyS P t k agg) (hg : w.heap[b]? = some (.cells cs e (0, 0))) (hk : v.cells.size = k) (hl : o + k ≤ cs.size) (h1 : v.cells.toList.all (·.oneCell') = true) :
    (Instr.storeAt t (.pointer (some ⟨b, o, none⟩)) v).run P w = .ok () (w.setCells b o v.cells.toList) := by
  have ht : ∀ j, j < v.cells.toList.length → (w.cell? ⟨b, o + j, none⟩).isSome = true ∧ w.frozen? ⟨b, o + j, none⟩ = false := fun j hj => by
    rw [cell_of_row w b (o + j) cs e (0, 0) hg, frozen_of_row w b (o + j) cs e hg]
    have : o + j < cs.size := by simp at hj; omega
    simp [this]
  have := run_storeCells_cells (P := P) b o v.cells.toList 0 w (fun j hj => by simpa using (ht j (by simpa using hj)).1) (fun j hj => by simpa using (ht j (by simpa using hj)).2)
    (fun u hu => (List.all_eq_true.1 h1) u hu)
  simp only [Nat.add_zero] at this
  simp [Instr.storeAt, Instr.sureAddr, storeVar, T.sizeOf w, hk, this]

theorem stpU_store {id k : Nat} {cs : Array Value} {e : TypeId} {v : Value} {agg : Bool} (T : TyS P t k agg) (hx : sev s x = some (.pointer (some ⟨b, o, none⟩))) (hy : sev s y = some v) (hg : aget h id = some [(b, .cells cs e (0, 0))]) (hk : v.cells.size = k) (hl : Nat.ble (o + k) cs.size = true) (h1 : v.cells.toList.all (·.oneCell') = true)
    {cs' : List Value} (hcs : splice cs.toList o v.cells.toList = cs') :
    StpU P n w0 M (.store t x y) ty s h (fun _ U => U = [(id, [(b, .cells cs'.toArray e (0, 0))])]) := fun a w ha hw o' ho ht => by
  have hl' : o + k ≤ cs.size := Nat.le_of_ble_eq_true hl
  have hb := (hw.own id _ hg (b, .cells cs e (0, 0)) (by simp)).2
  simp only [] at hb
  have hr := run_store_row (P := P) w T hb hk hl' h1
  unfold Oper.wp
  have : (execOp a.eval o').run P w = .ok .skip (w.setCells b o v.cells.toList) := by
    simp [execOp, ho, ha.ev hx, ha.ev hy, hr]
  rw [this, Oper.upon_skip]
  obtain ⟨q1, q2, q3, q4⟩ := setCells_same b v.cells.toList o w
  subst hcs
  refine ⟨undef, _, rfl, rfl, hw.upd hg q1 q2 q3 (by omega) (fun j hj _ => setCells_other b _ _ _ _ hj) ?_⟩
  exact heap_setCells b e _ o w cs hb (by simp; omega)

/-! ### slices that are owned -/
def OwnC {α : Type} [Enc α] (e : TypeId) (ao : Option Addr) (cap : Nat) (l : List α) (C : Res) : Prop :=
  (l = [] ∧ cap = 0 ∧ C = []) ∨
  ∃ g cur, ao = some ⟨g, 0, none⟩ ∧ C = [(g, .cells cur e (0, 0))] ∧ l.length ≤ cap ∧ cap ≤ maxLen ∧ cap * Enc.sz α ≤ cur.size ∧ cur.toList.take (l.length * Enc.sz α) = cellsL l

theorem OwnC.nil {α : Type} [Enc α] (e : TypeId) (ao : Option Addr) : OwnC (α := α) e ao 0 [] [] := .inl ⟨rfl, rfl, rfl⟩
theorem OwnC.own {α : Type} [Enc α] {e : TypeId} {ao : Option Addr} {cap : Nat} {l : List α} {C : Res} (ho : OwnC e ao cap l C) {w : World} (hw : ∀ p ∈ C, w.heap[p.1]? = some p.2) :
    (l = [] ∧ cap = 0 ∧ C = []) ∨ ∃ g cur, ao = some ⟨g, 0, none⟩ ∧ C = [(g, .cells cur e (0, 0))] ∧ w.heap[g]? = some (.cells cur e (0, 0)) ∧ Own g (g + 1) e w (.slice (some ⟨g, 0, none⟩) l.length cap) l := by
  rcases ho with ⟨a, b, c⟩ | ⟨g, cur, rfl, rfl, h1, h2, h3, h4⟩
  · exact .inl ⟨a, b, c⟩
  · have hg := hw (g, .cells cur e (0, 0)) (by simp)
    simp only [] at hg
    exact .inr ⟨g, cur, rfl, rfl, hg, .inr ⟨g, cap, cur, rfl, Nat.le_refl _, by omega, hg, h1, h2, h3, h4⟩⟩
theorem OwnC.ofOwn {α : Type} [Enc α] {e : TypeId} {w : World} {g cap n : Nat} {l : List α} {lo hi : Nat} (ho : Own lo hi e w (.slice (some ⟨g, 0, none⟩) n cap) l) : n = l.length ∧ ∃ cur, w.heap[g]? = some (.cells cur e (0, 0)) ∧ OwnC e (some ⟨g, 0, none⟩) cap l [(g, .cells cur e (0, 0))] := by
  rcases ho with ⟨h, _⟩ | ⟨g', cap', cur, hv, a, b, hg, r1, r2, r3, r4⟩
  · cases h
  · simp only [Value.slice.injEq, Option.some.injEq, Addr.mk.injEq, and_true] at hv
    obtain ⟨rfl, rfl, rfl⟩ := hv
    exact ⟨rfl, cur, hg, .inr ⟨g, cur, rfl, rfl, r1, r2, r3, r4⟩⟩
theorem Rdb.own {α : Type} [Enc α] {e : TypeId} {ao : Option Addr} {cap id : Nat} {l : List α} {C : Res} (hg : aget h id = some C) (ho : OwnC e ao cap l C) : Rdb w0 M h ao cap l := fun w hw => by
  rcases ho.own (fun p hp => (hw.own id C hg p hp).2) with ⟨rfl, rfl, rfl⟩ | ⟨g, cur, rfl, rfl, hh, hO⟩
  · exact ⟨by simp, by simp [maxLen], fun _ => rfl, fun j u hu => by simp [cellsL] at hu⟩
  · obtain ⟨ao', cap', e1, e2, e3, e4, e5⟩ := hO.rd
    simp only [Value.slice.injEq] at e1
    obtain ⟨rfl, _, rfl⟩ := e1
    exact ⟨e2, e3, e4, e5⟩
theorem OwnC.len {α : Type} [Enc α] {e : TypeId} {ao : Option Addr} {cap : Nat} {l : List α} {C : Res} (ho : OwnC e ao cap l C) : l.length ≤ cap ∧ cap ≤ maxLen := by
  rcases ho with ⟨rfl, rfl, rfl⟩ | ⟨g, cur, rfl, rfl, a, b, _⟩
  · simp [maxLen]
  · exact ⟨a, b⟩
/-- less capacity -/
theorem OwnC.clip {α : Type} [Enc α] {e : TypeId} {ao : Option Addr} {cap : Nat} {l : List α} {C : Res} (ho : OwnC e ao cap l C) : OwnC e ao l.length l C := by
  rcases ho with ⟨rfl, rfl, rfl⟩ | ⟨g, cur, rfl, rfl, a, b, c, d⟩
  · exact .inl ⟨rfl, rfl, rfl⟩
  · exact .inr ⟨g, cur, rfl, rfl, Nat.le_refl _, Nat.le_trans a b, Nat.le_trans (Nat.mul_le_mul_right _ a) c, d⟩

/-- fields of one element are written -/
theorem OwnC.set {α : Type} [Enc α] {e : TypeId} {g cap : Nat} {cur : Array Value} {l : List α} (hl : l.length ≤ cap) (hm : cap ≤ maxLen) (hc : cap * Enc.sz α ≤ cur.size) (ht : cur.toList.take (l.length * Enc.sz α) = cellsL l)
    {k i : Nat} {z z' : α} (hk : l[k]? = some z) (us : List Value) (hi : i + us.length ≤ Enc.sz α) (hz : splice (Enc.cells z) i us = Enc.cells z') :
    OwnC e (some ⟨g, 0, none⟩) cap (l.set k z') [(g, .cells (splice cur.toList (k * Enc.sz α + i) us).toArray e (0, 0))] := by
  have hkl : k < l.length := (List.getElem?_eq_some_iff.1 hk).1
  have hkz : (k + 1) * Enc.sz α ≤ l.length * Enc.sz α := Nat.mul_le_mul_right _ hkl
  have hlz : l.length * Enc.sz α ≤ cap * Enc.sz α := Nat.mul_le_mul_right _ hl
  rw [Nat.add_mul, Nat.one_mul] at hkz
  refine .inr ⟨g, _, rfl, rfl, by simpa using hl, hm, ?_, ?_⟩
  · simp [splice]; omega
  · rw [List.length_set]
    apply List.ext_getElem?
    intro j
    by_cases hj : j < l.length * Enc.sz α
    · have hp : 0 < Enc.sz α := by
        rcases Nat.eq_zero_or_pos (Enc.sz α) with e | e
        · rw [e] at hj; omega
        · exact e
      have hmod : j % Enc.sz α < Enc.sz α := Nat.mod_lt _ hp
      have e1 : j = j / Enc.sz α * Enc.sz α + j % Enc.sz α := by rw [Nat.mul_comm]; exact (Nat.div_add_mod j (Enc.sz α)).symm
      have q1 := cellsL_at (l.set k z') (j / Enc.sz α) (j % Enc.sz α) hmod
      have q2 := cellsL_at l (j / Enc.sz α) (j % Enc.sz α) hmod
      rw [← e1] at q1 q2
      have q3 : cur.toList[j]? = (cellsL l)[j]? := by rw [← ht, List.getElem?_take, if_pos hj]
      rw [q1, List.getElem?_take, if_pos hj, List.getElem?_set]
      by_cases hjk : k = j / Enc.sz α
      · rw [if_pos hjk, if_pos hkl, Option.bind_some, ← hz]
        have ej : j = k * Enc.sz α + j % Enc.sz α := by rw [hjk]; exact e1
        generalize hm' : j % Enc.sz α = m at *
        rw [ej]
        simp only [splice, List.toList_toArray, List.append_assoc]
        have hlen := Enc.len z
        have hcl : k * Enc.sz α + Enc.sz α ≤ cur.toList.length := by simp; omega
        have q4 : ∀ m', m' < Enc.sz α → cur.toList[k * Enc.sz α + m']? = (Enc.cells z)[m']? := fun m' hm'' => by
          have := cellsL_at l k m' hm''
          rw [hk] at this
          rw [show (Enc.cells z)[m']? = (some z).bind (fun a => (Enc.cells a)[m']?) from rfl, ← this, ← ht, List.getElem?_take, if_pos (by omega)]
        by_cases c1 : m < i
        · rw [List.getElem?_append_left (by rw [List.length_take]; omega), List.getElem?_append_left (by rw [List.length_take]; omega), List.getElem?_take, List.getElem?_take, if_pos (by omega), if_pos c1, q4 m hmod]
        · by_cases c2 : m < i + us.length
          · have a1 : (List.take (k * Enc.sz α + i) cur.toList).length = k * Enc.sz α + i := by rw [List.length_take]; omega
            have a2 : (List.take i (Enc.cells z)).length = i := by rw [List.length_take]; omega
            rw [List.getElem?_append_right (by omega), List.getElem?_append_left (by omega), List.getElem?_append_right (by omega), List.getElem?_append_left (by omega), a1, a2]
            congr 1
            omega
          · have a1 : (List.take (k * Enc.sz α + i) cur.toList).length = k * Enc.sz α + i := by rw [List.length_take]; omega
            have a2 : (List.take i (Enc.cells z)).length = i := by rw [List.length_take]; omega
            rw [List.getElem?_append_right (by omega), List.getElem?_append_right (by omega), List.getElem?_drop, List.getElem?_append_right (by omega), List.getElem?_append_right (by omega), List.getElem?_drop, a1, a2]
            rw [show i + us.length + (m - i - us.length) = m from by omega, ← q4 m hmod]
            congr 1
            omega
      · rw [if_neg hjk, ← q2, ← q3]
        simp only [splice, List.toList_toArray, List.append_assoc]
        have hcl : k * Enc.sz α + Enc.sz α ≤ cur.toList.length := by simp; omega
        rcases Nat.lt_or_gt_of_ne hjk with c | c
        · have : (k + 1) * Enc.sz α ≤ j / Enc.sz α * Enc.sz α := Nat.mul_le_mul_right _ c
          rw [Nat.add_mul, Nat.one_mul] at this
          rw [List.getElem?_append_right (by rw [List.length_take]; omega), List.getElem?_append_right (by rw [List.length_take]; omega), List.getElem?_drop]
          congr 1
          rw [List.length_take]
          omega
        · have : (j / Enc.sz α + 1) * Enc.sz α ≤ k * Enc.sz α := Nat.mul_le_mul_right _ c
          rw [Nat.add_mul, Nat.one_mul] at this
          rw [List.getElem?_append_left (by rw [List.length_take]; omega), List.getElem?_take, if_pos (by omega)]
    · rw [List.getElem?_eq_none (by rw [List.length_take]; omega), List.getElem?_eq_none (by rw [cellsL_length, List.length_set]; omega)]

theorem stpU_storeEl {α : Type} [Enc α] {id k i : Nat} {ao : Option Addr} {cap : Nat} {l : List α} {C : Res} {e : TypeId} {v : Value} {agg : Bool} {ie : Int} {z : α} (z' : α) (hs : 0 < Enc.sz α) (T : TyS P t k agg)
    (hx : sev s x = some (.pointer (some ⟨eB ao, eO ao + ie.toNat * Enc.sz α + i, none⟩))) (hy : sev s y = some v) (hg : aget h id = some C) (ho : OwnC e ao cap l C) (hk : idx l ie = some z) (hv : v.cells.size = k) (h1 : v.cells.toList.all (·.oneCell') = true)
    (hi : Nat.ble (i + k) (Enc.sz α) = true) (hz : splice (Enc.cells z) i v.cells.toList = Enc.cells z') :
    StpU P n w0 M (.store t x y) ty s h (fun _ U => ∃ C', U = [(id, C')] ∧ OwnC e ao cap (l.set ie.toNat z') C') := fun a w ha hw o' ho' ht => by
  have hi' : i + k ≤ Enc.sz α := Nat.le_of_ble_eq_true hi
  obtain ⟨i0, i1, i2⟩ := idx_some hk
  rcases ho with ⟨rfl, _⟩ | ⟨g, cur, rfl, rfl, r1, r2, r3, r4⟩
  · simp at i1
  have hb := (hw.own id _ hg (g, .cells cur e (0, 0)) (by simp)).2
  simp only [] at hb
  simp only [eB, eO, Nat.zero_add] at hx
  have hkz : (ie.toNat + 1) * Enc.sz α ≤ l.length * Enc.sz α := Nat.mul_le_mul_right _ i1
  have hlz : l.length * Enc.sz α ≤ cap * Enc.sz α := Nat.mul_le_mul_right _ r1
  rw [Nat.add_mul, Nat.one_mul] at hkz
  have hr := run_store_row (P := P) (b := g) (o := ie.toNat * Enc.sz α + i) w T hb hv (by omega) h1
  unfold Oper.wp
  have : (execOp a.eval o').run P w = .ok .skip (w.setCells g (ie.toNat * Enc.sz α + i) v.cells.toList) := by
    simp [execOp, ho', ha.ev hx, ha.ev hy, hr]
  rw [this, Oper.upon_skip]
  obtain ⟨q1, q2, q3, q4⟩ := setCells_same g v.cells.toList (ie.toNat * Enc.sz α + i) w
  refine ⟨undef, _, ⟨_, rfl, OwnC.set r1 r2 r3 r4 i2 v.cells.toList (by simp; omega) hz⟩, rfl, hw.upd hg q1 q2 q3 (by omega) (fun j hj _ => setCells_other g _ _ _ _ hj) ?_⟩
  exact heap_setCells g e _ _ w cur hb (by simp; omega)
end
end Go.Proofs.YtciliaiocakdkaaDoor
