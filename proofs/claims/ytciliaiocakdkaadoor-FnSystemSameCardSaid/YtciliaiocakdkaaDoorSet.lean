/- A map that a call makes for itself and keeps as a set of keys: look-up, store of a new key, length. -/
import Derived.Test.YtciliaiocakdkaaDoorProg
import Derived.Test.YtciliaiocakdkaaDoorOwn
import Derived.Maps.OwnSet
import Derived.DeepKeys4
import Derived.WalkArith
set_option linter.unusedSimpArgs false
set_option linter.unusedVariables false
namespace Go.Proofs.YtciliaiocakdkaaDoor
open Go.RowKit
open Go.Maps (Keyed)
open Go.ChangeMaps (setBlock heap_setBlock_same heap_setBlock_other)

set_option maxRecDepth 100000
theorem wf64 {n : Int} (h : -9223372036854775808 ≤ n ∧ n ≤ 9223372036854775807) : (Lit.int .i64 n).wf = true := by
  unfold Lit.wf
  simp only [Bool.and_eq_true, decide_eq_true_eq]
  exact ⟨h.1, h.2⟩

theorem keyInt : Keyed Tryd.prog 3 := Maps.int_keyed Tryd.underlying3
theorem isKeyInt (n : Int) (h : -9223372036854775808 ≤ n ∧ n ≤ 9223372036854775807) : ∃ l, keyOf Tryd.prog 3 (.int .i64 n) = some l := by
  refine ⟨.int .i64 n, ?_⟩
  have h1 : keyOf Tryd.prog 3 (.int .i64 n) = mapKey Tryd.prog 3 (.int .i64 n) := by simp only [keyOf, Tryd.underlying3]
  rw [h1]
  simp only [mapKey, Tryd.underlying3]
  simp [wf64 h]

theorem laidOutP : laidOutB Tryd.prog = true := by kernel_rfl
theorem rowKey : (36 : TypeId) < Tryd.prog.types.size := of_decide_eq_true (by kernel_rfl)
theorem wideKey : (match Tryd.prog.underlying 36 with | some (.array _ _) | some (.struct _) => true | _ => false) = true := by rw [Tryd.underlying36]
theorem keyKey : Keyed Tryd.prog 36 := Keyed.of_law (deep_law_laid laidOutP (m := 2) (by omega) rowKey (by kernel_rfl) wideKey)
theorem cellsKey : Tryd.prog.cellsOf 36 = 2 := by kernel_rfl
theorem cellsInt : Tryd.prog.cellsOf 3 = 1 := by kernel_rfl
theorem keyTypeKey : Tryd.prog.keyType 36 = true := by kernel_rfl

theorem isKeyKey (s p : Int) (h : 0 ≤ s ∧ s ≤ 9223372036854775807) (h' : 0 ≤ p ∧ p ≤ 9223372036854775807) : ∃ l, keyOf Tryd.prog 36 (.agg #[.int .i64 s, .int .i64 p]) = some l := by
  obtain ⟨m, hm⟩ : ∃ m, Tryd.prog.types.size + 1 = m + 1 + 1 := by
    have h0 : 0 < Tryd.prog.types.size := Nat.lt_of_le_of_lt (Nat.zero_le _) rowKey
    exact ⟨Tryd.prog.types.size - 1, by rw [Nat.sub_add_cancel h0]⟩
  have w1 : (Lit.int .i64 s).wf = true := wf64 (by omega)
  have w2 : (Lit.int .i64 p).wf = true := wf64 (by omega)
  have e1 : ∀ n, (Lit.int .i64 n).wf = true → Tryd.prog.keyLits (m + 1) 3 [.int .i64 n] = some [.int .i64 n] := fun n hn => by
    simp only [Program.keyLits, Tryd.underlying3]
    simp [hn]
  have e2 : Tryd.prog.keyLits (m + 1 + 1) 36 [.int .i64 s, .int .i64 p] = some [.int .i64 s, .int .i64 p] := by
    unfold Program.keyLits
    simp only [Tryd.underlying36, cellsKey, cellsInt]
    simp [e1 s w1, e1 p w2, cellsInt]
  have e3 : Value.formed Tryd.prog 36 (.agg #[.int .i64 s, .int .i64 p]) = true := by
    simp only [Value.formed, Tryd.underlying36, cellsKey]
    rfl
  refine ⟨.string (keyBytes [Lit.int .i64 s, Lit.int .i64 p]), ?_⟩
  unfold keyOf
  simp only [Tryd.underlying36, keyTypeKey, e3, hm, Value.cells, e2]
  simp

/-- r tells whether p -/
def Is (r : Bool) (p : Prop) : Prop := r = true ↔ p
theorem Is.yes {p : Prop} (h : p) : Is true p := ⟨fun _ => h, fun _ => rfl⟩
theorem Is.no {p : Prop} (h : ¬ p) : Is false p := ⟨(fun e => by cases e), fun e => absurd e h⟩

/-- block b is a map of the call's own whose keys are ks, every element true -/
def SetM (P : Program) (kt : TypeId) (w : World) (b : Nat) (ks : List Value) : Prop :=
  ∃ es clock, w.heap[b]? = some (.map es clock) ∧ es.toList.map MapEntry.key = ks ∧ (∀ e ∈ es.toList, e.val = .bool true) ∧ ∀ e ∈ es.toList, ∃ l, keyOf P kt e.key = some l

section
variable {P : Program} {kt : TypeId} {w w' : World} {b : Nat} {ks : List Value}

theorem SetM.made (P : Program) (kt : TypeId) (w : World) : SetM P kt (w.alloc (.map #[] 0)) w.heap.size [] :=
  ⟨#[], 0, heap_alloc_new w _, rfl, by simp, by simp⟩
theorem SetM.keep (h : SetM P kt w b ks) (hk : b < w.heap.size → w'.heap[b]? = w.heap[b]?) : SetM P kt w' b ks := by
  obtain ⟨es, clock, hb, r⟩ := h
  exact ⟨es, clock, by rw [hk (Array.getElem?_eq_some_iff.1 hb).1]; exact hb, r⟩
theorem SetM.below (h : SetM P kt w b ks) (hb : Below w.heap.size w w') : SetM P kt w' b ks := h.keep fun k => hb.block _ k
theorem SetM.lt (h : SetM P kt w b ks) : b < w.heap.size := by
  obtain ⟨es, clock, hb, r⟩ := h
  exact (Array.getElem?_eq_some_iff.1 hb).1
theorem SetM.look (K : Keyed P kt) (h : SetM P kt w b ks) {t e : TypeId} (ht : P.underlying t = some (.map kt e)) (hz : (zeroValue e).run P w = .ok (.bool false) w) {key : Value} (hk : ∃ l, keyOf P kt key = some l) {r : Bool} (hr : Is r (key ∈ ks)) :
    (Instr.lookup t (.map (some b)) key false).run P w = .ok (.bool r) w := by
  obtain ⟨es, clock, hb, hes, hv, hks⟩ := h
  obtain ⟨kl, hkey⟩ := hk
  rcases K.find w hkey es.toList hks with ⟨h1, h2⟩ | ⟨j, e0, h1, h2, h3⟩
  · have : r = false := by
      cases r with
      | false => rfl
      | true =>
        have := hr.1 rfl
        rw [← hes] at this
        obtain ⟨x, hx, hxe⟩ := List.mem_map.1 this
        exact absurd hxe (h2 x hx)
    subst this
    simp [Instr.lookup, run_underlying ht, MapKept.run_getObj_map hb, K.check w _ hkey, h1, hz, Result.andThen]
  · have : r = true := by
      refine hr.2 ?_
      rw [← hes]
      exact List.mem_map.2 ⟨e0, List.mem_of_getElem? h2, h3⟩
    subst this
    have hv0 := hv e0 (List.mem_of_getElem? h2)
    simp [Instr.lookup, run_underlying ht, MapKept.run_getObj_map hb, K.check w _ hkey, h1, Result.andThen, hv0]
theorem SetM.len (h : SetM P kt w b ks) {t e : TypeId} (ht : P.underlying t = some (.map kt e)) (ty : TypeId) : (Builtin.len_ #[t] ty #[.map (some b)]).run P w = .ok (.int .i64 ks.length) w := by
  obtain ⟨es, clock, hb, hes, _⟩ := h
  have : ks.length = es.size := by rw [← hes]; simp
  rw [this]
  simp [Builtin.len_, run_underlying ht, MapKept.run_getObj_map hb, goInt, Result.andThen]
theorem SetM.add (K : Keyed P kt) (h : SetM P kt w b ks) {t e : TypeId} (ht : P.underlying t = some (.map kt e)) {key : Value} (hk : ∃ l, keyOf P kt key = some l) (hn : key ∉ ks) :
    ∃ w', (Instr.mapUpdate t (.map (some b)) key (.bool true)).run P w = .ok () w' ∧ SetM P kt w' b (ks ++ [key]) ∧ w.grownBy w' (some b) ∧ w'.heap.size = w.heap.size := by
  obtain ⟨es, clock, hb, hes, hv, hks⟩ := h
  obtain ⟨kl, hkey⟩ := hk
  rcases K.find w hkey es.toList hks with ⟨h1, h2⟩ | ⟨j, e0, h1, h2, h3⟩
  · refine ⟨setBlock w b (.map (es.push ⟨key, .bool true, clock⟩) (clock + 1)), ?_, ⟨_, _, heap_setBlock_same hb _, by simp [hes], ?_, ?_⟩, ⟨rfl, rfl, rfl, by simp [setBlock], fun i _ hi => heap_setBlock_other hb _ (fun e => hi (by rw [e]))⟩, by simp [setBlock]⟩
    · simp [Instr.mapUpdate, run_underlying ht, MapKept.run_getObj_map hb, K.check w false hkey, h1, MapKept.run_setObj_map _ hb, Result.andThen, setBlock]
    · intro e he
      simp at he
      rcases he with he | rfl
      · exact hv e (by simpa using he)
      · rfl
    · intro e he
      simp at he
      rcases he with he | rfl
      · exact hks e (by simpa using he)
      · exact ⟨kl, hkey⟩
  · exact absurd (by rw [← hes]; exact List.mem_map.2 ⟨e0, List.mem_of_getElem? h2, h3⟩) hn
end

/-- an operation whose run is known, met under whatever guard says yes -/
theorem wpList_run {P : Program} {w w' : World} {ops : Array Oper} {rest : List Oper} {o : Oper} {a : Act} {Q : Exit → Act → World → Prop} {v : Value} (hw : Region.wanted o (yielded ops a.tmps) = true)
    (hr : (execOp a.eval o).run P w = .ok (.value v) w') (h : wpList P ops Q rest (a.put o.dst v) w') : wpList P ops Q (o :: rest) a w := by
  unfold wpList
  rw [if_pos hw]
  left
  unfold Oper.wp
  rw [hr]
  exact h
theorem wpList_skipRun {P : Program} {w w' : World} {ops : Array Oper} {rest : List Oper} {o : Oper} {a : Act} {Q : Exit → Act → World → Prop} (hw : Region.wanted o (yielded ops a.tmps) = true)
    (hr : (execOp a.eval o).run P w = .ok .skip w') (h : wpList P ops Q rest (a.put o.dst undef) w') : wpList P ops Q (o :: rest) a w := by
  unfold wpList
  rw [if_pos hw]
  left
  unfold Oper.wp
  rw [hr]
  exact h
theorem wpList_look {P : Program} {w : World} {ops : Array Oper} {rest : List Oper} {o : Oper} {a : Act} {Q : Exit → Act → World → Prop} (hw : Region.wanted o (yielded ops a.tmps) = true)
    (m x : Operand) (t : TypeId) (ho : o.op = Op.lookup t m x false) {mv kv v : Value} (hm : a.eval m = mv) (hx : a.eval x = kv) (hr : (Instr.lookup t mv kv false).run P w = .ok v w)
    (h : wpList P ops Q rest (a.put o.dst v) w) : wpList P ops Q (o :: rest) a w :=
  wpList_run hw (by simp [execOp, ho, hm, hx, hr, Result.andThen]) h
theorem wpList_addKey {P : Program} {w w' : World} {ops : Array Oper} {rest : List Oper} {o : Oper} {a : Act} {Q : Exit → Act → World → Prop} (hw : Region.wanted o (yielded ops a.tmps) = true)
    (m x y : Operand) (t : TypeId) (ho : o.op = Op.mapUpdate t m x y) {mv kv yv : Value} (hm : a.eval m = mv) (hx : a.eval x = kv) (hy : a.eval y = yv) (hr : (Instr.mapUpdate t mv kv yv).run P w = .ok () w')
    (h : wpList P ops Q rest (a.put o.dst undef) w') : wpList P ops Q (o :: rest) a w :=
  wpList_skipRun hw (by simp [execOp, ho, hm, hx, hy, hr, Result.andThen]) h
theorem wpList_setAdd {P : Program} {kt : TypeId} (K : Keyed P kt) {w : World} {ops : Array Oper} {rest : List Oper} {o : Oper} {a : Act} {Q : Exit → Act → World → Prop} (hw : Region.wanted o (yielded ops a.tmps) = true)
    (m x y : Operand) (t : TypeId) (ho : o.op = Op.mapUpdate t m x y) {b : Nat} {ks : List Value} {key : Value} (hm : a.eval m = .map (some b)) (hx : a.eval x = key) (hy : a.eval y = .bool true)
    (h : SetM P kt w b ks) {e : TypeId} (ht : P.underlying t = some (.map kt e)) (hk : ∃ l, keyOf P kt key = some l) (hn : Is false (key ∈ ks))
    (hK : ∀ w', SetM P kt w' b (ks ++ [key]) → w.grownBy w' (some b) → w'.heap.size = w.heap.size → wpList P ops Q rest (a.put o.dst undef) w') : wpList P ops Q (o :: rest) a w := by
  obtain ⟨w', hr, h1, h2, h3⟩ := h.add K ht hk (fun hc => by cases hn.2 hc)
  exact wpList_addKey hw m x y t ho hm hx hy hr (hK w' h1 h2 h3)
#print axioms SetM.add
#print axioms isKeyKey
end Go.Proofs.YtciliaiocakdkaaDoor
