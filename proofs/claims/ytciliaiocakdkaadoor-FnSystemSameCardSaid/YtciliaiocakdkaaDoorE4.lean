/- The engine, fourth part: append, make, slice literals, slice expressions, calls, returns. -/
import Derived.Test.YtciliaiocakdkaaDoorE3
import Derived.Deep.AppendSrc
set_option linter.unusedSimpArgs false
set_option linter.unusedVariables false
set_option linter.unusedSectionVars false
namespace Go.Proofs.YtciliaiocakdkaaDoor
open Go.RowKit

section
variable {P : Program} {n : Nat} {w0 : World} {M : List Nat} {s : Slots} {h : Hp} {ty t : TypeId} {x y : Operand}
variable {α : Type} [Enc α]

theorem RdL.src {e t : TypeId} (hu : P.underlying t = some (.slice e)) {bo : Option Addr} {c : Nat} {m : List α} {w : World} (hr : RdL bo c m w) : Src P (Enc.sz α) t (.slice bo m.length c) m.length (cellsL m) w := by
  have hcl : (cellsL m).length = m.length * Enc.sz α := cellsL_length m
  cases hb : bo with
  | some a =>
    refine Src.ofSlice w hu a m.length c (cellsL m) hcl (fun j u hj => ?_) (cells_one m)
    obtain ⟨b, o, e1, e2⟩ := hr.2.2.2 j u hj
    rw [hb] at e1
    simp only [Option.some.injEq] at e1
    subst e1
    rw [addr_add]
    exact e2
  | none =>
    have h0 : cellsL m = [] := by
      rcases hc : cellsL m with _ | ⟨u, r⟩
      · rfl
      · obtain ⟨b, o, e1, _⟩ := hr.2.2.2 0 u (by rw [hc]; rfl)
        rw [hb] at e1; cases e1
    by_cases hm : m.length = 0
    · rw [hm, h0]; exact Src.ofNil w hu c
    · have hz : Enc.sz α = 0 := by
        rw [h0] at hcl
        simp only [List.length_nil] at hcl
        rcases Nat.mul_eq_zero.1 hcl.symm with e | e
        · exact absurd e hm
        · exact e
      refine ⟨.inl ⟨e, hu⟩, fun _ => rfl, ?_, ?_, hcl, cells_one m⟩
      · rw [h0]; exact run_firstCells_none w _ _ _ _
      · rw [h0]; exact run_firstCells_none w.drew _ _ _ _

theorem stpU_append {e bytes : Nat} {z : α} (T : SlT P α t e bytes z) (hb : Nat.ble bytes 32768 = true) {ao bo : Option Addr} {len cap len2 cap2 id : Nat} {l m r : List α} {C : Res}
    (hx : sev s x = some (.slice ao len cap)) (hl : len = l.length) (hy : sev s y = some (.slice bo len2 cap2)) (hl2 : len2 = m.length) (hg : aget h id = some C) (ho : OwnC e ao cap l C) (hr : Rdb w0 M h bo cap2 m) (hc : cnt (l ++ m) = some r) :
    StpU P n w0 M (.call ⟨.builtin .append, #[x, y], #[t, t]⟩) ty s h (fun v U => ∃ ao' cap' C', v = .slice ao' r.length cap' ∧ U = [(id, C')] ∧ OwnC e ao' cap' r C') := fun a w ha hw o ho' ht => by
  obtain ⟨rfl, hcl⟩ := cnt_some hc
  subst hl hl2
  rw [List.length_append] at hcl
  have hb' : bytes ≤ 32768 := Nat.le_of_ble_eq_true hb
  obtain ⟨i, zv, hi, hz, hzc, hsz, hby⟩ := T.inf
  have hzs : zv.cells.size = Enc.sz α := by rw [← Array.length_toList, hzc, Enc.len]
  subst hby
  have hbytes : (l.length + m.length) * i.bytes ≤ 140737488355328 := Nat.le_trans (Nat.mul_le_mul hcl hb') (by omega)
  have hS := (hr w hw).src (P := P) T.und
  rw [← hsz] at hS
  have hexec : (execOp a.eval o).run P w = ((Builtin.append_ #[t, t] o.type #[.slice ao l.length cap, .slice bo m.length cap2]).run P w).andThen fun v w' => .ok (.value v) w' := by
    simp [execOp, ho', resolve, invoke, builtin, ha.ev hx, ha.ev hy]
  have hmaxlen : l.length + m.length ≤ maxLen := by simp only [maxLen]; omega
  unfold Oper.wp
  rw [hexec]
  have grow : ∀ (_ : cap < l.length + m.length) (hold : (Builtin.firstCells i.size l.length (.slice ao l.length cap)).run P w.drew = .ok (cellsL l).toArray w.drew),
      Oper.upon P o a (fun a' w' => ∃ v U, (∃ ao' cap' C', v = .slice ao' (l ++ m).length cap' ∧ U = [(id, C')] ∧ OwnC e ao' cap' (l ++ m) C') ∧ a' = a.put o.dst v ∧ Sat w0 M w' (U ++ h)) (fun _ _ _ => False)
        (((Builtin.append_ #[t, t] o.type #[.slice ao l.length cap, .slice bo m.length cap2]).run P w).andThen fun v w' => .ok (.value v) w') := by
    intro hgt hold
    have hr := run_append_grow_src (P := P) w t t o.type e i zv T.und hi hz ao l.length cap (cellsL l) hold _ m.length (cellsL m) hS hgt (by omega) (growslice_fits hgt hbytes)
    rw [hr]
    simp only [Result.andThen_ok, Oper.upon_value]
    have hge := grownCap_ge w (l.length + m.length) cap e
    have hcm : grownCap w (l.length + m.length) cap e ≤ maxLen := grownCap_le_maxLen w (l.length + m.length) cap e hmaxlen
    refine ⟨_, _, ⟨some ⟨w.heap.size, 0, none⟩, grownCap w (l.length + m.length) cap e, _, by rw [List.length_append], rfl, .inr ⟨w.heap.size, _, rfl, rfl, by rw [List.length_append]; exact hge, hcm, ?_, ?_⟩⟩, rfl, (hw.drew _).new id _⟩
    · simp only [Array.size_append, List.size_toArray, size_zeroCells, hzs, List.length_append, cellsL_length, ← Nat.add_mul]
      exact Nat.le_of_eq (by congr 1; omega)
    · simp only [Array.toList_append, List.toList_toArray]
      rw [← cellsL_append, ← cellsL_length]
      exact List.take_left
  rcases ho with ⟨rfl, rfl, rfl⟩ | ⟨g, cur, rfl, rfl, r1, r2, r3, r4⟩
  · by_cases hm : m.length = 0
    · have hm' : m = [] := List.length_eq_zero_iff.1 hm
      subst hm'
      have hr0 : (Builtin.append_ #[t, t] o.type #[.slice ao 0 0, .slice bo 0 cap2]).run P w = .ok (.slice ao 0 0) w := by
        cases ao <;> cases bo <;> simp [Builtin.append_, run_underlying T.und, sizeOf, typeInfo, hi, Builtin.lenOf, Builtin.firstCells, loadCells, loadCellsFrom, storeCells]
      simp only [List.length_nil] at hr0 ⊢
      rw [hr0]
      simp only [Result.andThen_ok, Oper.upon_value]
      refine ⟨_, _, ⟨ao, 0, [], rfl, rfl, OwnC.nil e ao⟩, rfl, hw.subg fun i' v' hv => ?_⟩
      rw [List.singleton_append, aget_cons] at hv
      split at hv
      · rename_i e; subst e; rw [← hv]; exact hg
      · exact hv
    · refine grow (by simp; omega) ?_
      cases ao <;> simp [Builtin.firstCells, loadCells, loadCellsFrom, cellsL]
  · have hbk := (hw.own id _ hg (g, .cells cur e (0, 0)) (by simp)).2
    simp only [] at hbk
    by_cases hroom : l.length + m.length ≤ cap
    · have hfit : l.length * Enc.sz α + (cellsL m).length ≤ cur.size := by
        rw [cellsL_length, ← Nat.add_mul]; exact Nat.le_trans (Nat.mul_le_mul_right _ hroom) r3
      have hr := run_append_room_src (P := P) w t t o.type e i T.und hi g 0 l.length cap _ m.length (cellsL m) hS hroom
        (fun j hj => by
          rw [cell_of_row w g _ cur e (0, 0) hbk, hsz]
          have h3 : 0 + l.length * Enc.sz α + j < cur.size := by omega
          rw [Array.getElem?_eq_getElem h3]; rfl)
        (fun j hj => frozen_of_row w g _ cur e hbk)
      rw [hr]
      simp only [Result.andThen_ok, Oper.upon_value, Nat.zero_add, hsz]
      obtain ⟨q1, q2, q3, q4⟩ := setCells_same g (cellsL m) (l.length * Enc.sz α) w
      refine ⟨_, _, ⟨some ⟨g, 0, none⟩, cap, _, by rw [List.length_append], rfl, .inr ⟨g, _, rfl, rfl, by rw [List.length_append]; exact hroom, r2, ?_, ?_⟩⟩, rfl,
        hw.upd hg q1 q2 q3 (by omega) (fun j hj _ => setCells_other g _ _ _ _ hj) (heap_setCells g e _ _ w cur hbk hfit)⟩
      · simp [splice]; omega
      · simp only [splice, List.toList_toArray]
        rw [r4, List.length_append, Nat.add_mul, ← cellsL_length l, ← cellsL_length m, ← cellsL_append, ← List.length_append, ← cellsL_append]
        exact List.take_left
    · refine grow (by omega) ?_
      rw [hsz]
      refine run_firstCells_some w.drew _ _ ⟨g, 0, none⟩ _ _ (cellsL l) (cellsL_length l) (fun j u hj => ?_)
      rw [addr_add]
      have h2 : w.cell? ⟨g, 0 + j, none⟩ = some u := by
        rw [cell_of_row w g (0 + j) cur e (0, 0) hbk]
        rw [← r4, List.getElem?_take] at hj
        split at hj
        · simpa using hj
        · cases hj
      simpa using h2

/-- 'make([]T, n)' -/
def mkO (i : Int) : Option Nat := if 0 ≤ i ∧ i ≤ 4294967296 then some i.toNat else none
theorem mkO_some {i : Int} {k : Nat} (hk : mkO i = some k) : i = (k : Int) ∧ k ≤ 4294967296 := by
  unfold mkO at hk; split at hk
  · simp at hk; omega
  · cases hk
theorem mkO_in {i : Int} (h : 0 ≤ i ∧ i ≤ 4294967296) : mkO i = some i.toNat := by unfold mkO; rw [if_pos h]
theorem stpU_make {e bytes : Nat} {z : α} (T : SlT P α t e bytes z) (hb : Nat.ble bytes 32768 = true) (id : Nat) {kl kc : IntKind} {i : Int} {k : Nat} (hx : sev s x = some (.int kl i)) (hy : sev s y = some (.int kc i)) (hk : mkO i = some k) :
    StpU P n w0 M (.makeSlice t x y) ty s h (fun v U => ∃ ao C, v = .slice ao k k ∧ U = [(id, C)] ∧ OwnC e ao k (List.replicate k z) C) := fun a w ha hw o ho ht => by
  obtain ⟨rfl, hk'⟩ := mkO_some hk
  have hb' : bytes ≤ 32768 := Nat.le_of_ble_eq_true hb
  obtain ⟨it, zv, hi, hz, hzc, hsz, hby⟩ := T.inf
  have hbb : (it.bytes : Int) * (k : Int) ≤ 281474976710656 := by
    have h : it.bytes * k ≤ 281474976710656 := Nat.le_trans (Nat.mul_le_mul (by omega) hk') (by omega : 32768 * 4294967296 ≤ 281474976710656)
    have h' : ((it.bytes * k : Nat) : Int) ≤ 281474976710656 := by omega
    rwa [Int.natCast_mul] at h'
  have hr := run_make (P := P) w t e it zv T.und hi hz kl kc k k (by omega) (Int.le_refl _) hbb (by omega)
  simp only [Int.toNat_natCast] at hr
  unfold Oper.wp
  have : (execOp a.eval o).run P w = .ok (.value (.slice (some ⟨w.heap.size, 0, none⟩) k k)) (w.alloc (.cells (madeCells zv.cells (k * it.size)) e)) := by
    simp [execOp, ho, ha.ev hx, ha.ev hy, hr]
  rw [this, Oper.upon_value]
  refine ⟨_, _, ⟨some ⟨w.heap.size, 0, none⟩, _, rfl, rfl, .inr ⟨w.heap.size, _, rfl, rfl, by simp, by simp only [maxLen]; omega, by rw [size_madeCells, hsz]; exact Nat.le_refl _, ?_⟩⟩, rfl, hw.new id _⟩
  rw [madeCells_rep T hzc hsz, List.length_replicate]
  exact List.take_of_length_le (by rw [cellsL_length, List.length_replicate]; exact Nat.le_refl _)

/-- a slice literal, its places all written -/
theorem stpU_lit {e bytes k sz : Nat} {z : α} {l : List α} (us : List Value) (T : SlT P α t e bytes z) (id : Nat) {parts : Array (Nat × Operand)} {vs : List (Nat × Value)}
    (hp : sevp s parts.toList = some vs) (hvs : vs = (us.zipIdx 0).map fun x => (x.2, x.1)) (hul : us.length = k) (hl : l.length = k) (hk : Nat.ble k 1000 = true) (hk0 : Nat.blt 0 k = true) (hs : Enc.sz α = sz) (hsm : Nat.ble sz 1000 = true) (h1 : us.all (fun v => Nat.beq v.cells.size sz) = true)
    (hcs : (us.flatMap fun v => v.cells.toList) = cellsL l) :
    StpU P n w0 M (.buildSlice t k parts) ty s h (fun v U => ∃ ao C, v = .slice ao k k ∧ U = [(id, C)] ∧ OwnC e ao k l C) := fun a w ha hw o ho ht => by
  have hk' : k ≤ 1000 := Nat.le_of_ble_eq_true hk
  have hk1 : 0 < k := lt_of_blt hk0
  have hps := T.pos
  obtain ⟨it, zv, hi, hz, hzc, hsz, hby⟩ := T.inf
  have hv : (parts.map fun (i, x) => (i, a.eval x)).toList = vs := by
    rw [Array.toList_map]
    exact sevp_map ha hp
  have h1' : ∀ v ∈ us, v.cells.size = sz := fun v hv => Nat.eq_of_beq_eq_true (List.all_eq_true.1 h1 v hv)
  have hcl : k * sz = (us.flatMap fun v => v.cells.toList).length := by rw [hcs, cellsL_length, hl, hs]
  have hsm' : k * sz ≤ 2 ^ 24 := by
    exact Nat.le_trans (Nat.mul_le_mul hk' (Nat.le_of_ble_eq_true hsm)) (by decide)
  have hr := run_buildSlice (P := P) w t e k (parts.map fun (i, x) => (i, a.eval x)) (us.flatMap fun v => v.cells.toList).toArray it zv T.und hi hz (by rw [hsz, hs]; omega)
    (by rw [hsz]; intro e0; rcases Nat.mul_eq_zero.1 e0 with e1 | e1 <;> omega) (by rw [hv, hsz, hs, hvs]; exact Great.fill_whole (by omega) us _ h1' (by rw [hul]; simp))
  unfold Oper.wp
  have : (execOp a.eval o).run P w = .ok (.value (.slice (some ⟨w.heap.size, 0, none⟩) k k)) (w.alloc (.cells (us.flatMap fun v => v.cells.toList).toArray e)) := by
    simp [execOp, ho, hr]
  rw [this, Oper.upon_value]
  refine ⟨_, _, ⟨some ⟨w.heap.size, 0, none⟩, _, rfl, rfl, .inr ⟨w.heap.size, _, rfl, rfl, by omega, by simp only [maxLen]; omega, by rw [List.size_toArray, ← hcl, hs]; exact Nat.le_refl _, ?_⟩⟩, rfl, hw.new id _⟩
  simp only [List.toList_toArray]
  rw [hcs]
  exact List.take_of_length_le (by rw [cellsL_length]; exact Nat.le_refl _)
/-- the empty slice literal -/
theorem stpU_lit0 {e bytes : Nat} {z : α} (T : SlT P α t e bytes z) (id : Nat) : StpU P n w0 M (.buildSlice t 0 #[]) ty s h (fun v U => ∃ ao C, v = .slice ao 0 0 ∧ U = [(id, C)] ∧ OwnC (α := α) e ao 0 [] C) := fun a w ha hw o ho ht => by
  obtain ⟨it, zv, hi, hz, hzc, hsz, hby⟩ := T.inf
  unfold Oper.wp
  have : (execOp a.eval o).run P w = .ok (.value (.slice (some ⟨w.heap.size, 0, none⟩) 0 0)) (w.alloc (.cells #[] e)) := by
    simp [execOp, ho, Instr.buildSlice, run_underlying T.und, sizeOf, typeInfo, hi, Instr.fill, newRow]
    rw [show Array.range 0 = #[] from by simp, Array.map_empty]
  rw [this, Oper.upon_value]
  exact ⟨_, _, ⟨some ⟨w.heap.size, 0, none⟩, _, rfl, rfl, .inr ⟨w.heap.size, #[], rfl, rfl, by simp, by simp [maxLen], by simp, by simp [cellsL]⟩⟩, rfl, hw.new id _⟩

/-! ### slice expressions -/
theorem addr_map_zero (ao : Option Addr) (k : Nat) : ao.map (·.add (0 * k)) = ao := by cases ao <;> simp [Addr.add]
theorem stp_clip {e k : Nat} {agg : Bool} {y' : Operand} (hu : P.underlying t = some (.slice e)) (T : TyS P e k agg) {ao : Option Addr} {len cap : Nat} {kk k2 : IntKind} {i i2 : Int} (hc : len ≤ cap)
    (hx : sev s x = some (.slice ao len cap)) (hy : sev s y = some (.int kk i)) (hy' : sev s y' = some (.int k2 i2)) (hi : i = (len : Int)) (hi2 : i2 = (len : Int)) : Stp P n w0 M (.slice t x none (some y) (some y')) ty s h (.slice ao len len) := fun a w ha hw => by
  subst hi hi2
  simp [execOp, exo, ha.ev hx, ha.ev hy, ha.ev hy', Instr.sliceAt, Instr.slice, run_underlying hu, Instr.sliceBounds, Instr.sliceBound, asIntOf, hc, T.sizeOf w]
  intro _
  cases ao <;> simp [Addr.add]
theorem stp_zero {e k : Nat} {agg : Bool} {y' : Operand} (hu : P.underlying t = some (.slice e)) (T : TyS P e k agg) {ao : Option Addr} {len cap : Nat} {kk k2 : IntKind}
    (hx : sev s x = some (.slice ao len cap)) (hy : sev s y = some (.int kk 0)) (hy' : sev s y' = some (.int k2 0)) : Stp P n w0 M (.slice t x none (some y) (some y')) ty s h (.slice ao 0 0) := fun a w ha hw => by
  simp [execOp, exo, ha.ev hx, ha.ev hy, ha.ev hy', Instr.sliceAt, Instr.slice, run_underlying hu, Instr.sliceBounds, Instr.sliceBound, asIntOf, T.sizeOf w]

def takeO (l : List α) (i : Int) : Option (List α) := if 0 ≤ i ∧ i ≤ (l.length : Int) then some (l.take i.toNat) else none
def dropO (l : List α) (i : Int) : Option (List α) := if 0 ≤ i ∧ i ≤ (l.length : Int) then some (l.drop i.toNat) else none
theorem takeO_some {l m : List α} {i : Int} (hk : takeO l i = some m) : (0 ≤ i ∧ i ≤ (l.length : Int)) ∧ m = l.take i.toNat := by
  unfold takeO at hk; split at hk
  · simp at hk; exact ⟨‹_›, hk.symm⟩
  · cases hk
theorem dropO_some {l m : List α} {i : Int} (hk : dropO l i = some m) : (0 ≤ i ∧ i ≤ (l.length : Int)) ∧ m = l.drop i.toNat := by
  unfold dropO at hk; split at hk
  · simp at hk; exact ⟨‹_›, hk.symm⟩
  · cases hk
theorem cellsL_take (l : List α) (k : Nat) : cellsL (l.take k) = (cellsL l).take (k * Enc.sz α) := by
  have e : cellsL l = cellsL (l.take k) ++ cellsL (l.drop k) := by rw [← cellsL_append, List.take_append_drop]
  by_cases hk : k ≤ l.length
  · rw [e, ← cellsL_append, List.take_append_drop, e]
    have : (cellsL (l.take k)).length = k * Enc.sz α := by rw [cellsL_length, List.length_take, Nat.min_eq_left hk]
    rw [← this]; exact List.take_left.symm
  · rw [List.take_of_length_le (by omega), List.take_of_length_le]
    rw [cellsL_length]; exact Nat.mul_le_mul_right _ (by omega)
theorem stp_take {e k : Nat} {agg : Bool} (hu : P.underlying t = some (.slice e)) (T : TyS P e k agg) {ao : Option Addr} {len cap : Nat} {l m : List α} {kk : IntKind} {i : Int}
    (hx : sev s x = some (.slice ao len cap)) (hl : len = l.length) (hy : sev s y = some (.int kk i)) (hr : Rdb w0 M h ao cap l) (hm : takeO l i = some m) : Stp P n w0 M (.slice t x none (some y) none) ty s h (.slice ao m.length cap) := fun a w ha hw => by
  subst hl
  obtain ⟨⟨h0, h1⟩, rfl⟩ := takeO_some hm
  obtain ⟨r1, _, _, _⟩ := hr w hw
  have h2 : i ≤ (cap : Int) := by omega
  have h3 : i.toNat ≤ l.length := by omega
  simp [execOp, exo, ha.ev hx, ha.ev hy, Instr.sliceAt, Instr.slice, run_underlying hu, Instr.sliceBounds, Instr.sliceBound, asIntOf, h0, h2, T.sizeOf w, Nat.min_eq_left h3]
  intro _
  cases ao <;> simp [Addr.add]
theorem stp_eqlNil {ao : Option Addr} {len cap : Nat} {t' : TypeId} {e : TypeId} (hu : P.underlying t = some (.slice e)) (hx : sev s x = some (.slice ao len cap)) : Stp P n w0 M (.binOp .eql t x (.const (.slice none 0 0)) t') ty s h (.bool ao.isNone) := fun a w ha hw => by
  have hy : a.eval (.const (.slice none 0 0)) = .slice none 0 0 := rfl
  have he : (Op.equal t (.slice ao len cap) (.slice none 0 0)).run P w = .ok ao.isNone w := by
    show (Op.equalIn (9999 + 1) t _ _).run P w = _
    cases ao <;> (unfold Op.equalIn; simp [run_underlying hu])
  simp [execOp, exo, ha.ev hx, hy, eqGuard, binOp, he]
theorem stp_takeRaw {e k : Nat} {agg : Bool} (hu : P.underlying t = some (.slice e)) (T : TyS P e k agg) {ao : Option Addr} {len cap m : Nat} {kk : IntKind} {i : Int}
    (hx : sev s x = some (.slice ao len cap)) (hy : sev s y = some (.int kk i)) (hi : i = (m : Int)) (hm : m ≤ cap) : Stp P n w0 M (.slice t x none (some y) none) ty s h (.slice ao m cap) := fun a w ha hw => by
  subst hi
  simp [execOp, exo, ha.ev hx, ha.ev hy, Instr.sliceAt, Instr.slice, run_underlying hu, Instr.sliceBounds, Instr.sliceBound, asIntOf, hm, T.sizeOf w]
  intro _
  cases ao <;> simp [Addr.add]
theorem Rdb.take {ao : Option Addr} {cap : Nat} {l m : List α} {i : Int} (hr : Rdb w0 M h ao cap l) (hm : takeO l i = some m) : Rdb w0 M h ao cap m := fun w hw => by
  obtain ⟨⟨h0, h1⟩, rfl⟩ := takeO_some hm
  obtain ⟨r1, r2, r4, r3⟩ := hr w hw
  refine ⟨by rw [List.length_take]; omega, r2, r4, fun j u hj => ?_⟩
  rw [cellsL_take, List.getElem?_take] at hj
  split at hj
  · exact r3 j u hj
  · cases hj
theorem RO.take {ao : Option Addr} {cap : Nat} {l m : List α} {i : Int} (hr : RO w0 M (RdL ao cap l)) (hm : takeO l i = some m) : RO w0 M (RdL ao cap m) := fun w hw => by
  obtain ⟨⟨h0, h1⟩, rfl⟩ := takeO_some hm
  obtain ⟨r1, r2, r4, r3⟩ := hr w hw
  refine ⟨by rw [List.length_take]; omega, r2, r4, fun j u hj => ?_⟩
  rw [cellsL_take, List.getElem?_take] at hj
  split at hj
  · exact r3 j u hj
  · cases hj
def dropA (ao : Option Addr) (cap : Nat) (i : Int) (k : Nat) : Option Addr := if cap = i.toNat then ao else ao.map (·.add (i.toNat * k))
theorem stp_drop {e k : Nat} {agg : Bool} (hu : P.underlying t = some (.slice e)) (T : TyS P e k agg) {ao : Option Addr} {len cap : Nat} {l m : List α} {kk : IntKind} {i : Int}
    (hx : sev s x = some (.slice ao len cap)) (hl : len = l.length) (hy : sev s y = some (.int kk i)) (hr : Rdb w0 M h ao cap l) (hm : dropO l i = some m) : Stp P n w0 M (.slice t x (some y) none none) ty s h (.slice (dropA ao cap i k) m.length (cap - i.toNat)) := fun a w ha hw => by
  subst hl
  obtain ⟨⟨h0, h1⟩, rfl⟩ := dropO_some hm
  obtain ⟨r1, _, _, _⟩ := hr w hw
  simp [execOp, exo, ha.ev hx, ha.ev hy, Instr.sliceAt, Instr.slice, run_underlying hu, Instr.sliceBounds, Instr.sliceBound, asIntOf, h0, h1, T.sizeOf w, dropA]
theorem RdL.drop {ao : Option Addr} {cap : Nat} {l m : List α} {i : Int} {w : World} (hr : RdL ao cap l w) (hm : dropO l i = some m) : RdL (dropA ao cap i (Enc.sz α)) (cap - i.toNat) m w := by
  obtain ⟨⟨h0, h1⟩, rfl⟩ := dropO_some hm
  obtain ⟨r1, r2, r4, r3⟩ := hr
  refine ⟨by rw [List.length_drop]; omega, by omega, fun hn => ?_, fun j u hj => ?_⟩
  · have : ao = none := by
      unfold dropA at hn
      split at hn
      · exact hn
      · cases ao with
        | none => rfl
        | some a => cases hn
    rw [r4 this]; omega
  have e : cellsL l = cellsL (l.take i.toNat) ++ cellsL (l.drop i.toNat) := by rw [← cellsL_append, List.take_append_drop]
  have hlen : (cellsL (l.take i.toNat)).length = i.toNat * Enc.sz α := by rw [cellsL_length, List.length_take, Nat.min_eq_left (by omega)]
  have h2 : (cellsL l)[i.toNat * Enc.sz α + j]? = some u := by
    rw [e, List.getElem?_append_right (by omega), hlen, Nat.add_sub_cancel_left]; exact hj
  obtain ⟨b, o, rfl, hc⟩ := r3 _ u h2
  have hne : ¬ cap = i.toNat := by
    intro ec
    have : l.drop i.toNat = [] := List.drop_eq_nil_of_le (by omega)
    rw [this] at hj
    simp [cellsL] at hj
  refine ⟨b, o + i.toNat * Enc.sz α, ?_, by rw [Nat.add_assoc]; exact hc⟩
  simp [dropA, hne, addr_add]
theorem Rdb.drop {ao : Option Addr} {cap : Nat} {l m : List α} {i : Int} (hr : Rdb w0 M h ao cap l) (hm : dropO l i = some m) : Rdb w0 M h (dropA ao cap i (Enc.sz α)) (cap - i.toNat) m := fun w hw => (hr w hw).drop hm
theorem RO.drop {ao : Option Addr} {cap : Nat} {l m : List α} {i : Int} (hr : RO w0 M (RdL ao cap l)) (hm : dropO l i = some m) : RO w0 M (RdL (dropA ao cap i (Enc.sz α)) (cap - i.toNat) m) := fun w hw => (hr w hw).drop hm
end

/-! ### calls -/
theorem nil_of_none {α : Type} [Enc α] {w0 : World} {M : List Nat} {cap : Nat} {l : List α} (hr : RO w0 M (RdL none cap l)) : l = [] := by
  obtain ⟨h1, _, h3, _⟩ := hr w0 (Fr.refl _ _)
  have := h3 rfl
  exact List.eq_nil_of_length_eq_zero (by omega)
section
variable {P : Program} {n : Nat} {w0 : World} {M : List Nat} {s : Slots} {h : Hp} {ty t : TypeId}

def hkeys (h0 : Hp) : List Nat := (h0.flatMap (·.2)).map (·.1)
/-- the contract of a function: called so in world w, where it holds the resources h0, it returns, and behind the call 'Post' is true of what it returns and of the resources that it leaves -/
def Ct (P : Program) (f : FuncId) (vals : List Value) (w : World) (h0 : Hp) (Post : Value → Hp → Prop) : Prop :=
  Calls P f vals.toArray w fun e w' => ∃ rv h', e = .returned rv ∧ Post rv h' ∧ Sat w (hkeys h0) w' h'
theorem Ct.mono {f : FuncId} {vals : List Value} {w : World} {h0 : Hp} {Post Post' : Value → Hp → Prop} (c : Ct P f vals w h0 Post) (hp : ∀ v h', Post v h' → Post' v h') : Ct P f vals w h0 Post' :=
  Calls.mono c fun _ _ ⟨rv, h', e, p, k⟩ => ⟨rv, h', e, hp _ _ p, k⟩

structure CF (P : Program) (f : FuncId) : Prop where
  ok : ∃ fn, P.funcs[f]? = some fn ∧ fn.body.isNone = false ∧ (fn.name == "runtime.NumGoroutine") = false
theorem run_callFunc {f : FuncId} (cf : CF P f) (vals : Array Value) (w : World) : (callFunc f vals).run P w = .ok (.enter f vals) w := by
  obtain ⟨fn, h1, h2, h3⟩ := cf.ok
  simp only [beq_eq_false_iff_ne, ne_eq] at h3
  have h2' : ¬ fn.body = none := by intro e; simp [e] at h2
  simp [callFunc, h1, h2', h3]

theorem stpU_callG {g : Operand} {f : FuncId} {ca : List Value} {xs : Array Operand} {ts : Array TypeId} {vals : List Value} {h0 : Hp} {Post : Value → Hp → Prop} (r : Nat → Nat) (cf : CF P f) (hg : sev s g = some (.func (.func f) #[] ca.toArray)) (hx : sevs s xs.toList = some vals)
    (hc : ∀ w, Sat w0 M w h → Ct P f (vals ++ ca) w h0 Post) (hm : ∀ b ∈ hkeys h0, ∃ id C o, aget h id = some C ∧ (b, o) ∈ C ∧ ∀ v h', Post v h' → ∃ C', aget (ren r h') id = some C') :
    StpU P n w0 M (.call ⟨.value g, xs, ts⟩) ty s h (fun v U => ∃ h', Post v h' ∧ U = ren r h') := fun a w ha hw o ho ht => by
  unfold Oper.wp
  have hv : xs.map a.eval = vals.toArray := by
    apply Array.ext'
    rw [Array.toList_map]
    exact sevs_map ha hx
  have : (execOp a.eval o).run P w = .ok (.enter f (vals ++ ca).toArray) w := by
    simp [execOp, ho, resolve, ha.ev hg, Deferred.ofValue, invoke, hv, run_callFunc cf]
  rw [this, Oper.upon_enter]
  refine Calls.mono (hc w hw) ?_
  rintro e w' ⟨rv, h', rfl, hp, hs⟩
  refine ⟨rv, _, ⟨h', hp, rfl⟩, rfl, hw.call hs r fun b hb => ?_⟩
  obtain ⟨id, C, o', q1, q2, q3⟩ := hm b hb
  exact ⟨id, C, o', q1, q2, q3 _ _ hp⟩
/-- a call by a plain name of a function that changes nothing -/
theorem stpU_call {f : FuncId} {xs : Array Operand} {ts : Array TypeId} {vals : List Value} {Post : Value → Hp → Prop} (r : Nat → Nat) (cf : CF P f) (hc : ∀ w, Sat w0 M w h → Ct P f vals w [] Post) (hx : sevs s xs.toList = some vals) :
    StpU P n w0 M (.call ⟨.value (.func f), xs, ts⟩) ty s h (fun v U => ∃ h', Post v h' ∧ U = ren r h') :=
  stpU_callG (ca := []) r cf rfl hx (by simpa using hc) (fun b hb => by simp [hkeys] at hb)

theorem RO.nil {α : Type} [Enc α] {w0 : World} {M : List Nat} {ao : Option Addr} : RO w0 M (RdL (α := α) ao 0 []) := fun w _ => ⟨by simp, by simp [maxLen], fun _ => rfl, fun j u hu => by simp [cellsL] at hu⟩
theorem RO.takeN {α : Type} [Enc α] {w0 : World} {M : List Nat} {ao : Option Addr} {cap : Nat} {l : List α} (k : Nat) (hr : RO w0 M (RdL ao cap l)) : RO w0 M (RdL ao cap (l.take k)) := fun w hw => by
  obtain ⟨r1, r2, r4, r3⟩ := hr w hw
  refine ⟨by rw [List.length_take]; omega, r2, r4, fun j u hj => ?_⟩
  rw [cellsL_take, List.getElem?_take] at hj
  split at hj
  · exact r3 j u hj
  · cases hj
theorem RO.cap {α : Type} [Enc α] {w0 : World} {M : List Nat} {ao : Option Addr} {cap : Nat} {l : List α} (hr : RO w0 M (RdL ao cap l)) : l.length ≤ cap ∧ cap ≤ maxLen := ⟨(hr w0 (Fr.refl _ _)).1, (hr w0 (Fr.refl _ _)).2.1⟩
/-- a call by a plain name of a function that changes resources of the caller's -/
theorem Sat.pass {w0 w : World} {M : List Nat} {h h0 : Hp} (k : Sat w0 M w h) {js : List Nat} (hs : Sel h h0 js) (hn : js.Nodup) : Sat w (hkeys h0) w h0 := by
  have k' := k.sel hs hn
  refine ⟨Fr.refl _ _, fun id C hi p hp => ⟨.inr ?_, (k'.own id C hi p hp).2⟩, k'.dis⟩
  unfold hkeys
  refine List.mem_map.2 ⟨p, List.mem_flatMap.2 ⟨(id, C), ?_, hp⟩, rfl⟩
  clear hs k'
  induction h0 with
  | nil => cases hi
  | cons q h0 ih =>
    obtain ⟨j, D⟩ := q
    rw [aget_cons] at hi
    split at hi
    · rename_i e; subst e; simp only [Option.some.injEq] at hi; subst hi; simp
    · exact List.mem_cons_of_mem _ (ih hi)
/-- each block that may change lies in a resource of the caller's that is handed back -/
def Back (h : Hp) (r : Nat → Nat) (Post : Value → Hp → Prop) : Hp → Prop
  | [] => True
  | (i, C) :: h0 => aget h (r i) = some C ∧ (∀ v h', Post v h' → ∃ C', aget (ren r h') (r i) = some C') ∧ Back h r Post h0
theorem Back.mem {h : Hp} {r : Nat → Nat} {Post : Value → Hp → Prop} {h0 : Hp} (hb : Back h r Post h0) : ∀ b ∈ hkeys h0, ∃ id C o, aget h id = some C ∧ (b, o) ∈ C ∧ ∀ v h', Post v h' → ∃ C', aget (ren r h') id = some C' := by
  intro b hm
  unfold hkeys at hm
  obtain ⟨p, hp, rfl⟩ := List.mem_map.1 hm
  obtain ⟨q, hq, hpq⟩ := List.mem_flatMap.1 hp
  induction h0 with
  | nil => cases hq
  | cons x h0 ih =>
    obtain ⟨i, C⟩ := x
    obtain ⟨b1, b2, b3⟩ := hb
    rcases List.mem_cons.1 hq with e | e
    · subst e; exact ⟨r i, C, p.2, b1, hpq, b2⟩
    · exact ih b3 (List.mem_flatMap.2 ⟨q, e, hpq⟩) (List.mem_map.2 ⟨p, List.mem_flatMap.2 ⟨q, e, hpq⟩, rfl⟩) e
theorem stpU_callM {f : FuncId} {xs : Array Operand} {ts : Array TypeId} {vals : List Value} {h0 : Hp} {Post : Value → Hp → Prop} (r : Nat → Nat) (cf : CF P f) (hc : ∀ w, Sat w0 M w h → Back h r Post h0 → Ct P f vals w h0 Post) (hx : sevs s xs.toList = some vals) (hb : Back h r Post h0) :
    StpU P n w0 M (.call ⟨.value (.func f), xs, ts⟩) ty s h (fun v U => ∃ h', Post v h' ∧ U = ren r h') :=
  stpU_callG (ca := []) r cf rfl hx (by simpa using fun w hw => hc w hw hb) hb.mem
theorem stpU_callF {g : Operand} {f : FuncId} {ca : List Value} {xs : Array Operand} {ts : Array TypeId} {vals : List Value} {Post : Value → Hp → Prop} (r : Nat → Nat) (cf : CF P f) (hc : ∀ w, Sat w0 M w h → Ct P f (vals ++ ca) w [] Post) (hg : sev s g = some (.func (.func f) #[] ca.toArray)) (hx : sevs s xs.toList = some vals) :
    StpU P n w0 M (.call ⟨.value g, xs, ts⟩) ty s h (fun v U => ∃ h', Post v h' ∧ U = ren r h') :=
  stpU_callG r cf hg hx hc (fun b hb => by simp [hkeys] at hb)

/-! ### what is read is read by a callee, too -/
theorem RO.pass {φ : World → Prop} (hr : RO w0 M φ) {w : World} (hw : Sat w0 M w h) : RO w [] φ := fun w' hf => hr w' (hw.fr.trans hf (by simp))
theorem RO.passM {φ : World → Prop} (hr : RO w0 M φ) {w : World} (hw : Sat w0 M w h) {h0 : Hp} {r : Nat → Nat} {Post : Value → Hp → Prop} (hb : Back h r Post h0) : RO w (hkeys h0) φ := fun w' hf => hr w' (hw.fr.trans hf fun b hm => by
  obtain ⟨id, C, o, h1, h2, _⟩ := hb.mem b hm
  exact (hw.own id C h1 _ h2).1)
theorem RO.ofRes {φ : World → Prop} {w : World} (hw : Sat w0 M w h) {id : Nat} {C : Res} (hg : aget h id = some C) (hφ : ∀ w', (∀ p ∈ C, w'.heap[p.1]? = some p.2) → φ w') {M' : List Nat} (hM : ∀ b ∈ M', ∃ id' C' o, aget h id' = some C' ∧ (b, o) ∈ C' ∧ id' ≠ id) : RO w M' φ := fun w' hf => by
  refine hφ w' fun p hp => ?_
  obtain ⟨_, b⟩ := hw.own id C hg p hp
  rw [hf.block p.1 (lt_of_heap b) (fun hm => ?_)]
  · exact b
  · obtain ⟨id', C', o, h1, h2, h3⟩ := hM _ hm
    exact hw.dis id' C' id C h1 hg h3 _ h2 p hp rfl
theorem OwnC.rdl {α : Type} [Enc α] {e : TypeId} {ao : Option Addr} {cap : Nat} {l : List α} {C : Res} (ho : OwnC e ao cap l C) (w : World) (hC : ∀ p ∈ C, w.heap[p.1]? = some p.2) : RdL ao cap l w := by
  rcases ho.own hC with ⟨rfl, rfl, rfl⟩ | ⟨g, cur, rfl, rfl, hh, hO⟩
  · exact ⟨by simp, by simp [maxLen], fun _ => rfl, fun j u hu => by simp [cellsL] at hu⟩
  · obtain ⟨ao', cap', e1, e2, e3, e4, e5⟩ := hO.rd
    simp only [Value.slice.injEq] at e1
    obtain ⟨rfl, _, rfl⟩ := e1
    exact ⟨e2, e3, e4, e5⟩
theorem OwnC.pass {α : Type} [Enc α] {e : TypeId} {ao : Option Addr} {cap id : Nat} {l : List α} {C : Res} (hg : aget h id = some C) (ho : OwnC e ao cap l C) {w : World} (hw : Sat w0 M w h) : RO w [] (RdL ao cap l) :=
  RO.ofRes hw hg (fun w' hC => ho.rdl w' hC) (fun b hb => by cases hb)
/-- resource number id is not among those that the callee may change -/
def Apart (r : Nat → Nat) (id : Nat) : Hp → Prop
  | [] => True
  | (i, _) :: h0 => Nat.beq (r i) id = false ∧ Apart r id h0
theorem Apart.mem {r : Nat → Nat} {id : Nat} {Post : Value → Hp → Prop} {h0 : Hp} (ha : Apart r id h0) (hb : Back h r Post h0) : ∀ b ∈ hkeys h0, ∃ id' C' o, aget h id' = some C' ∧ (b, o) ∈ C' ∧ id' ≠ id := by
  intro b hm
  unfold hkeys at hm
  obtain ⟨p, hp, rfl⟩ := List.mem_map.1 hm
  obtain ⟨q, hq, hpq⟩ := List.mem_flatMap.1 hp
  induction h0 with
  | nil => cases hq
  | cons x h0 ih =>
    obtain ⟨i, C⟩ := x
    obtain ⟨b1, b2, b3⟩ := hb
    rcases List.mem_cons.1 hq with e | e
    · subst e; exact ⟨r i, C, p.2, b1, hpq, ne_of_beq_false ha.1⟩
    · exact ih ha.2 b3 (List.mem_flatMap.2 ⟨q, e, hpq⟩) (List.mem_map.2 ⟨p, List.mem_flatMap.2 ⟨q, e, hpq⟩, rfl⟩) e
theorem OwnC.passM {α : Type} [Enc α] {e : TypeId} {ao : Option Addr} {cap id : Nat} {l : List α} {C : Res} (hg : aget h id = some C) (ho : OwnC e ao cap l C) {w : World} (hw : Sat w0 M w h) {h0 : Hp} {r : Nat → Nat} {Post : Value → Hp → Prop} (hb : Back h r Post h0) (ha : Apart r id h0) : RO w (hkeys h0) (RdL ao cap l) :=
  RO.ofRes hw hg (fun w' hC => ho.rdl w' hC) (ha.mem hb)
/-- a variable of the caller's, handed on by its address to a callee that reads it -/
theorem box_pass {b id : Nat} {cs : Array Value} {e : TypeId} {fr : Nat × Nat} (hg : aget h id = some [(b, .cells cs e fr)]) {w : World} (hw : Sat w0 M w h) : RO w [] (fun w' => w'.rangeAt b 0 cs.toList) :=
  RO.ofRes hw hg (fun w' hC => by
    have h1 := hC (b, .cells cs e fr) (by simp)
    simp only [] at h1
    intro j v hv
    rw [cell_of_row w' b (0 + j) cs e fr h1]
    simpa using hv) (fun b hb => by cases hb)

/-! ### the function's own beginning and end -/
inductive RV (P : Program) (w0 : World) (M : List Nat) (s : Slots) (h : Hp) : ResultVar → Value → Prop where
  | tmp {t : Nat} {v : Value} (hv : aget s t = some v) : RV P w0 M s h (.tmp t) v
  | cell1 {c t b o : Nat} {u : Value} (T : TyS P t 1 false) (hv : aget s c = some (.pointer (some ⟨b, o, none⟩))) (hc : Cells w0 M h b o [u]) : RV P w0 M s h (.cell c t) u
  | cellN {c t b o : Nat} {us : List Value} (T : TyS P t us.length true) (hv : aget s c = some (.pointer (some ⟨b, o, none⟩))) (hc : Cells w0 M h b o us) : RV P w0 M s h (.cell c t) (.agg us.toArray)
inductive RVs (P : Program) (w0 : World) (M : List Nat) (s : Slots) (h : Hp) : List ResultVar → List Value → Prop where
  | nil : RVs P w0 M s h [] []
  | cons {r : ResultVar} {rs : List ResultVar} {v : Value} {vs : List Value} (a : RV P w0 M s h r v) (b : RVs P w0 M s h rs vs) : RVs P w0 M s h (r :: rs) (v :: vs)

theorem Has.getD {a : Act} (ha : Has n a s) {t : Nat} {v : Value} (hv : aget s t = some v) : a.tmps.getD t undef = v := by
  have := ha.val t v hv
  simp [this]
def rvSem (a : Act) (r : ResultVar) : Sem Value :=
  match r with
  | .tmp t => pure (a.tmps.getD t undef)
  | .cell c t => do loadVar t (← asAddr (a.tmps.getD c undef))
theorem RV.run {a : Act} {w : World} {r : ResultVar} {v : Value} (hr : RV P w0 M s h r v) (ha : Has n a s) (hw : Sat w0 M w h) :
    (rvSem a r).run P w = .ok v w := by
  unfold rvSem
  cases hr with
  | tmp hv => simp only [ha.getD hv]; rfl
  | @cell1 c t b o u T hv hc =>
    have h1 : w.cell? ⟨b, o, none⟩ = some v := by simpa using hc w hw 0 v rfl
    simp [ha.getD hv, asAddr, loadVar, T.isAgg w, h1]
  | cellN T hv hc =>
    obtain ⟨d, hd, hag⟩ := T.und
    have h1 := run_loadVar_mid (P := P) w _ _ _ _ d (hc w hw) hd (by cases d <;> simp_all) T.inf
    simp [ha.getD hv, asAddr, h1]
theorem RVs.run {a : Act} {w : World} (ha : Has n a s) (hw : Sat w0 M w h) : ∀ {rs : List ResultVar} {vs : List Value}, RVs P w0 M s h rs vs →
    (rs.mapM (rvSem a)).run P w = .ok vs w
  | _, _, .nil => by simp
  | _, _, .cons q r => by
    rw [List.mapM_cons, Sem.run_bind, q.run ha hw]
    simp only [Result.andThen_ok]
    rw [Sem.run_bind, RVs.run ha hw r]
    simp

def rvOf : List Value → Value
  | [v] => v
  | vs => .tuple vs.toArray
theorem results_run {fn : Func} {a : Act} {w : World} (ha : Has n a s) (hw : Sat w0 M w h) {vs : List Value} (hr : RVs P w0 M s h fn.results.toList vs) : (results fn a.tmps).run P w = .ok (rvOf vs) w := by
  have h1 := RVs.run (P := P) ha hw hr
  have h0 : results fn a.tmps = (do let vs ← fn.results.mapM (rvSem a); pure (if h : vs.size = 1 then vs[0] else .tuple vs)) := rfl
  rw [h0]
  have h2 : (fn.results.mapM (rvSem a)).run P w = .ok vs.toArray w := by
    rw [← Array.toArray_toList (xs := fn.results), List.mapM_toArray]
    simp [h1]
  rw [Sem.run_bind, h2]
  simp only [Result.andThen_ok, Sem.run_pure]
  cases vs with
  | nil => rfl
  | cons v vs => cases vs <;> rfl

/-- what the function must leave -/
def Lv (w0 : World) (M : List Nat) (Post : Value → Hp → Prop) (e : Ending) (w' : World) : Prop := ∃ rv h', e = .returned rv ∧ Post rv h' ∧ Sat w0 M w' h'
theorem kw_ret {fn : Func} {Post : Value → Hp → Prop} {rs : Array ResultVar} {vs : List Value} (hf : fn.results = rs) (hr : RVs P w0 M s h rs.toList vs) (h' : Hp) (js : List Nat) (hs : Sel h h' js) (hn : js.Nodup) (hp : Post (rvOf vs) h') : KW n w0 M (bodyPost P fn (Lv w0 M Post)) .ret s h := fun a w ha hw =>
  ⟨ha.defers, rvOf vs, results_run ha hw (by rw [hf]; exact hr), _, h', rfl, hp, hw.sel hs hn⟩
theorem kw_end {fn : Func} {Post : Value → Hp → Prop} {rs : Array ResultVar} {vs : List Value} (hf : fn.results = rs) (hr : RVs P w0 M s h rs.toList vs) (h' : Hp) (js : List Nat) (hs : Sel h h' js) (hn : js.Nodup) (hp : Post (rvOf vs) h') : KW n w0 M (bodyPost P fn (Lv w0 M Post)) .normal s h := fun a w ha hw =>
  ⟨ha.defers, rvOf vs, results_run ha hw (by rw [hf]; exact hr), _, h', rfl, hp, hw.sel hs hn⟩

def args0 : Nat → List Value → Slots
  | _, [] => []
  | i, v :: vs => (i, v) :: args0 (i + 1) vs
theorem args0_get : ∀ (vs : List Value) (i j : Nat) (v : Value), aget (args0 i vs) j = some v → ∃ k, j = i + k ∧ vs[k]? = some v
  | [], _, _, _, hv => by cases hv
  | u :: vs, i, j, v, hv => by
    rw [args0, aget_cons] at hv
    split at hv
    · rename_i e; simp only [Option.some.injEq] at hv; subst hv; exact ⟨0, by omega, rfl⟩
    · obtain ⟨k, e, hk⟩ := args0_get vs (i + 1) j v hv
      exact ⟨k + 1, by omega, hk⟩
theorem ct_of_cw {f : FuncId} {fn : Func} {c : Code} {vals : List Value} {w : World} {h0 : Hp} {Post : Value → Hp → Prop} (hf : P.funcs[f]? = some fn) (hb : fn.body = some c) (hn : fn.ntmps = n) (hl : Nat.ble vals.length n = true)
    (hs : Sat w (hkeys h0) w h0) (k : CW P n w (hkeys h0) c (bodyPost P fn (Lv w (hkeys h0) Post)) (args0 0 vals) h0) : Ct P f vals w h0 Post := by
  have hl' : vals.length ≤ n := Nat.le_of_ble_eq_true hl
  refine calls_of_wp hf hb (k _ w ⟨by simp; omega, rfl, fun i v hv => ?_⟩ hs)
  obtain ⟨j, e, hj⟩ := args0_get vals 0 i v hv
  have : i < vals.length := by have := (List.getElem?_eq_some_iff.1 hj).1; omega
  have e' : i = j := by omega
  subst e'
  simp only []
  rw [Array.getElem?_append_left (by simpa using this)]
  simpa using hj
end
end Go.Proofs.YtciliaiocakdkaaDoor
