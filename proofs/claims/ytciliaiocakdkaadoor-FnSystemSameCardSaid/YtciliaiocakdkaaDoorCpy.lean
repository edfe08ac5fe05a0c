/- The engine: 'copy' into a slice that is owned, or into its tail; unsigned numbers. -/
import Derived.Test.YtciliaiocakdkaaDoorE7
import Derived.Laws.CopyRow
set_option linter.unusedSimpArgs false
set_option linter.unusedVariables false
set_option linter.unusedSectionVars false
namespace Go.Proofs.YtciliaiocakdkaaDoor
open Go.RowKit
/-- the list l, with m copied over it from place d on -/
def cpy {α : Type} (l : List α) (d : Nat) (m : List α) : List α := l.take d ++ m.take (l.length - d) ++ l.drop (d + min m.length (l.length - d))
theorem cpy_len {α : Type} (l : List α) (d : Nat) (m : List α) : (cpy l d m).length = l.length := by
  unfold cpy; simp only [List.length_append, List.length_take, List.length_drop]; omega
def bAndU (p q : Int) : Int := IntKind.u64.wrap (BitVec.ofInt 64 p &&& BitVec.ofInt 64 q).toNat
section
variable {P : Program} {n : Nat} {w0 : World} {M : List Nat} {s : Slots} {h : Hp} {ty t t' : TypeId} {x y : Operand} {p q : Int}
theorem stp_andU (hx : sev s x = some (.int .u64 p)) (hy : sev s y = some (.int .u64 q)) : Stp P n w0 M (.binOp .and t x y t') ty s h (.int .u64 (bAndU p q)) := fun a w ha hw => by
  simp only [execOp, exo, ha.ev hx, ha.ev hy, eqGuard, binOp, Op.intBits]; rfl
theorem stp_addU {r : Int} (hx : sev s x = some (.int .u64 p)) (hy : sev s y = some (.int .u64 q)) (hr : ckU (p + q) = some r) : Stp P n w0 M (.binOp .add t x y t') ty s h (.int .u64 r) := fun a w ha hw => by
  simp [execOp, exo, ha.ev hx, ha.ev hy, eqGuard, binOp, Op.intArith, wrap_u64_ck hr]
variable {α : Type} [Enc α]
theorem cellsL_drop (l : List α) (k : Nat) : cellsL (l.drop k) = (cellsL l).drop (k * Enc.sz α) := by
  have e : cellsL l = cellsL (l.take k) ++ cellsL (l.drop k) := by rw [← cellsL_append, List.take_append_drop]
  by_cases hk : k ≤ l.length
  · have hlen : (cellsL (l.take k)).length = k * Enc.sz α := by rw [cellsL_length, List.length_take, Nat.min_eq_left hk]
    rw [e, ← hlen]; exact List.drop_left.symm
  · rw [List.drop_eq_nil_of_le (by omega), List.drop_eq_nil_of_le]
    · rfl
    · rw [cellsL_length]; exact Nat.mul_le_mul_right _ (by omega)
theorem splice_take {β : Type} {c X : List β} {a L : Nat} (h : a + X.length ≤ L) (hc : L ≤ c.length) : (c.take a ++ X ++ c.drop (a + X.length)).take L = (c.take L).take a ++ X ++ (c.take L).drop (a + X.length) := by
  have e1 : (c.take a ++ X).length = a + X.length := by rw [List.length_append, List.length_take, Nat.min_eq_left (by omega)]
  rw [List.take_append, List.take_of_length_le (by rw [e1]; exact h), e1, List.take_take, Nat.min_eq_left (by omega), List.drop_take]
theorem stpU_copy {e bytes id : Nat} {z : α} (T : SlT P α t e bytes z) {ao so dst : Option Addr} {cap dl dc len2 cap2 : Nat} {l m : List α} {C : Res} (d : Nat) (hd : d ≤ l.length)
    (hx : sev s x = some (.slice dst dl dc)) (hdl : dl = l.length - d) (hdst : ∀ g, ao = some ⟨g, 0, none⟩ → d < l.length → dst = some ⟨g, d * Enc.sz α, none⟩) (hy : sev s y = some (.slice so len2 cap2)) (hl2 : len2 = m.length) (hg : aget h id = some C) (ho : OwnC e ao cap l C) (hr : Rdb w0 M h so cap2 m) :
    StpU P n w0 M (.call ⟨.builtin .copy, #[x, y], #[t, t']⟩) ty s h (fun v U => ∃ C', v = .int .i64 ((min m.length (l.length - d) : Nat) : Int) ∧ U = [(id, C')] ∧ OwnC e ao cap (cpy l d m) C') := fun a w ha hw o ho' ht => by
  subst hdl hl2
  obtain ⟨it, zv, hi, hz, hzc, hsz, hby⟩ := T.inf
  have hexec : (execOp a.eval o).run P w = ((Builtin.copy_ #[t, t'] o.type #[.slice dst (l.length - d) dc, .slice so m.length cap2]).run P w).andThen fun v w' => .ok (.value v) w' := by
    simp [execOp, ho', resolve, invoke, builtin, ha.ev hx, ha.ev hy]
  unfold Oper.wp
  rw [hexec]
  obtain ⟨k, hk⟩ : ∃ k, k = min m.length (l.length - d) := ⟨_, rfl⟩
  have hmk : cellsL (m.take k) = (cellsL m).take (k * Enc.sz α) := cellsL_take m k
  have hlk : (cellsL (m.take k)).length = k * Enc.sz α := by rw [cellsL_length, List.length_take, Nat.min_eq_left (by omega)]
  have hfc : (Builtin.firstCells it.size k (.slice so m.length cap2)).run P w = .ok (cellsL (m.take k)).toArray w := by
    cases hso : so with
    | none =>
      have hm0 : cap2 = 0 := (hr w hw).2.2.1 hso
      have h0 : k = 0 := by have := (hr w hw).1; omega
      rw [h0]
      simp [Builtin.firstCells, cellsL]
    | some sa =>
      refine run_firstCells_some w _ _ sa _ _ _ (by rw [hlk, hsz]) fun j v hj => ?_
      rw [hmk, List.getElem?_take] at hj
      split at hj
      · obtain ⟨b, o2, e1, e2⟩ := (hr w hw).2.2.2 j v hj
        rw [hso] at e1
        obtain rfl := Option.some.inj e1
        rw [addr_add]; exact e2
      · cases hj
  have hmin : Nat.min m.length (l.length - d) = k := hk.symm
  by_cases h0 : k = 0
  · have hc0 : cpy l d m = l := by
      unfold cpy
      rw [← hk, h0]
      have : m.take (l.length - d) = [] := by
        apply List.eq_nil_of_length_eq_zero
        rw [List.length_take]; omega
      rw [this, List.append_nil, Nat.add_zero, List.take_append_drop]
    have hrun : (Builtin.copy_ #[t, t'] o.type #[.slice dst (l.length - d) dc, .slice so m.length cap2]).run P w = .ok (goInt ((0 : Nat) : Int)) w := by
      rw [h0] at hfc hmin
      have e0 : cellsL (m.take 0) = [] := by simp [cellsL]
      rw [e0] at hfc
      cases dst <;> simp [Builtin.copy_, run_underlying T.und, Builtin.lenOf, sizeOf, typeInfo, hi, hmin, hfc, storeCells]
    rw [hrun]
    simp only [Result.andThen_ok, Oper.upon_value]
    refine ⟨_, [(id, C)], ⟨C, ?_, rfl, by rw [hc0]; exact ho⟩, rfl, hw.subg fun i' v' hv => ?_⟩
    · rw [← hk, h0]; rfl
    rw [List.singleton_append, aget_cons] at hv
    split at hv
    · rename_i e; subst e; rw [← hv]; exact hg
    · exact hv
  · rcases ho with ⟨rfl, _⟩ | ⟨g, cur, rfl, rfl, r1, r2, r3, r4⟩
    · simp at hk; omega
    · have hdl : d < l.length := by omega
      obtain rfl := hdst g rfl hdl
      have hbk := (hw.own id _ hg (g, .cells cur e (0, 0)) (by simp)).2
      simp only [] at hbk
      have hL : l.length * Enc.sz α ≤ cur.size := Nat.le_trans (Nat.mul_le_mul_right _ r1) r3
      have hdk : d * Enc.sz α + k * Enc.sz α ≤ l.length * Enc.sz α := by rw [← Nat.add_mul]; exact Nat.mul_le_mul_right _ (by omega)
      have hst := run_storeCells_cells (P := P) g (d * Enc.sz α) (cellsL (m.take k)) 0 w (fun j hj => by
          rw [cell_of_row w g _ cur e (0, 0) hbk]
          have h3 : d * Enc.sz α + 0 + j < cur.size := by omega
          rw [Array.getElem?_eq_getElem h3]; rfl) (fun j hj => frozen_of_row w g _ cur e hbk) (cells_one _)
      simp only [Nat.add_zero] at hst
      have hrun : (Builtin.copy_ #[t, t'] o.type #[.slice (some ⟨g, d * Enc.sz α, none⟩) (l.length - d) dc, .slice so m.length cap2]).run P w = .ok (goInt ((k : Nat) : Int)) (w.setCells g (d * Enc.sz α) (cellsL (m.take k))) := by
        simp [Builtin.copy_, run_underlying T.und, Builtin.lenOf, sizeOf, typeInfo, hi, hmin, hfc, hst]
      rw [hrun]
      simp only [Result.andThen_ok, Oper.upon_value]
      obtain ⟨q1, q2, q3, q4⟩ := setCells_same g (cellsL (m.take k)) (d * Enc.sz α) w
      refine ⟨_, _, ⟨_, by rw [hk]; rfl, rfl, .inr ⟨g, _, rfl, rfl, by rw [cpy_len]; exact r1, r2, ?_, ?_⟩⟩, rfl, hw.upd hg q1 q2 q3 (by omega) (fun j hj _ => setCells_other g _ _ _ _ hj) (heap_setCells g e _ _ w cur hbk (by rw [hlk]; omega))⟩
      · simp only [splice, List.size_toArray, List.length_append, List.length_take, List.length_drop, Array.length_toList, hlk]; omega
      · simp only [splice, List.toList_toArray, cpy_len]
        have hcd : cpy l d m = l.take d ++ m.take k ++ l.drop (d + k) := by
          unfold cpy
          rw [← hk]
          congr 2
          apply List.ext_getElem?
          intro j
          rw [List.getElem?_take, List.getElem?_take]
          by_cases hj : j < k
          · rw [if_pos (by omega), if_pos hj]
          · rw [if_neg hj]
            split
            · rw [List.getElem?_eq_none (by omega)]
            · rfl
        rw [hcd, cellsL_append, cellsL_append, cellsL_take l d, cellsL_drop, ← r4, Nat.add_mul, ← hlk]
        exact splice_take (by rw [hlk]; exact hdk) (by rw [Array.length_toList]; exact hL)
theorem stpU_copyW {e bytes id : Nat} {z : α} (T : SlT P α t e bytes z) {ao so : Option Addr} {cap len dc len2 cap2 : Nat} {l m : List α} {C : Res}
    (hx : sev s x = some (.slice ao len dc)) (hl : len = l.length) (hy : sev s y = some (.slice so len2 cap2)) (hl2 : len2 = m.length) (hg : aget h id = some C) (ho : OwnC e ao cap l C) (hr : Rdb w0 M h so cap2 m) :
    StpU P n w0 M (.call ⟨.builtin .copy, #[x, y], #[t, t']⟩) ty s h (fun v U => ∃ C', v = .int .i64 ((min m.length (l.length - 0) : Nat) : Int) ∧ U = [(id, C')] ∧ OwnC e ao cap (cpy l 0 m) C') :=
  stpU_copy T 0 (Nat.zero_le _) hx hl (fun g hg _ => by rw [hg]; simp) hy hl2 hg ho hr
theorem stpU_copyD {e bytes id : Nat} {z : α} (T : SlT P α t e bytes z) {ao so : Option Addr} {cap dl dc len2 cap2 : Nat} {l l1 m : List α} {i : Int} {C : Res}
    (hx : sev s x = some (.slice (dropA ao cap i (Enc.sz α)) dl dc)) (hm : dropO l i = some l1) (hdl : dl = l1.length) (hy : sev s y = some (.slice so len2 cap2)) (hl2 : len2 = m.length) (hg : aget h id = some C) (ho : OwnC e ao cap l C) (hr : Rdb w0 M h so cap2 m) :
    StpU P n w0 M (.call ⟨.builtin .copy, #[x, y], #[t, t']⟩) ty s h (fun v U => ∃ C', v = .int .i64 ((min m.length (l.length - i.toNat) : Nat) : Int) ∧ U = [(id, C')] ∧ OwnC e ao cap (cpy l i.toNat m) C') := by
  obtain ⟨hi, e1⟩ := dropO_some hm
  have hlc := OwnC.len ho
  refine stpU_copy T i.toNat (by omega) hx (by rw [hdl, e1, List.length_drop]) (fun g hg hlt => ?_) hy hl2 hg ho hr
  unfold dropA
  rw [if_neg (by omega), hg]
  simp [addr_add]
end
end Go.Proofs.YtciliaiocakdkaaDoor
