/- The engine: a map that a call makes for itself and keeps as a set of numbers; 'clear' of a slice. -/
import Derived.Test.YtciliaiocakdkaaDoorE7
import Derived.Test.YtciliaiocakdkaaDoorSet
import Derived.Carry
set_option linter.unusedSimpArgs false
set_option linter.unusedVariables false
set_option linter.unusedSectionVars false
namespace Go.Proofs.YtciliaiocakdkaaDoor
open Go.RowKit
open Go.Maps (Keyed)

def iv (n : Int) : Value := .int .i64 n
def OwnM (P : Program) (kt : TypeId) (b : Nat) (l : List Int) (C : Res) : Prop :=
  ∃ es clock, C = [(b, .map es clock)] ∧ es.toList.map MapEntry.key = l.map iv ∧ (∀ e ∈ es.toList, e.val = .bool true) ∧ ∀ e ∈ es.toList, ∃ l, keyOf P kt e.key = some l
def hasO (l : List Int) (n : Int) : Option Bool := if -9223372036854775808 ≤ n ∧ n ≤ 9223372036854775807 then some (decide (n ∈ l)) else none
def addO (l : List Int) (n : Int) : Option (List Int) := if (-9223372036854775808 ≤ n ∧ n ≤ 9223372036854775807) ∧ n ∉ l then some (l ++ [n]) else none
theorem iv_mem {l : List Int} {n : Int} : iv n ∈ l.map iv ↔ n ∈ l := by
  rw [List.mem_map]
  constructor
  · rintro ⟨m, hm, e⟩
    simp only [iv, Value.int.injEq, true_and] at e
    subst e; exact hm
  · intro h; exact ⟨n, h, rfl⟩
section
variable {P : Program} {n : Nat} {w0 : World} {M : List Nat} {s : Slots} {h : Hp} {ty t kt e : TypeId} {x y m : Operand} {b id : Nat} {l l' : List Int} {C : Res} {k : Int}
theorem OwnM.setM {w : World} (ho : OwnM P kt b l C) (hC : ∀ p ∈ C, w.heap[p.1]? = some p.2) : SetM P kt w b (l.map iv) := by
  obtain ⟨es, clock, rfl, h1, h2, h3⟩ := ho
  exact ⟨es, clock, hC (b, .map es clock) (by simp), h1, h2, h3⟩
theorem SetM.ownM {w : World} (h : SetM P kt w b (l.map iv)) : ∃ o, w.heap[b]? = some o ∧ OwnM P kt b l [(b, o)] := by
  obtain ⟨es, clock, h0, h1, h2, h3⟩ := h
  exact ⟨_, h0, es, clock, rfl, h1, h2, h3⟩
theorem stpU_makeMap (id : Nat) (kt : TypeId) : StpU P n w0 M (.makeMap t none) ty s h (fun v U => ∃ b C, v = .map (some b) ∧ U = [(id, C)] ∧ OwnM P kt b [] C) := fun a w ha hw o ho ht => by
  unfold Oper.wp
  have : (execOp a.eval o).run P w = .ok (.value (.map (some w.heap.size))) (w.alloc (.map #[] 0)) := by
    simp [execOp, ho, run_makeMap]
  rw [this, Oper.upon_value]
  exact ⟨_, _, ⟨w.heap.size, _, rfl, rfl, #[], 0, rfl, rfl, by simp, by simp⟩, rfl, hw.new id _⟩
theorem stp_has {r : Bool} (K : Keyed P kt) (hkk : ∀ n : Int, -9223372036854775808 ≤ n ∧ n ≤ 9223372036854775807 → ∃ l, keyOf P kt (.int .i64 n) = some l) (hu : P.underlying t = some (.map kt e)) (T : TyZ P e (.bool false)) (hm : sev s m = some (.map (some b))) (hx : sev s x = some (.int .i64 k)) (hg : aget h id = some C) (ho : OwnM P kt b l C) (hr : hasO l k = some r) :
    Stp P n w0 M (.lookup t m x false) ty s h (.bool r) := fun a w ha hw => by
  unfold hasO at hr
  split at hr
  · rename_i hin
    simp only [Option.some.injEq] at hr
    have hS := ho.setM (fun p hp => (hw.own id C hg p hp).2)
    have := hS.look K hu (T.zero w) (hkk k hin) (r := r) (by
      rw [← hr]; unfold Is; rw [decide_eq_true_iff]
      exact (iv_mem (l := l) (n := k)).symm)
    simp [execOp, exo, ha.ev hm, ha.ev hx, this]
  · cases hr
theorem stpU_add (K : Keyed P kt) (hkk : ∀ n : Int, -9223372036854775808 ≤ n ∧ n ≤ 9223372036854775807 → ∃ l, keyOf P kt (.int .i64 n) = some l) (hu : P.underlying t = some (.map kt e)) (hm : sev s m = some (.map (some b))) (hx : sev s x = some (.int .i64 k)) (hy : sev s y = some (.bool true)) (hg : aget h id = some C) (ho : OwnM P kt b l C) (hr : addO l k = some l') :
    StpU P n w0 M (.mapUpdate t m x y) ty s h (fun _ U => ∃ C', U = [(id, C')] ∧ OwnM P kt b l' C') := fun a w ha hw o ho' ht => by
  unfold addO at hr
  split at hr
  · rename_i hin
    simp only [Option.some.injEq] at hr
    subst hr
    have hS := ho.setM (fun p hp => (hw.own id C hg p hp).2)
    obtain ⟨w', hrun, hS', hgr, hsz⟩ := hS.add K hu (key := .int .i64 k) (hkk k hin.1) (fun hc => hin.2 ((iv_mem (l := l) (n := k)).1 hc))
    rw [show (l.map iv ++ [.int .i64 k]) = (l ++ [k]).map iv by simp [iv]] at hS'
    obtain ⟨o', h1, h2⟩ := hS'.ownM
    obtain ⟨es, clock, hC, q⟩ := ho
    unfold Oper.wp
    have : (execOp a.eval o).run P w = .ok .skip w' := by
      simp [execOp, ho', ha.ev hm, ha.ev hx, ha.ev hy, hrun]
    rw [this, Oper.upon_skip]
    subst hC
    refine ⟨undef, _, ⟨_, rfl, h2⟩, rfl, hw.upd hg hgr.os hgr.tape hgr.output (by omega) (fun j hj hl => hgr.block j hl (fun e => hj (by simpa using e))) h1⟩
  · cases hr
end
section
variable {P : Program} {n : Nat} {w0 : World} {M : List Nat} {s : Slots} {h : Hp} {ty t : TypeId} {x : Operand} {α : Type} [Enc α]
/-- 'clear' of a slice that is owned: every element is the zero value -/
theorem stpU_clear {e bytes id : Nat} {z : α} (T : SlT P α t e bytes z) {ao : Option Addr} {len cap : Nat} {l : List α} {C : Res} (hx : sev s x = some (.slice ao len cap)) (hl : len = l.length) (hg : aget h id = some C) (ho : OwnC e ao cap l C) :
    StpU P n w0 M (.call ⟨.builtin .clear, #[x], #[t]⟩) ty s h (fun v U => ∃ C', v = .tuple #[] ∧ U = [(id, C')] ∧ OwnC e ao cap (List.replicate l.length z) C') := fun a w ha hw o ho' ht => by
  subst hl
  obtain ⟨it, zv, hi, hz, hzc, hsz, hby⟩ := T.inf
  have hzs : zv.cells.size = Enc.sz α := by rw [← Array.length_toList, hzc, Enc.len]
  have hzv : (zeroValue e).run P w = .ok zv w := by simp [zeroValue, typeInfo, hi, hz]
  unfold Oper.wp
  have hexec : (execOp a.eval o).run P w = ((Builtin.clear_ #[t] o.type #[.slice ao l.length cap]).run P w).andThen fun v w' => .ok (.value v) w' := by
    simp [execOp, ho', resolve, invoke, builtin, ha.ev hx]
  rw [hexec]
  rcases ho with ⟨rfl, rfl, rfl⟩ | ⟨g, cur, rfl, rfl, r1, r2, r3, r4⟩
  · have hr0 : (Builtin.clear_ #[t] o.type #[.slice ao 0 0]).run P w = .ok (.tuple #[]) w := by
      cases ao <;> simp [Builtin.clear_, run_underlying T.und]
    simp only [List.length_nil] at hr0 ⊢
    rw [hr0]
    simp only [Result.andThen_ok, Oper.upon_value]
    refine ⟨_, _, ⟨[], rfl, rfl, by simpa using OwnC.nil e ao⟩, rfl, hw.subg fun i' v' hv => ?_⟩
    rw [List.singleton_append, aget_cons] at hv
    split at hv
    · rename_i e; subst e; rw [← hv]; exact hg
    · exact hv
  · have hbk := (hw.own id _ hg (g, .cells cur e (0, 0)) (by simp)).2
    simp only [] at hbk
    have hrep : (Builtin.zeroCells zv.cells l.length).toList = cellsL (List.replicate l.length z) := by
      rw [← madeCells_rep T hzc hsz, hsz, ← hzs]; rfl
    by_cases h0 : l.length = 0
    · have : l = [] := List.length_eq_zero_iff.1 h0
      subst this
      have hr0 : (Builtin.clear_ #[t] o.type #[.slice (some ⟨g, 0, none⟩) 0 cap]).run P w = .ok (.tuple #[]) w := by
        simp [Builtin.clear_, run_underlying T.und]
      simp only [List.length_nil] at hr0 ⊢
      rw [hr0]
      simp only [Result.andThen_ok, Oper.upon_value]
      refine ⟨_, _, ⟨_, rfl, rfl, .inr ⟨g, cur, rfl, rfl, by simp, r2, r3, by simp [cellsL]⟩⟩, rfl, hw.subg fun i' v' hv => ?_⟩
      rw [List.singleton_append, aget_cons] at hv
      split at hv
      · rename_i e; subst e; rw [← hv]; exact hg
      · exact hv
    · have hlz : l.length * Enc.sz α ≤ cur.size := Nat.le_trans (Nat.mul_le_mul_right _ r1) r3
      have hcl : (cellsL (List.replicate l.length z)).length = l.length * Enc.sz α := by rw [cellsL_length, List.length_replicate]
      have hst := run_storeCells_cells (P := P) g 0 (cellsL (List.replicate l.length z)) 0 w (fun j hj => by
          rw [cell_of_row w g _ cur e (0, 0) hbk]
          have h3 : 0 + 0 + j < cur.size := by omega
          rw [Array.getElem?_eq_getElem h3]; rfl) (fun j hj => frozen_of_row w g _ cur e hbk) (cells_one _)
      have hr1 : (Builtin.clear_ #[t] o.type #[.slice (some ⟨g, 0, none⟩) l.length cap]).run P w = .ok (.tuple #[]) (w.setCells g 0 (cellsL (List.replicate l.length z))) := by
        obtain ⟨m, hm⟩ : ∃ m, l.length = m + 1 := ⟨l.length - 1, by omega⟩
        rw [hm] at hst hrep ⊢
        simp only [Builtin.clear_, List.getElem?_toArray, List.getElem?_cons_zero, Sem.run_bind, run_underlying T.und, Result.andThen_ok, hzv, hrep]
        simp only [Nat.add_zero] at hst
        rw [hst]; rfl
      rw [hr1]
      simp only [Result.andThen_ok, Oper.upon_value]
      obtain ⟨q1, q2, q3, q4⟩ := setCells_same g (cellsL (List.replicate l.length z)) 0 w
      refine ⟨_, _, ⟨_, rfl, rfl, .inr ⟨g, _, rfl, rfl, by rw [List.length_replicate]; exact r1, r2, ?_, ?_⟩⟩, rfl, hw.upd hg q1 q2 q3 (by omega) (fun j hj _ => setCells_other g _ _ _ _ hj) (heap_setCells g e _ _ w cur hbk (by omega))⟩
      · simp [splice]; omega
      · simp only [splice, List.toList_toArray, List.take_zero, List.nil_append, List.length_replicate]
        rw [← hcl]
        exact List.take_left
end
end Go.Proofs.YtciliaiocakdkaaDoor
