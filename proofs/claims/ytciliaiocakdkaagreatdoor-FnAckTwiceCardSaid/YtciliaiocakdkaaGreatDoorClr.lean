/- The engine: 'clear' of the tail of a slice that is owned; the head of an owned slice. -/
import Derived.Test.YtciliaiocakdkaaGreatDoorMap
import Derived.Test.YtciliaiocakdkaaGreatDoorCpy
set_option linter.unusedSimpArgs false
set_option linter.unusedVariables false
set_option linter.unusedSectionVars false
namespace Go.Proofs.YtciliaiocakdkaaGreatDoor
open Go.RowKit
section
variable {P : Program} {n : Nat} {w0 : World} {M : List Nat} {s : Slots} {h : Hp} {ty t : TypeId} {x : Operand} {α : Type} [Enc α]
theorem box_passM {b id : Nat} {cs : Array Value} {e : TypeId} {fr : Nat × Nat} (hg : aget h id = some [(b, .cells cs e fr)]) {w : World} (hw : Sat w0 M w h) {h0 : Hp} {r : Nat → Nat} {Post : Value → Hp → Prop} (hb : Back h r Post h0) (ha : Apart r id h0) : RO w (hkeys h0) (fun w' => w'.rangeAt b 0 cs.toList) :=
  RO.ofRes hw hg (fun w' hC => by
    have h1 := hC (b, .cells cs e fr) (by simp)
    simp only [] at h1
    intro j v hv
    rw [cell_of_row w' b (0 + j) cs e fr h1]
    simpa using hv) (ha.mem hb)
theorem OwnC.takeL {e : TypeId} {ao : Option Addr} {cap : Nat} {l : List α} {C : Res} (ho : OwnC e ao cap l C) (k : Nat) : OwnC e ao cap (l.take k) C := by
  rcases ho with ⟨rfl, h2, h3⟩ | ⟨g, cur, rfl, rfl, h1, h2, h3, h4⟩
  · exact .inl ⟨by simp, h2, h3⟩
  · refine .inr ⟨g, cur, rfl, rfl, by rw [List.length_take]; omega, h2, h3, ?_⟩
    rw [cellsL_take, ← h4, List.take_take, List.length_take]
    by_cases hk : k ≤ l.length
    · rw [Nat.min_eq_left hk, Nat.min_eq_left (Nat.mul_le_mul_right _ hk)]
    · rw [Nat.min_eq_right (by omega), Nat.min_eq_right (Nat.mul_le_mul_right _ (by omega))]
theorem OwnC.takeO {e : TypeId} {ao : Option Addr} {cap : Nat} {l m : List α} {C : Res} {i : Int} (ho : OwnC e ao cap l C) (hm : takeO l i = some m) : OwnC e ao cap m C := by
  obtain ⟨_, rfl⟩ := takeO_some hm
  exact ho.takeL _
theorem stpU_clearD {e bytes id : Nat} {z : α} (T : SlT P α t e bytes z) {ao : Option Addr} {cap dl dc : Nat} {l l1 : List α} {i : Int} {C : Res}
    (hx : sev s x = some (.slice (dropA ao cap i (Enc.sz α)) dl dc)) (hm : dropO l i = some l1) (hdl : dl = l1.length) (hg : aget h id = some C) (ho : OwnC e ao cap l C) :
    StpU P n w0 M (.call ⟨.builtin .clear, #[x], #[t]⟩) ty s h (fun v U => ∃ C', v = .tuple #[] ∧ U = [(id, C')] ∧ OwnC e ao cap (cpy l i.toNat (List.replicate l1.length z)) C') := fun a w ha hw o ho' ht => by
  obtain ⟨hi0, e1⟩ := dropO_some hm
  have hlc := OwnC.len ho
  have e2 : l1.length = l.length - i.toNat := by rw [e1, List.length_drop]
  generalize hd : i.toNat = d at *
  subst hdl
  obtain ⟨it, zv, hi, hz, hzc, hsz, hby⟩ := T.inf
  have hzs : zv.cells.size = Enc.sz α := by rw [← Array.length_toList, hzc, Enc.len]
  have hzv : (zeroValue e).run P w = .ok zv w := by simp [zeroValue, typeInfo, hi, hz]
  unfold Oper.wp
  by_cases h0 : l1.length = 0
  · have hexec : (execOp a.eval o).run P w = .ok (.value (.tuple #[])) w := by
      rw [h0] at hx
      have hx' : ∃ q, a.eval x = .slice q 0 dc := ⟨_, ha.ev hx⟩
      obtain ⟨q, hq⟩ := hx'
      cases q <;> simp [execOp, ho', resolve, invoke, builtin, hq, Builtin.clear_, run_underlying T.und]
    rw [hexec]
    simp only [Oper.upon_value]
    have hc0 : cpy l d (List.replicate l1.length z) = l := by
      unfold cpy
      rw [h0]
      simp
    refine ⟨_, [(id, C)], ⟨C, rfl, rfl, by rw [hc0]; exact ho⟩, rfl, hw.subg fun i' v' hv => ?_⟩
    rw [List.singleton_append, aget_cons] at hv
    split at hv
    · rename_i e; subst e; rw [← hv]; exact hg
    · exact hv
  · rcases ho with ⟨rfl, _⟩ | ⟨g, cur, rfl, rfl, r1, r2, r3, r4⟩
    · exact absurd (by simpa using e2) h0
    · have hdl : d < l.length := by omega
      have hda : dropA (some ⟨g, 0, none⟩) cap i (Enc.sz α) = some ⟨g, d * Enc.sz α, none⟩ := by
        unfold dropA
        rw [hd, if_neg (by omega)]
        simp [addr_add]
      rw [hda] at hx
      have hbk := (hw.own id _ hg (g, .cells cur e (0, 0)) (by simp)).2
      simp only [] at hbk
      have hL : l.length * Enc.sz α ≤ cur.size := Nat.le_trans (Nat.mul_le_mul_right _ r1) r3
      have hdk : d * Enc.sz α + l1.length * Enc.sz α = l.length * Enc.sz α := by rw [← Nat.add_mul]; congr 1; omega
      have hrep : (Builtin.zeroCells zv.cells l1.length).toList = cellsL (List.replicate l1.length z) := by
        rw [← madeCells_rep T hzc hsz, hsz, ← hzs]; rfl
      have hcl : (cellsL (List.replicate l1.length z)).length = l1.length * Enc.sz α := by rw [cellsL_length, List.length_replicate]
      have hst := run_storeCells_cells (P := P) g (d * Enc.sz α) (cellsL (List.replicate l1.length z)) 0 w (fun j hj => by
          rw [cell_of_row w g _ cur e (0, 0) hbk]
          have h3 : d * Enc.sz α + 0 + j < cur.size := by omega
          rw [Array.getElem?_eq_getElem h3]; rfl) (fun j hj => frozen_of_row w g _ cur e hbk) (cells_one _)
      have hr1 : (Builtin.clear_ #[t] o.type #[.slice (some ⟨g, d * Enc.sz α, none⟩) l1.length dc]).run P w = .ok (.tuple #[]) (w.setCells g (d * Enc.sz α) (cellsL (List.replicate l1.length z))) := by
        obtain ⟨m, hm⟩ : ∃ m, l1.length = m + 1 := ⟨l1.length - 1, by omega⟩
        rw [hm] at hst hrep ⊢
        simp only [Builtin.clear_, List.getElem?_toArray, List.getElem?_cons_zero, Sem.run_bind, run_underlying T.und, Result.andThen_ok, hzv, hrep]
        simp only [Nat.add_zero] at hst
        rw [hst]; rfl
      have hexec : (execOp a.eval o).run P w = ((Builtin.clear_ #[t] o.type #[.slice (some ⟨g, d * Enc.sz α, none⟩) l1.length dc]).run P w).andThen fun v w' => .ok (.value v) w' := by
        simp [execOp, ho', resolve, invoke, builtin, ha.ev hx]
      rw [hexec, hr1]
      simp only [Result.andThen_ok, Oper.upon_value]
      obtain ⟨q1, q2, q3, q4⟩ := setCells_same g (cellsL (List.replicate l1.length z)) (d * Enc.sz α) w
      refine ⟨_, _, ⟨_, rfl, rfl, .inr ⟨g, _, rfl, rfl, by rw [cpy_len]; exact r1, r2, ?_, ?_⟩⟩, rfl, hw.upd hg q1 q2 q3 (by omega) (fun j hj _ => setCells_other g _ _ _ _ hj) (heap_setCells g e _ _ w cur hbk (by rw [hcl]; omega))⟩
      · simp only [splice, List.size_toArray, List.length_append, List.length_take, List.length_drop, Array.length_toList, hcl]; omega
      · simp only [splice, List.toList_toArray, cpy_len]
        have hcd : cpy l d (List.replicate l1.length z) = l.take d ++ List.replicate l1.length z ++ l.drop (d + l1.length) := by
          unfold cpy
          rw [← e2, List.length_replicate, Nat.min_self, List.take_of_length_le (Nat.le_of_eq List.length_replicate)]
        rw [hcd, cellsL_append, cellsL_append, cellsL_take l d, cellsL_drop, ← r4, Nat.add_mul, ← hcl]
        exact splice_take (by rw [hcl]; omega) (by rw [Array.length_toList]; exact hL)
end
end Go.Proofs.YtciliaiocakdkaaGreatDoor
