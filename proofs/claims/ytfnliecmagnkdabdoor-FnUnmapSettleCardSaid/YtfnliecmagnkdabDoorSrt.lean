/- slices.Sort and slices.Compact at []int: the kit's contracts, laid at this dump, in the engine's words. -/
import Derived.Ground.NamesProg
import Derived.Ground.Names2Prog
import Derived.Shelf.Sort.Plain
import Derived.Shelf.Slices.In.SortNone
import Derived.Shelf.Slices.CompactI
import Derived.Test.YtfnliecmagnkdabDoorE7
import Derived.Test.YtfnliecmagnkdabDoorProg
set_option linter.unusedSimpArgs false
set_option linter.unusedVariables false
namespace Go.Proofs
open Go.Shelf Go.Lib
def YtfnliecmagnkdabDoor.sortL_ren : Go.Shelf.Ren := ⟨fun | 189 => 81 | 125 => 125 | 257 => 124 | 128 => 149 | 129 => 150 | 294 => 140 | 295 => 141 | 296 => 142 | 297 => 143 | 298 => 144 | 299 => 145 | 216 => 146 | 300 => 147 | 301 => 148 | 328 => 156 | 329 => 157 | 330 => 158 | 331 => 159 | 332 => 160 | 215 => 161 | 343 => 163 | n => n, fun | 28 => 22 | 3 => 3 | 46 => 144 | 0 => 0 | 51 => 166 | 53 => 143 | 4 => 4 | 183 => 159 | 182 => 158 | 131 => 163 | 5 => 5 | 9 => 9 | 218 => 174 | 222 => 178 | 228 => 181 | 229 => 78 | n => n, fun | n => n⟩
theorem YtfnliecmagnkdabDoor.sortL : Go.Proofs.Lays.n189 Tryd.prog YtfnliecmagnkdabDoor.sortL_ren := {
  mixed := by kernel_rfl,
  f125 := Tryd.func125.trans (congrArg some (by kernel_rfl)),
  f128 := Tryd.func149.trans (congrArg some (by kernel_rfl)),
  f129 := Tryd.func150.trans (congrArg some (by kernel_rfl)),
  f189 := Tryd.func81.trans (congrArg some (by kernel_rfl)),
  f215 := Tryd.func161.trans (congrArg some (by kernel_rfl)),
  f216 := Tryd.func146.trans (congrArg some (by kernel_rfl)),
  f257 := Tryd.func124.trans (congrArg some (by kernel_rfl)),
  f294 := Tryd.func140.trans (congrArg some (by kernel_rfl)),
  f295 := Tryd.func141.trans (congrArg some (by kernel_rfl)),
  f296 := Tryd.func142.trans (congrArg some (by kernel_rfl)),
  f297 := Tryd.func143.trans (congrArg some (by kernel_rfl)),
  f298 := Tryd.func144.trans (congrArg some (by kernel_rfl)),
  f299 := Tryd.func145.trans (congrArg some (by kernel_rfl)),
  f300 := Tryd.func147.trans (congrArg some (by kernel_rfl)),
  f301 := Tryd.func148.trans (congrArg some (by kernel_rfl)),
  f328 := Tryd.func156.trans (congrArg some (by kernel_rfl)),
  f329 := Tryd.func157.trans (congrArg some (by kernel_rfl)),
  f330 := Tryd.func158.trans (congrArg some (by kernel_rfl)),
  f331 := Tryd.func159.trans (congrArg some (by kernel_rfl)),
  f332 := Tryd.func160.trans (congrArg some (by kernel_rfl)),
  f343 := Tryd.func163.trans (congrArg some (by kernel_rfl)),
  t0 := Tryd.underlying0,
  a0 := Tryd.isAgg0,
  z0 := Tryd.sizeOf0,
  v0 := Tryd.zeroValue0,
  t3 := Tryd.underlying3,
  a3 := Tryd.isAgg3,
  z3 := Tryd.sizeOf3,
  v3 := Tryd.zeroValue3,
  t4 := Tryd.underlying4,
  a4 := Tryd.isAgg4,
  z4 := Tryd.sizeOf4,
  v4 := Tryd.zeroValue4,
  t5 := Tryd.underlying5,
  a5 := Tryd.isAgg5,
  z5 := Tryd.sizeOf5,
  v5 := Tryd.zeroValue5,
  t9 := Tryd.underlying9,
  a9 := Tryd.isAgg9,
  z9 := Tryd.sizeOf9,
  v9 := Tryd.zeroValue9,
  t28 := Tryd.underlying22,
  a28 := Tryd.isAgg22,
  z28 := Tryd.sizeOf22,
  v28 := Tryd.zeroValue22,
  t46 := Tryd.underlying144,
  a46 := Tryd.isAgg144,
  z46 := Tryd.sizeOf144,
  v46 := Tryd.zeroValue144,
  t51 := Tryd.underlying166,
  a51 := Tryd.isAgg166,
  z51 := Tryd.sizeOf166,
  v51 := Tryd.zeroValue166,
  t53 := Tryd.underlying143,
  a53 := Tryd.isAgg143,
  z53 := Tryd.sizeOf143,
  v53 := Tryd.zeroValue143,
  t131 := Tryd.underlying163,
  a131 := Tryd.isAgg163,
  z131 := Tryd.sizeOf163,
  v131 := Tryd.zeroValue163,
  t182 := Tryd.underlying158,
  a182 := Tryd.isAgg158,
  z182 := Tryd.sizeOf158,
  v182 := Tryd.zeroValue158,
  t183 := Tryd.underlying159,
  a183 := Tryd.isAgg159,
  z183 := Tryd.sizeOf159,
  v183 := Tryd.zeroValue159,
  t218 := Tryd.underlying174,
  a218 := Tryd.isAgg174,
  z218 := Tryd.sizeOf174,
  v218 := Tryd.zeroValue174,
  t222 := Tryd.underlying178,
  a222 := Tryd.isAgg178,
  z222 := Tryd.sizeOf178,
  v222 := Tryd.zeroValue178,
  t228 := Tryd.underlying181,
  a228 := Tryd.isAgg181,
  z228 := Tryd.sizeOf181,
  v228 := Tryd.zeroValue181,
  t229 := Tryd.underlying78,
  a229 := Tryd.isAgg78,
  z229 := Tryd.sizeOf78,
  v229 := Tryd.zeroValue78 }
def YtfnliecmagnkdabDoor.compL_ren : Go.Shelf.Ren := ⟨fun | 20 => 83 | n => n, fun | 22 => 22 | 3 => 3 | 4 => 4 | 0 => 0 | n => n, fun | n => n⟩
theorem YtfnliecmagnkdabDoor.compL : Go.Proofs.Lays2.n20 Tryd.prog YtfnliecmagnkdabDoor.compL_ren := {
  mixed := by kernel_rfl,
  f20 := Tryd.func83.trans (congrArg some (by kernel_rfl)),
  t0 := Tryd.underlying0,
  a0 := Tryd.isAgg0,
  z0 := Tryd.sizeOf0,
  v0 := Tryd.zeroValue0,
  t3 := Tryd.underlying3,
  a3 := Tryd.isAgg3,
  z3 := Tryd.sizeOf3,
  v3 := Tryd.zeroValue3,
  t4 := Tryd.underlying4,
  a4 := Tryd.isAgg4,
  z4 := Tryd.sizeOf4,
  v4 := Tryd.zeroValue4,
  t22 := Tryd.underlying22,
  a22 := Tryd.isAgg22,
  z22 := Tryd.sizeOf22,
  v22 := Tryd.zeroValue22,
  i3 := by kernel_rfl }
end Go.Proofs
namespace Go.Proofs.YtfnliecmagnkdabDoor
open Go.RowKit Go.Sort Go.Shelf Go.Lib
def srt (l : List Int) : List Int := l.mergeSort fun x y => decide (x ≤ y)
theorem srt_len (l : List Int) : (srt l).length = l.length := List.length_mergeSort l
theorem OwnC.pre {e : TypeId} {ao : Option Addr} {cap : Nat} {a b : List Int} {C : Res} (ho : OwnC e ao cap (a ++ b) C) : OwnC e ao cap a C := by
  rcases ho with ⟨h1, h2, h3⟩ | ⟨g, cur, rfl, rfl, h1, h2, h3, h4⟩
  · exact .inl ⟨(List.append_eq_nil_iff.1 h1).1, h2, h3⟩
  · refine .inr ⟨g, cur, rfl, rfl, by simp at h1; omega, h2, h3, ?_⟩
    rw [cellsL_append] at h4
    have := congrArg (List.take (cellsL a).length) h4
    rw [List.take_left, List.take_take, Nat.min_eq_left (by rw [cellsL_length]; exact Nat.mul_le_mul_right _ (by simp))] at this
    rw [← cellsL_length]; exact this
theorem cellsL_get (m : List Int) (j : Nat) : (cellsL m)[j]? = (m[j]?).map (Value.int .i64) := by
  have := cellsL_at m j 0 (by show 0 < 1; decide)
  rw [show j * Enc.sz Int + 0 = j from by show j * 1 + 0 = j; omega] at this
  rw [this]
  cases m[j]? <;> rfl
theorem putCells_take (m : List Int) (cur : Array Value) (h : m.length ≤ cur.size) : (putCells (Value.int .i64) 0 m.toArray cur).toList.take (m.length * Enc.sz Int) = cellsL m := by
  apply List.ext_getElem?
  intro j
  rw [show m.length * Enc.sz Int = m.length from Nat.mul_one _, List.getElem?_take, cellsL_get]
  split
  · rename_i hj
    simp only [putCells, Array.getElem?_toList, Array.getElem?_mapIdx]
    rw [Array.getElem?_eq_getElem (by omega), List.getElem?_eq_getElem hj]
    simp [hj, getElem!_pos]
  · rename_i hj
    rw [List.getElem?_eq_none (by omega)]; rfl
theorem putCells_size (m : List Int) (cur : Array Value) : (putCells (Value.int .i64) 0 m.toArray cur).size = cur.size := by simp [putCells]
/-- the owned row holds another list of the same length -/
theorem own_put {e : TypeId} {g cap : Nat} {cur : Array Value} {l m : List Int} {w : World} (n : Nat) (os : Array Obj) (h1 : l.length ≤ cap) (h2 : cap ≤ maxLen) (h3 : cap * Enc.sz Int ≤ cur.size) (hm : m.length = l.length)
    (hM : Sat w (hkeys [(0, [(g, .cells cur e (0, 0))])]) w [(0, [(g, .cells cur e (0, 0))])]) :
    OwnC e (some ⟨g, 0, none⟩) cap m [(g, .cells (putCells (Value.int .i64) 0 m.toArray cur) e (0, 0))] ∧
    Sat w (hkeys [(0, [(g, .cells cur e (0, 0))])]) (grow (putRow (Value.int .i64) (Sort.ahead w n) g 0 m.toArray) os) [(0, [(g, .cells (putCells (Value.int .i64) 0 m.toArray cur) e (0, 0))])] := by
  have hc : cap ≤ cur.size := by have : cap * 1 ≤ cur.size := h3; omega
  have hb := (hM.own 0 _ rfl (g, .cells cur e (0, 0)) (by simp)).2
  simp only [] at hb
  have hlt := lt_of_heap hb
  refine ⟨.inr ⟨g, _, rfl, rfl, by omega, h2, by rw [putCells_size]; exact h3, putCells_take m cur (by omega)⟩, ?_⟩
  refine (hM.upd (w' := grow (putRow (Value.int .i64) (Sort.ahead w n) g 0 m.toArray) os) (id := 0) (o' := .cells (putCells (Value.int .i64) 0 m.toArray cur) e (0, 0)) rfl rfl rfl rfl (by simp [grow]) (fun j hj hjl => ?_) ?_).subg (fun i v hi => ?_)
  · simp only [grow, putRow, mapBlock, Sort.ahead]
    rw [Array.getElem?_append_left (by simpa using hjl), Array.getElem?_modify, if_neg (fun e => hj e.symm)]
  · simp only [grow, putRow, mapBlock, Sort.ahead]
    rw [Array.getElem?_append_left (by simpa using hlt), Array.getElem?_modify, if_pos rfl, hb]
    rfl
  · rw [aget_cons] at hi ⊢
    split at hi
    · rename_i e; rw [if_pos e]; exact hi
    · cases hi
theorem own_holds {e : TypeId} {g : Nat} {cur : Array Value} {l : List Int} {w : World} (hb : w.heap[g]? = some (.cells cur e (0, 0))) (h4 : cur.toList.take (l.length * Enc.sz Int) = cellsL l) : Holds (Value.int .i64) w g 0 l.toArray := by
  intro j hj
  have hj' : j < l.length := by simpa using hj
  refine ⟨?_, frozen_of_row w g (0 + j) cur e hb⟩
  rw [cell_of_row w g (0 + j) cur e (0, 0) hb]
  have := congrArg (fun x : List Value => x[j]?) h4
  simp only [List.getElem?_take, cellsL_get] at this
  rw [if_pos (by show j < l.length * 1; omega), List.getElem?_eq_getElem hj'] at this
  simp only [Nat.zero_add]
  simpa [hj', getElem!_pos] using this
theorem sort_ct (e : TypeId) {ao : Option Addr} {n cap : Nat} {l : List Int} {C : Res} (w : World) (hn : n = l.length) (hl : l.length ≤ 4294967296) (ho : OwnC e ao cap l C) (hM : Sat w (hkeys [(0, C)]) w [(0, C)]) :
    Ct Tryd.prog 81 [.slice ao n cap] w [(0, C)] (fun rv h' => ∃ D : Res, rv = .tuple #[] ∧ h' = [(0, D)] ∧ n = (srt l).length ∧ OwnC e ao cap (srt l) D) := by
  subst hn
  rcases ho with ⟨rfl, rfl, rfl⟩ | ⟨g, cur, rfl, rfl, h1, h2, h3, h4⟩
  · refine Calls.mono (Any.slices_Sort_int_none YtfnliecmagnkdabDoor.sortL ao 0 w) ?_
    rintro _ _ ⟨rfl, rfl⟩
    exact ⟨_, [(0, [])], rfl, ⟨[], rfl, rfl, (srt_len _).symm, by rw [show srt [] = [] from List.eq_nil_of_length_eq_zero (srt_len [])]; exact OwnC.nil e ao⟩, hM⟩
  · have hb := (hM.own 0 _ rfl (g, .cells cur e (0, 0)) (by simp)).2
    simp only [] at hb
    refine Calls.mono (Any.slices_Sort_int YtfnliecmagnkdabDoor.sortL g 0 cap l w (own_holds hb h4) (lt_of_heap hb) (by omega)) ?_
    rintro _ _ ⟨rfl, n, os, rfl⟩
    obtain ⟨q1, q2⟩ := own_put (m := srt l) n os h1 h2 h3 (srt_len l) hM
    exact ⟨_, _, rfl, ⟨_, rfl, rfl, (srt_len l).symm, q1⟩, q2⟩
theorem compact_le (l : List Int) : (Lib.compact l).length ≤ l.length := by
  unfold Lib.compact Lib.compactUpTo
  rw [List.length_map]
  exact Nat.le_trans (List.length_filter_le _ _) (by simp)
theorem grow_none (w : World) : grow w #[] = w := by simp [grow]
theorem compact_ct (e : TypeId) {ao : Option Addr} {n cap : Nat} {l : List Int} {C : Res} (w : World) (hn : n = l.length) (hl : l.length ≤ 4294967296) (ho : OwnC e ao cap l C) (hM : Sat w (hkeys [(0, C)]) w [(0, C)]) :
    Ct Tryd.prog 83 [.slice ao n cap] w [(0, C)] (fun rv h' => ∃ (x : Option Addr) (y z : Nat) (D : Res), rv = .slice x y z ∧ h' = [(0, []), (1, D)] ∧ y = (Lib.compact l).length ∧ OwnC e x z (Lib.compact l) D) := by
  subst hn
  have ren : ∀ {w' : World} {D : Res}, Sat w (hkeys [(0, C)]) w' [(0, D)] → Sat w (hkeys [(0, C)]) w' [(0, []), (1, D)] := fun k => by
    have k1 := (k.sel (h' := [(1, _)]) (js := [0]) ⟨0, [], rfl, rfl, trivial⟩ (by decide)).addNil 0
    exact k1
  rcases ho with ⟨rfl, rfl, rfl⟩ | ⟨g, cur, rfl, rfl, h1, h2, h3, h4⟩
  · refine Calls.mono (Any.slices_Compact_int_empty YtfnliecmagnkdabDoor.compL ao 0 w) ?_
    rintro _ _ ⟨rfl, rfl⟩
    have e0 : Lib.compact ([] : List Int) = [] := List.eq_nil_of_length_eq_zero (Nat.le_zero.1 (compact_le []))
    exact ⟨_, _, rfl, ⟨_, _, _, [], rfl, rfl, by rw [e0]; rfl, by rw [e0]; exact OwnC.nil e ao⟩, ren hM⟩
  · have hb := (hM.own 0 _ rfl (g, .cells cur e (0, 0)) (by simp)).2
    simp only [] at hb
    refine Calls.mono (Any.slices_Compact_int YtfnliecmagnkdabDoor.compL g 0 cap l w (own_holds hb h4) (by omega) h1) ?_
    rintro _ _ ⟨rfl, q, rfl⟩
    obtain ⟨q1, q2⟩ := own_put (m := Lib.compact l ++ List.replicate (l.length - (Lib.compact l).length) 0) q #[] h1 h2 h3 (by have := compact_le l; simp; omega) hM
    rw [grow_none] at q2
    exact ⟨_, _, rfl, ⟨_, _, _, _, rfl, rfl, rfl, q1.pre⟩, ren q2⟩
end Go.Proofs.YtfnliecmagnkdabDoor
