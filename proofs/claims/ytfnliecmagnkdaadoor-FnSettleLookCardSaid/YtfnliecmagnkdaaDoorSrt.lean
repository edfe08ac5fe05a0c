/- slices.Sort and slices.Compact at []int: the kit's contracts, laid at this dump, in the engine's words. -/
import Derived.Ground.NamesProg
import Derived.Ground.Names2Prog
import Derived.Shelf.Sort.Plain
import Derived.Shelf.Slices.In.SortNone
import Derived.Shelf.Slices.CompactI
import Derived.Test.YtfnliecmagnkdaaDoorE7
import Derived.Test.YtfnliecmagnkdaaDoorProg
set_option linter.unusedSimpArgs false
set_option linter.unusedVariables false
namespace Go.Proofs
open Go.Shelf Go.Lib
def YtfnliecmagnkdaaDoor.sortL_ren : Go.Shelf.Ren := ⟨fun | 189 => 86 | 125 => 135 | 257 => 134 | 128 => 165 | 129 => 166 | 294 => 156 | 295 => 157 | 296 => 158 | 297 => 159 | 298 => 160 | 299 => 161 | 216 => 162 | 300 => 163 | 301 => 164 | 328 => 174 | 329 => 175 | 330 => 176 | 331 => 177 | 332 => 178 | 215 => 179 | 343 => 180 | n => n, fun | 28 => 22 | 3 => 3 | 46 => 141 | 0 => 0 | 51 => 177 | 53 => 140 | 4 => 4 | 183 => 170 | 182 => 169 | 131 => 174 | 5 => 5 | 9 => 9 | 218 => 188 | 222 => 192 | 228 => 194 | 229 => 104 | n => n, fun | n => n⟩
theorem YtfnliecmagnkdaaDoor.sortL : Go.Proofs.Lays.n189 Tryd.prog YtfnliecmagnkdaaDoor.sortL_ren := {
  mixed := by kernel_rfl,
  f125 := Tryd.func135.trans (congrArg some (by kernel_rfl)),
  f128 := Tryd.func165.trans (congrArg some (by kernel_rfl)),
  f129 := Tryd.func166.trans (congrArg some (by kernel_rfl)),
  f189 := Tryd.func86.trans (congrArg some (by kernel_rfl)),
  f215 := Tryd.func179.trans (congrArg some (by kernel_rfl)),
  f216 := Tryd.func162.trans (congrArg some (by kernel_rfl)),
  f257 := Tryd.func134.trans (congrArg some (by kernel_rfl)),
  f294 := Tryd.func156.trans (congrArg some (by kernel_rfl)),
  f295 := Tryd.func157.trans (congrArg some (by kernel_rfl)),
  f296 := Tryd.func158.trans (congrArg some (by kernel_rfl)),
  f297 := Tryd.func159.trans (congrArg some (by kernel_rfl)),
  f298 := Tryd.func160.trans (congrArg some (by kernel_rfl)),
  f299 := Tryd.func161.trans (congrArg some (by kernel_rfl)),
  f300 := Tryd.func163.trans (congrArg some (by kernel_rfl)),
  f301 := Tryd.func164.trans (congrArg some (by kernel_rfl)),
  f328 := Tryd.func174.trans (congrArg some (by kernel_rfl)),
  f329 := Tryd.func175.trans (congrArg some (by kernel_rfl)),
  f330 := Tryd.func176.trans (congrArg some (by kernel_rfl)),
  f331 := Tryd.func177.trans (congrArg some (by kernel_rfl)),
  f332 := Tryd.func178.trans (congrArg some (by kernel_rfl)),
  f343 := Tryd.func180.trans (congrArg some (by kernel_rfl)),
  t0 := Tryd.underlying0,
  a0 := Tryd.isAgg0,
  z0 := Tryd.sizeOf0,
  v0 := Tryd.zeroValue0,
  t3 := Tryd.underlying3,
  a3 := Tryd.isAgg3,
  z3 := Tryd.sizeOf3,
  v3 := Tryd.zeroValue3,
  t4 := Tryd.underlying4,
  a4 := Tryd.isAgg4,
  z4 := Tryd.sizeOf4,
  v4 := Tryd.zeroValue4,
  t5 := Tryd.underlying5,
  a5 := Tryd.isAgg5,
  z5 := Tryd.sizeOf5,
  v5 := Tryd.zeroValue5,
  t9 := Tryd.underlying9,
  a9 := Tryd.isAgg9,
  z9 := Tryd.sizeOf9,
  v9 := Tryd.zeroValue9,
  t28 := Tryd.underlying22,
  a28 := Tryd.isAgg22,
  z28 := Tryd.sizeOf22,
  v28 := Tryd.zeroValue22,
  t46 := Tryd.underlying141,
  a46 := Tryd.isAgg141,
  z46 := Tryd.sizeOf141,
  v46 := Tryd.zeroValue141,
  t51 := Tryd.underlying177,
  a51 := Tryd.isAgg177,
  z51 := Tryd.sizeOf177,
  v51 := Tryd.zeroValue177,
  t53 := Tryd.underlying140,
  a53 := Tryd.isAgg140,
  z53 := Tryd.sizeOf140,
  v53 := Tryd.zeroValue140,
  t131 := Tryd.underlying174,
  a131 := Tryd.isAgg174,
  z131 := Tryd.sizeOf174,
  v131 := Tryd.zeroValue174,
  t182 := Tryd.underlying169,
  a182 := Tryd.isAgg169,
  z182 := Tryd.sizeOf169,
  v182 := Tryd.zeroValue169,
  t183 := Tryd.underlying170,
  a183 := Tryd.isAgg170,
  z183 := Tryd.sizeOf170,
  v183 := Tryd.zeroValue170,
  t218 := Tryd.underlying188,
  a218 := Tryd.isAgg188,
  z218 := Tryd.sizeOf188,
  v218 := Tryd.zeroValue188,
  t222 := Tryd.underlying192,
  a222 := Tryd.isAgg192,
  z222 := Tryd.sizeOf192,
  v222 := Tryd.zeroValue192,
  t228 := Tryd.underlying194,
  a228 := Tryd.isAgg194,
  z228 := Tryd.sizeOf194,
  v228 := Tryd.zeroValue194,
  t229 := Tryd.underlying104,
  a229 := Tryd.isAgg104,
  z229 := Tryd.sizeOf104,
  v229 := Tryd.zeroValue104 }
def YtfnliecmagnkdaaDoor.compL_ren : Go.Shelf.Ren := ⟨fun | 20 => 88 | n => n, fun | 22 => 22 | 3 => 3 | 4 => 4 | 0 => 0 | n => n, fun | n => n⟩
theorem YtfnliecmagnkdaaDoor.compL : Go.Proofs.Lays2.n20 Tryd.prog YtfnliecmagnkdaaDoor.compL_ren := {
  mixed := by kernel_rfl,
  f20 := Tryd.func88.trans (congrArg some (by kernel_rfl)),
  t0 := Tryd.underlying0,
  a0 := Tryd.isAgg0,
  z0 := Tryd.sizeOf0,
  v0 := Tryd.zeroValue0,
  t3 := Tryd.underlying3,
  a3 := Tryd.isAgg3,
  z3 := Tryd.sizeOf3,
  v3 := Tryd.zeroValue3,
  t4 := Tryd.underlying4,
  a4 := Tryd.isAgg4,
  z4 := Tryd.sizeOf4,
  v4 := Tryd.zeroValue4,
  t22 := Tryd.underlying22,
  a22 := Tryd.isAgg22,
  z22 := Tryd.sizeOf22,
  v22 := Tryd.zeroValue22,
  i3 := by kernel_rfl }
end Go.Proofs
namespace Go.Proofs.YtfnliecmagnkdaaDoor
open Go.RowKit Go.Sort Go.Shelf Go.Lib
def srt (l : List Int) : List Int := l.mergeSort fun x y => decide (x ≤ y)
theorem srt_len (l : List Int) : (srt l).length = l.length := List.length_mergeSort l
theorem OwnC.pre {e : TypeId} {ao : Option Addr} {cap : Nat} {a b : List Int} {C : Res} (ho : OwnC e ao cap (a ++ b) C) : OwnC e ao cap a C := by
  rcases ho with ⟨h1, h2, h3⟩ | ⟨g, cur, rfl, rfl, h1, h2, h3, h4⟩
  · exact .inl ⟨(List.append_eq_nil_iff.1 h1).1, h2, h3⟩
  · refine .inr ⟨g, cur, rfl, rfl, by simp at h1; omega, h2, h3, ?_⟩
    rw [cellsL_append] at h4
    have := congrArg (List.take (cellsL a).length) h4
    rw [List.take_left, List.take_take, Nat.min_eq_left (by rw [cellsL_length]; exact Nat.mul_le_mul_right _ (by simp))] at this
    rw [← cellsL_length]; exact this
theorem cellsL_get (m : List Int) (j : Nat) : (cellsL m)[j]? = (m[j]?).map (Value.int .i64) := by
  have := cellsL_at m j 0 (by show 0 < 1; decide)
  rw [show j * Enc.sz Int + 0 = j from by show j * 1 + 0 = j; omega] at this
  rw [this]
  cases m[j]? <;> rfl
theorem putCells_take (m : List Int) (cur : Array Value) (h : m.length ≤ cur.size) : (putCells (Value.int .i64) 0 m.toArray cur).toList.take (m.length * Enc.sz Int) = cellsL m := by
  apply List.ext_getElem?
  intro j
  rw [show m.length * Enc.sz Int = m.length from Nat.mul_one _, List.getElem?_take, cellsL_get]
  split
  · rename_i hj
    simp only [putCells, Array.getElem?_toList, Array.getElem?_mapIdx]
    rw [Array.getElem?_eq_getElem (by omega), List.getElem?_eq_getElem hj]
    simp [hj, getElem!_pos]
  · rename_i hj
    rw [List.getElem?_eq_none (by omega)]; rfl
theorem putCells_size (m : List Int) (cur : Array Value) : (putCells (Value.int .i64) 0 m.toArray cur).size = cur.size := by simp [putCells]
/-- the owned row holds another list of the same length -/
theorem own_put {e : TypeId} {g cap : Nat} {cur : Array Value} {l m : List Int} {w : World} (n : Nat) (os : Array Obj) (h1 : l.length ≤ cap) (h2 : cap ≤ maxLen) (h3 : cap * Enc.sz Int ≤ cur.size) (hm : m.length = l.length)
    (hM : Sat w (hkeys [(0, [(g, .cells cur e (0, 0))])]) w [(0, [(g, .cells cur e (0, 0))])]) :
    OwnC e (some ⟨g, 0, none⟩) cap m [(g, .cells (putCells (Value.int .i64) 0 m.toArray cur) e (0, 0))] ∧
    Sat w (hkeys [(0, [(g, .cells cur e (0, 0))])]) (grow (putRow (Value.int .i64) (Sort.ahead w n) g 0 m.toArray) os) [(0, [(g, .cells (putCells (Value.int .i64) 0 m.toArray cur) e (0, 0))])] := by
  have hc : cap ≤ cur.size := by have : cap * 1 ≤ cur.size := h3; omega
  have hb := (hM.own 0 _ rfl (g, .cells cur e (0, 0)) (by simp)).2
  simp only [] at hb
  have hlt := lt_of_heap hb
  refine ⟨.inr ⟨g, _, rfl, rfl, by omega, h2, by rw [putCells_size]; exact h3, putCells_take m cur (by omega)⟩, ?_⟩
  refine (hM.upd (w' := grow (putRow (Value.int .i64) (Sort.ahead w n) g 0 m.toArray) os) (id := 0) (o' := .cells (putCells (Value.int .i64) 0 m.toArray cur) e (0, 0)) rfl rfl rfl rfl (by simp [grow]) (fun j hj hjl => ?_) ?_).subg (fun i v hi => ?_)
  · simp only [grow, putRow, mapBlock, Sort.ahead]
    rw [Array.getElem?_append_left (by simpa using hjl), Array.getElem?_modify, if_neg (fun e => hj e.symm)]
  · simp only [grow, putRow, mapBlock, Sort.ahead]
    rw [Array.getElem?_append_left (by simpa using hlt), Array.getElem?_modify, if_pos rfl, hb]
    rfl
  · rw [aget_cons] at hi ⊢
    split at hi
    · rename_i e; rw [if_pos e]; exact hi
    · cases hi
theorem own_holds {e : TypeId} {g : Nat} {cur : Array Value} {l : List Int} {w : World} (hb : w.heap[g]? = some (.cells cur e (0, 0))) (h4 : cur.toList.take (l.length * Enc.sz Int) = cellsL l) : Holds (Value.int .i64) w g 0 l.toArray := by
  intro j hj
  have hj' : j < l.length := by simpa using hj
  refine ⟨?_, frozen_of_row w g (0 + j) cur e hb⟩
  rw [cell_of_row w g (0 + j) cur e (0, 0) hb]
  have := congrArg (fun x : List Value => x[j]?) h4
  simp only [List.getElem?_take, cellsL_get] at this
  rw [if_pos (by show j < l.length * 1; omega), List.getElem?_eq_getElem hj'] at this
  simp only [Nat.zero_add]
  simpa [hj', getElem!_pos] using this
theorem sort_ct (e : TypeId) {ao : Option Addr} {n cap : Nat} {l : List Int} {C : Res} (w : World) (hn : n = l.length) (hl : l.length ≤ 4294967296) (ho : OwnC e ao cap l C) (hM : Sat w (hkeys [(0, C)]) w [(0, C)]) :
    Ct Tryd.prog 86 [.slice ao n cap] w [(0, C)] (fun rv h' => ∃ D : Res, rv = .tuple #[] ∧ h' = [(0, D)] ∧ n = (srt l).length ∧ OwnC e ao cap (srt l) D) := by
  subst hn
  rcases ho with ⟨rfl, rfl, rfl⟩ | ⟨g, cur, rfl, rfl, h1, h2, h3, h4⟩
  · refine Calls.mono (Any.slices_Sort_int_none YtfnliecmagnkdaaDoor.sortL ao 0 w) ?_
    rintro _ _ ⟨rfl, rfl⟩
    exact ⟨_, [(0, [])], rfl, ⟨[], rfl, rfl, (srt_len _).symm, by rw [show srt [] = [] from List.eq_nil_of_length_eq_zero (srt_len [])]; exact OwnC.nil e ao⟩, hM⟩
  · have hb := (hM.own 0 _ rfl (g, .cells cur e (0, 0)) (by simp)).2
    simp only [] at hb
    refine Calls.mono (Any.slices_Sort_int YtfnliecmagnkdaaDoor.sortL g 0 cap l w (own_holds hb h4) (lt_of_heap hb) (by omega)) ?_
    rintro _ _ ⟨rfl, n, os, rfl⟩
    obtain ⟨q1, q2⟩ := own_put (m := srt l) n os h1 h2 h3 (srt_len l) hM
    exact ⟨_, _, rfl, ⟨_, rfl, rfl, (srt_len l).symm, q1⟩, q2⟩
theorem compact_le (l : List Int) : (Lib.compact l).length ≤ l.length := by
  unfold Lib.compact Lib.compactUpTo
  rw [List.length_map]
  exact Nat.le_trans (List.length_filter_le _ _) (by simp)
theorem grow_none (w : World) : grow w #[] = w := by simp [grow]
theorem compact_ct (e : TypeId) {ao : Option Addr} {n cap : Nat} {l : List Int} {C : Res} (w : World) (hn : n = l.length) (hl : l.length ≤ 4294967296) (ho : OwnC e ao cap l C) (hM : Sat w (hkeys [(0, C)]) w [(0, C)]) :
    Ct Tryd.prog 88 [.slice ao n cap] w [(0, C)] (fun rv h' => ∃ (x : Option Addr) (y z : Nat) (D : Res), rv = .slice x y z ∧ h' = [(0, []), (1, D)] ∧ y = (Lib.compact l).length ∧ OwnC e x z (Lib.compact l) D) := by
  subst hn
  have ren : ∀ {w' : World} {D : Res}, Sat w (hkeys [(0, C)]) w' [(0, D)] → Sat w (hkeys [(0, C)]) w' [(0, []), (1, D)] := fun k => by
    have k1 := (k.sel (h' := [(1, _)]) (js := [0]) ⟨0, [], rfl, rfl, trivial⟩ (by decide)).addNil 0
    exact k1
  rcases ho with ⟨rfl, rfl, rfl⟩ | ⟨g, cur, rfl, rfl, h1, h2, h3, h4⟩
  · refine Calls.mono (Any.slices_Compact_int_empty YtfnliecmagnkdaaDoor.compL ao 0 w) ?_
    rintro _ _ ⟨rfl, rfl⟩
    have e0 : Lib.compact ([] : List Int) = [] := List.eq_nil_of_length_eq_zero (Nat.le_zero.1 (compact_le []))
    exact ⟨_, _, rfl, ⟨_, _, _, [], rfl, rfl, by rw [e0]; rfl, by rw [e0]; exact OwnC.nil e ao⟩, ren hM⟩
  · have hb := (hM.own 0 _ rfl (g, .cells cur e (0, 0)) (by simp)).2
    simp only [] at hb
    refine Calls.mono (Any.slices_Compact_int YtfnliecmagnkdaaDoor.compL g 0 cap l w (own_holds hb h4) (by omega) h1) ?_
    rintro _ _ ⟨rfl, q, rfl⟩
    obtain ⟨q1, q2⟩ := own_put (m := Lib.compact l ++ List.replicate (l.length - (Lib.compact l).length) 0) q #[] h1 h2 h3 (by have := compact_le l; simp; omega) hM
    rw [grow_none] at q2
    exact ⟨_, _, rfl, ⟨_, _, _, _, rfl, rfl, rfl, q1.pre⟩, ren q2⟩
end Go.Proofs.YtfnliecmagnkdaaDoor
