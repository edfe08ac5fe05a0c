/- slices.Sort and slices.Compact at []int: the kit's contracts, laid at this dump, in the engine's words. -/
import Derived.Ground.NamesProg
import Derived.Ground.Names2Prog
import Derived.Shelf.Sort.Plain
import Derived.Shelf.Slices.In.SortNone
import Derived.Shelf.Slices.CompactI
import Derived.Test.YtfnliecmagnkdabGreatDoorE7
import Derived.Test.YtfnliecmagnkdabGreatDoorProg
set_option linter.unusedSimpArgs false
set_option linter.unusedVariables false
namespace Go.Proofs
open Go.Shelf Go.Lib
def YtfnliecmagnkdabGreatDoor.sortL_ren : Go.Shelf.Ren := ⟨fun | 189 => 33 | 125 => 65 | 257 => 64 | 128 => 95 | 129 => 96 | 294 => 86 | 295 => 87 | 296 => 88 | 297 => 89 | 298 => 90 | 299 => 91 | 216 => 92 | 300 => 93 | 301 => 94 | 328 => 106 | 329 => 107 | 330 => 108 | 331 => 109 | 332 => 110 | 215 => 111 | 343 => 117 | n => n, fun | 28 => 23 | 3 => 3 | 46 => 95 | 0 => 0 | 51 => 122 | 53 => 106 | 4 => 4 | 183 => 115 | 182 => 114 | 131 => 119 | 5 => 5 | 9 => 9 | 218 => 130 | 222 => 134 | 228 => 138 | 229 => 126 | n => n, fun | n => n⟩
theorem YtfnliecmagnkdabGreatDoor.sortL : Go.Proofs.Lays.n189 Tryz.prog YtfnliecmagnkdabGreatDoor.sortL_ren := {
  mixed := by kernel_rfl,
  f125 := Tryz.func65.trans (congrArg some (by kernel_rfl)),
  f128 := Tryz.func95.trans (congrArg some (by kernel_rfl)),
  f129 := Tryz.func96.trans (congrArg some (by kernel_rfl)),
  f189 := Tryz.func33.trans (congrArg some (by kernel_rfl)),
  f215 := Tryz.func111.trans (congrArg some (by kernel_rfl)),
  f216 := Tryz.func92.trans (congrArg some (by kernel_rfl)),
  f257 := Tryz.func64.trans (congrArg some (by kernel_rfl)),
  f294 := Tryz.func86.trans (congrArg some (by kernel_rfl)),
  f295 := Tryz.func87.trans (congrArg some (by kernel_rfl)),
  f296 := Tryz.func88.trans (congrArg some (by kernel_rfl)),
  f297 := Tryz.func89.trans (congrArg some (by kernel_rfl)),
  f298 := Tryz.func90.trans (congrArg some (by kernel_rfl)),
  f299 := Tryz.func91.trans (congrArg some (by kernel_rfl)),
  f300 := Tryz.func93.trans (congrArg some (by kernel_rfl)),
  f301 := Tryz.func94.trans (congrArg some (by kernel_rfl)),
  f328 := Tryz.func106.trans (congrArg some (by kernel_rfl)),
  f329 := Tryz.func107.trans (congrArg some (by kernel_rfl)),
  f330 := Tryz.func108.trans (congrArg some (by kernel_rfl)),
  f331 := Tryz.func109.trans (congrArg some (by kernel_rfl)),
  f332 := Tryz.func110.trans (congrArg some (by kernel_rfl)),
  f343 := Tryz.func117.trans (congrArg some (by kernel_rfl)),
  t0 := Tryz.underlying0,
  a0 := Tryz.isAgg0,
  z0 := Tryz.sizeOf0,
  v0 := Tryz.zeroValue0,
  t3 := Tryz.underlying3,
  a3 := Tryz.isAgg3,
  z3 := Tryz.sizeOf3,
  v3 := Tryz.zeroValue3,
  t4 := Tryz.underlying4,
  a4 := Tryz.isAgg4,
  z4 := Tryz.sizeOf4,
  v4 := Tryz.zeroValue4,
  t5 := Tryz.underlying5,
  a5 := Tryz.isAgg5,
  z5 := Tryz.sizeOf5,
  v5 := Tryz.zeroValue5,
  t9 := Tryz.underlying9,
  a9 := Tryz.isAgg9,
  z9 := Tryz.sizeOf9,
  v9 := Tryz.zeroValue9,
  t28 := Tryz.underlying23,
  a28 := Tryz.isAgg23,
  z28 := Tryz.sizeOf23,
  v28 := Tryz.zeroValue23,
  t46 := Tryz.underlying95,
  a46 := Tryz.isAgg95,
  z46 := Tryz.sizeOf95,
  v46 := Tryz.zeroValue95,
  t51 := Tryz.underlying122,
  a51 := Tryz.isAgg122,
  z51 := Tryz.sizeOf122,
  v51 := Tryz.zeroValue122,
  t53 := Tryz.underlying106,
  a53 := Tryz.isAgg106,
  z53 := Tryz.sizeOf106,
  v53 := Tryz.zeroValue106,
  t131 := Tryz.underlying119,
  a131 := Tryz.isAgg119,
  z131 := Tryz.sizeOf119,
  v131 := Tryz.zeroValue119,
  t182 := Tryz.underlying114,
  a182 := Tryz.isAgg114,
  z182 := Tryz.sizeOf114,
  v182 := Tryz.zeroValue114,
  t183 := Tryz.underlying115,
  a183 := Tryz.isAgg115,
  z183 := Tryz.sizeOf115,
  v183 := Tryz.zeroValue115,
  t218 := Tryz.underlying130,
  a218 := Tryz.isAgg130,
  z218 := Tryz.sizeOf130,
  v218 := Tryz.zeroValue130,
  t222 := Tryz.underlying134,
  a222 := Tryz.isAgg134,
  z222 := Tryz.sizeOf134,
  v222 := Tryz.zeroValue134,
  t228 := Tryz.underlying138,
  a228 := Tryz.isAgg138,
  z228 := Tryz.sizeOf138,
  v228 := Tryz.zeroValue138,
  t229 := Tryz.underlying126,
  a229 := Tryz.isAgg126,
  z229 := Tryz.sizeOf126,
  v229 := Tryz.zeroValue126 }
def YtfnliecmagnkdabGreatDoor.compL_ren : Go.Shelf.Ren := ⟨fun | 20 => 35 | n => n, fun | 22 => 23 | 3 => 3 | 4 => 4 | 0 => 0 | n => n, fun | n => n⟩
theorem YtfnliecmagnkdabGreatDoor.compL : Go.Proofs.Lays2.n20 Tryz.prog YtfnliecmagnkdabGreatDoor.compL_ren := {
  mixed := by kernel_rfl,
  f20 := Tryz.func35.trans (congrArg some (by kernel_rfl)),
  t0 := Tryz.underlying0,
  a0 := Tryz.isAgg0,
  z0 := Tryz.sizeOf0,
  v0 := Tryz.zeroValue0,
  t3 := Tryz.underlying3,
  a3 := Tryz.isAgg3,
  z3 := Tryz.sizeOf3,
  v3 := Tryz.zeroValue3,
  t4 := Tryz.underlying4,
  a4 := Tryz.isAgg4,
  z4 := Tryz.sizeOf4,
  v4 := Tryz.zeroValue4,
  t22 := Tryz.underlying23,
  a22 := Tryz.isAgg23,
  z22 := Tryz.sizeOf23,
  v22 := Tryz.zeroValue23,
  i3 := by kernel_rfl }
end Go.Proofs
namespace Go.Proofs.YtfnliecmagnkdabGreatDoor
open Go.RowKit Go.Sort Go.Shelf Go.Lib
def srt (l : List Int) : List Int := l.mergeSort fun x y => decide (x ≤ y)
theorem srt_len (l : List Int) : (srt l).length = l.length := List.length_mergeSort l
theorem OwnC.pre {e : TypeId} {ao : Option Addr} {cap : Nat} {a b : List Int} {C : Res} (ho : OwnC e ao cap (a ++ b) C) : OwnC e ao cap a C := by
  rcases ho with ⟨h1, h2, h3⟩ | ⟨g, cur, rfl, rfl, h1, h2, h3, h4⟩
  · exact .inl ⟨(List.append_eq_nil_iff.1 h1).1, h2, h3⟩
  · refine .inr ⟨g, cur, rfl, rfl, by simp at h1; omega, h2, h3, ?_⟩
    rw [cellsL_append] at h4
    have := congrArg (List.take (cellsL a).length) h4
    rw [List.take_left, List.take_take, Nat.min_eq_left (by rw [cellsL_length]; exact Nat.mul_le_mul_right _ (by simp))] at this
    rw [← cellsL_length]; exact this
theorem cellsL_get (m : List Int) (j : Nat) : (cellsL m)[j]? = (m[j]?).map (Value.int .i64) := by
  have := cellsL_at m j 0 (by show 0 < 1; decide)
  rw [show j * Enc.sz Int + 0 = j from by show j * 1 + 0 = j; omega] at this
  rw [this]
  cases m[j]? <;> rfl
theorem putCells_take (m : List Int) (cur : Array Value) (h : m.length ≤ cur.size) : (putCells (Value.int .i64) 0 m.toArray cur).toList.take (m.length * Enc.sz Int) = cellsL m := by
  apply List.ext_getElem?
  intro j
  rw [show m.length * Enc.sz Int = m.length from Nat.mul_one _, List.getElem?_take, cellsL_get]
  split
  · rename_i hj
    simp only [putCells, Array.getElem?_toList, Array.getElem?_mapIdx]
    rw [Array.getElem?_eq_getElem (by omega), List.getElem?_eq_getElem hj]
    simp [hj, getElem!_pos]
  · rename_i hj
    rw [List.getElem?_eq_none (by omega)]; rfl
theorem putCells_size (m : List Int) (cur : Array Value) : (putCells (Value.int .i64) 0 m.toArray cur).size = cur.size := by simp [putCells]
/-- the owned row holds another list of the same length -/
theorem own_put {e : TypeId} {g cap : Nat} {cur : Array Value} {l m : List Int} {w : World} (n : Nat) (os : Array Obj) (h1 : l.length ≤ cap) (h2 : cap ≤ maxLen) (h3 : cap * Enc.sz Int ≤ cur.size) (hm : m.length = l.length)
    (hM : Sat w (hkeys [(0, [(g, .cells cur e (0, 0))])]) w [(0, [(g, .cells cur e (0, 0))])]) :
    OwnC e (some ⟨g, 0, none⟩) cap m [(g, .cells (putCells (Value.int .i64) 0 m.toArray cur) e (0, 0))] ∧
    Sat w (hkeys [(0, [(g, .cells cur e (0, 0))])]) (grow (putRow (Value.int .i64) (Sort.ahead w n) g 0 m.toArray) os) [(0, [(g, .cells (putCells (Value.int .i64) 0 m.toArray cur) e (0, 0))])] := by
  have hc : cap ≤ cur.size := by have : cap * 1 ≤ cur.size := h3; omega
  have hb := (hM.own 0 _ rfl (g, .cells cur e (0, 0)) (by simp)).2
  simp only [] at hb
  have hlt := lt_of_heap hb
  refine ⟨.inr ⟨g, _, rfl, rfl, by omega, h2, by rw [putCells_size]; exact h3, putCells_take m cur (by omega)⟩, ?_⟩
  refine (hM.upd (w' := grow (putRow (Value.int .i64) (Sort.ahead w n) g 0 m.toArray) os) (id := 0) (o' := .cells (putCells (Value.int .i64) 0 m.toArray cur) e (0, 0)) rfl rfl rfl rfl (by simp [grow]) (fun j hj hjl => ?_) ?_).subg (fun i v hi => ?_)
  · simp only [grow, putRow, mapBlock, Sort.ahead]
    rw [Array.getElem?_append_left (by simpa using hjl), Array.getElem?_modify, if_neg (fun e => hj e.symm)]
  · simp only [grow, putRow, mapBlock, Sort.ahead]
    rw [Array.getElem?_append_left (by simpa using hlt), Array.getElem?_modify, if_pos rfl, hb]
    rfl
  · rw [aget_cons] at hi ⊢
    split at hi
    · rename_i e; rw [if_pos e]; exact hi
    · cases hi
theorem own_holds {e : TypeId} {g : Nat} {cur : Array Value} {l : List Int} {w : World} (hb : w.heap[g]? = some (.cells cur e (0, 0))) (h4 : cur.toList.take (l.length * Enc.sz Int) = cellsL l) : Holds (Value.int .i64) w g 0 l.toArray := by
  intro j hj
  have hj' : j < l.length := by simpa using hj
  refine ⟨?_, frozen_of_row w g (0 + j) cur e hb⟩
  rw [cell_of_row w g (0 + j) cur e (0, 0) hb]
  have := congrArg (fun x : List Value => x[j]?) h4
  simp only [List.getElem?_take, cellsL_get] at this
  rw [if_pos (by show j < l.length * 1; omega), List.getElem?_eq_getElem hj'] at this
  simp only [Nat.zero_add]
  simpa [hj', getElem!_pos] using this
theorem sort_ct (e : TypeId) {ao : Option Addr} {n cap : Nat} {l : List Int} {C : Res} (w : World) (hn : n = l.length) (hl : l.length ≤ 4294967296) (ho : OwnC e ao cap l C) (hM : Sat w (hkeys [(0, C)]) w [(0, C)]) :
    Ct Tryz.prog 33 [.slice ao n cap] w [(0, C)] (fun rv h' => ∃ D : Res, rv = .tuple #[] ∧ h' = [(0, D)] ∧ n = (srt l).length ∧ OwnC e ao cap (srt l) D) := by
  subst hn
  rcases ho with ⟨rfl, rfl, rfl⟩ | ⟨g, cur, rfl, rfl, h1, h2, h3, h4⟩
  · refine Calls.mono (Any.slices_Sort_int_none YtfnliecmagnkdabGreatDoor.sortL ao 0 w) ?_
    rintro _ _ ⟨rfl, rfl⟩
    exact ⟨_, [(0, [])], rfl, ⟨[], rfl, rfl, (srt_len _).symm, by rw [show srt [] = [] from List.eq_nil_of_length_eq_zero (srt_len [])]; exact OwnC.nil e ao⟩, hM⟩
  · have hb := (hM.own 0 _ rfl (g, .cells cur e (0, 0)) (by simp)).2
    simp only [] at hb
    refine Calls.mono (Any.slices_Sort_int YtfnliecmagnkdabGreatDoor.sortL g 0 cap l w (own_holds hb h4) (lt_of_heap hb) (by omega)) ?_
    rintro _ _ ⟨rfl, n, os, rfl⟩
    obtain ⟨q1, q2⟩ := own_put (m := srt l) n os h1 h2 h3 (srt_len l) hM
    exact ⟨_, _, rfl, ⟨_, rfl, rfl, (srt_len l).symm, q1⟩, q2⟩
theorem compact_le (l : List Int) : (Lib.compact l).length ≤ l.length := by
  unfold Lib.compact Lib.compactUpTo
  rw [List.length_map]
  exact Nat.le_trans (List.length_filter_le _ _) (by simp)
theorem grow_none (w : World) : grow w #[] = w := by simp [grow]
theorem compact_ct (e : TypeId) {ao : Option Addr} {n cap : Nat} {l : List Int} {C : Res} (w : World) (hn : n = l.length) (hl : l.length ≤ 4294967296) (ho : OwnC e ao cap l C) (hM : Sat w (hkeys [(0, C)]) w [(0, C)]) :
    Ct Tryz.prog 35 [.slice ao n cap] w [(0, C)] (fun rv h' => ∃ (x : Option Addr) (y z : Nat) (D : Res), rv = .slice x y z ∧ h' = [(0, []), (1, D)] ∧ y = (Lib.compact l).length ∧ OwnC e x z (Lib.compact l) D) := by
  subst hn
  have ren : ∀ {w' : World} {D : Res}, Sat w (hkeys [(0, C)]) w' [(0, D)] → Sat w (hkeys [(0, C)]) w' [(0, []), (1, D)] := fun k => by
    have k1 := (k.sel (h' := [(1, _)]) (js := [0]) ⟨0, [], rfl, rfl, trivial⟩ (by decide)).addNil 0
    exact k1
  rcases ho with ⟨rfl, rfl, rfl⟩ | ⟨g, cur, rfl, rfl, h1, h2, h3, h4⟩
  · refine Calls.mono (Any.slices_Compact_int_empty YtfnliecmagnkdabGreatDoor.compL ao 0 w) ?_
    rintro _ _ ⟨rfl, rfl⟩
    have e0 : Lib.compact ([] : List Int) = [] := List.eq_nil_of_length_eq_zero (Nat.le_zero.1 (compact_le []))
    exact ⟨_, _, rfl, ⟨_, _, _, [], rfl, rfl, by rw [e0]; rfl, by rw [e0]; exact OwnC.nil e ao⟩, ren hM⟩
  · have hb := (hM.own 0 _ rfl (g, .cells cur e (0, 0)) (by simp)).2
    simp only [] at hb
    refine Calls.mono (Any.slices_Compact_int YtfnliecmagnkdabGreatDoor.compL g 0 cap l w (own_holds hb h4) (by omega) h1) ?_
    rintro _ _ ⟨rfl, q, rfl⟩
    obtain ⟨q1, q2⟩ := own_put (m := Lib.compact l ++ List.replicate (l.length - (Lib.compact l).length) 0) q #[] h1 h2 h3 (by have := compact_le l; simp; omega) hM
    rw [grow_none] at q2
    exact ⟨_, _, rfl, ⟨_, _, _, _, rfl, rfl, rfl, q1.pre⟩, ren q2⟩
end Go.Proofs.YtfnliecmagnkdabGreatDoor
