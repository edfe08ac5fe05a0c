/- slices.Sort and slices.Compact at []int: the kit's contracts, laid at this dump, in the engine's words. -/
import Derived.Ground.NamesProg
import Derived.Ground.Names2Prog
import Derived.Shelf.Sort.Plain
import Derived.Shelf.Slices.In.SortNone
import Derived.Shelf.Slices.CompactI
import Derived.Test.YtciliaiocakdkaaGreatDoorE7
import Derived.Test.YtciliaiocakdkaaGreatDoorProg
set_option linter.unusedSimpArgs false
set_option linter.unusedVariables false
namespace Go.Proofs
open Go.Shelf Go.Lib
def YtciliaiocakdkaaGreatDoor.sortL_ren : Go.Shelf.Ren := ⟨fun | 189 => 21 | 125 => 46 | 257 => 45 | 128 => 76 | 129 => 77 | 294 => 67 | 295 => 68 | 296 => 69 | 297 => 70 | 298 => 71 | 299 => 72 | 216 => 73 | 300 => 74 | 301 => 75 | 328 => 88 | 329 => 89 | 330 => 90 | 331 => 91 | 332 => 92 | 215 => 93 | 343 => 101 | n => n, fun | 28 => 23 | 3 => 3 | 46 => 82 | 0 => 0 | 51 => 109 | 53 => 111 | 4 => 4 | 183 => 102 | 182 => 101 | 131 => 106 | 5 => 5 | 9 => 9 | 218 => 123 | 222 => 127 | 228 => 132 | 229 => 121 | n => n, fun | n => n⟩
theorem YtciliaiocakdkaaGreatDoor.sortL : Go.Proofs.Lays.n189 Tryz.prog YtciliaiocakdkaaGreatDoor.sortL_ren := {
  mixed := by kernel_rfl,
  f125 := Tryz.func46.trans (congrArg some (by kernel_rfl)),
  f128 := Tryz.func76.trans (congrArg some (by kernel_rfl)),
  f129 := Tryz.func77.trans (congrArg some (by kernel_rfl)),
  f189 := Tryz.func21.trans (congrArg some (by kernel_rfl)),
  f215 := Tryz.func93.trans (congrArg some (by kernel_rfl)),
  f216 := Tryz.func73.trans (congrArg some (by kernel_rfl)),
  f257 := Tryz.func45.trans (congrArg some (by kernel_rfl)),
  f294 := Tryz.func67.trans (congrArg some (by kernel_rfl)),
  f295 := Tryz.func68.trans (congrArg some (by kernel_rfl)),
  f296 := Tryz.func69.trans (congrArg some (by kernel_rfl)),
  f297 := Tryz.func70.trans (congrArg some (by kernel_rfl)),
  f298 := Tryz.func71.trans (congrArg some (by kernel_rfl)),
  f299 := Tryz.func72.trans (congrArg some (by kernel_rfl)),
  f300 := Tryz.func74.trans (congrArg some (by kernel_rfl)),
  f301 := Tryz.func75.trans (congrArg some (by kernel_rfl)),
  f328 := Tryz.func88.trans (congrArg some (by kernel_rfl)),
  f329 := Tryz.func89.trans (congrArg some (by kernel_rfl)),
  f330 := Tryz.func90.trans (congrArg some (by kernel_rfl)),
  f331 := Tryz.func91.trans (congrArg some (by kernel_rfl)),
  f332 := Tryz.func92.trans (congrArg some (by kernel_rfl)),
  f343 := Tryz.func101.trans (congrArg some (by kernel_rfl)),
  t0 := Tryz.underlying0,
  a0 := Tryz.isAgg0,
  z0 := Tryz.sizeOf0,
  v0 := Tryz.zeroValue0,
  t3 := Tryz.underlying3,
  a3 := Tryz.isAgg3,
  z3 := Tryz.sizeOf3,
  v3 := Tryz.zeroValue3,
  t4 := Tryz.underlying4,
  a4 := Tryz.isAgg4,
  z4 := Tryz.sizeOf4,
  v4 := Tryz.zeroValue4,
  t5 := Tryz.underlying5,
  a5 := Tryz.isAgg5,
  z5 := Tryz.sizeOf5,
  v5 := Tryz.zeroValue5,
  t9 := Tryz.underlying9,
  a9 := Tryz.isAgg9,
  z9 := Tryz.sizeOf9,
  v9 := Tryz.zeroValue9,
  t28 := Tryz.underlying23,
  a28 := Tryz.isAgg23,
  z28 := Tryz.sizeOf23,
  v28 := Tryz.zeroValue23,
  t46 := Tryz.underlying82,
  a46 := Tryz.isAgg82,
  z46 := Tryz.sizeOf82,
  v46 := Tryz.zeroValue82,
  t51 := Tryz.underlying109,
  a51 := Tryz.isAgg109,
  z51 := Tryz.sizeOf109,
  v51 := Tryz.zeroValue109,
  t53 := Tryz.underlying111,
  a53 := Tryz.isAgg111,
  z53 := Tryz.sizeOf111,
  v53 := Tryz.zeroValue111,
  t131 := Tryz.underlying106,
  a131 := Tryz.isAgg106,
  z131 := Tryz.sizeOf106,
  v131 := Tryz.zeroValue106,
  t182 := Tryz.underlying101,
  a182 := Tryz.isAgg101,
  z182 := Tryz.sizeOf101,
  v182 := Tryz.zeroValue101,
  t183 := Tryz.underlying102,
  a183 := Tryz.isAgg102,
  z183 := Tryz.sizeOf102,
  v183 := Tryz.zeroValue102,
  t218 := Tryz.underlying123,
  a218 := Tryz.isAgg123,
  z218 := Tryz.sizeOf123,
  v218 := Tryz.zeroValue123,
  t222 := Tryz.underlying127,
  a222 := Tryz.isAgg127,
  z222 := Tryz.sizeOf127,
  v222 := Tryz.zeroValue127,
  t228 := Tryz.underlying132,
  a228 := Tryz.isAgg132,
  z228 := Tryz.sizeOf132,
  v228 := Tryz.zeroValue132,
  t229 := Tryz.underlying121,
  a229 := Tryz.isAgg121,
  z229 := Tryz.sizeOf121,
  v229 := Tryz.zeroValue121 }
def YtciliaiocakdkaaGreatDoor.compL_ren : Go.Shelf.Ren := ⟨fun | 20 => 23 | n => n, fun | 22 => 23 | 3 => 3 | 4 => 4 | 0 => 0 | n => n, fun | n => n⟩
theorem YtciliaiocakdkaaGreatDoor.compL : Go.Proofs.Lays2.n20 Tryz.prog YtciliaiocakdkaaGreatDoor.compL_ren := {
  mixed := by kernel_rfl,
  f20 := Tryz.func23.trans (congrArg some (by kernel_rfl)),
  t0 := Tryz.underlying0,
  a0 := Tryz.isAgg0,
  z0 := Tryz.sizeOf0,
  v0 := Tryz.zeroValue0,
  t3 := Tryz.underlying3,
  a3 := Tryz.isAgg3,
  z3 := Tryz.sizeOf3,
  v3 := Tryz.zeroValue3,
  t4 := Tryz.underlying4,
  a4 := Tryz.isAgg4,
  z4 := Tryz.sizeOf4,
  v4 := Tryz.zeroValue4,
  t22 := Tryz.underlying23,
  a22 := Tryz.isAgg23,
  z22 := Tryz.sizeOf23,
  v22 := Tryz.zeroValue23,
  i3 := by kernel_rfl }
end Go.Proofs
namespace Go.Proofs.YtciliaiocakdkaaGreatDoor
open Go.RowKit Go.Sort Go.Shelf Go.Lib
def srt (l : List Int) : List Int := l.mergeSort fun x y => decide (x ≤ y)
theorem srt_len (l : List Int) : (srt l).length = l.length := List.length_mergeSort l
theorem OwnC.pre {e : TypeId} {ao : Option Addr} {cap : Nat} {a b : List Int} {C : Res} (ho : OwnC e ao cap (a ++ b) C) : OwnC e ao cap a C := by
  rcases ho with ⟨h1, h2, h3⟩ | ⟨g, cur, rfl, rfl, h1, h2, h3, h4⟩
  · exact .inl ⟨(List.append_eq_nil_iff.1 h1).1, h2, h3⟩
  · refine .inr ⟨g, cur, rfl, rfl, by simp at h1; omega, h2, h3, ?_⟩
    rw [cellsL_append] at h4
    have := congrArg (List.take (cellsL a).length) h4
    rw [List.take_left, List.take_take, Nat.min_eq_left (by rw [cellsL_length]; exact Nat.mul_le_mul_right _ (by simp))] at this
    rw [← cellsL_length]; exact this
theorem cellsL_get (m : List Int) (j : Nat) : (cellsL m)[j]? = (m[j]?).map (Value.int .i64) := by
  have := cellsL_at m j 0 (by show 0 < 1; decide)
  rw [show j * Enc.sz Int + 0 = j from by show j * 1 + 0 = j; omega] at this
  rw [this]
  cases m[j]? <;> rfl
theorem putCells_take (m : List Int) (cur : Array Value) (h : m.length ≤ cur.size) : (putCells (Value.int .i64) 0 m.toArray cur).toList.take (m.length * Enc.sz Int) = cellsL m := by
  apply List.ext_getElem?
  intro j
  rw [show m.length * Enc.sz Int = m.length from Nat.mul_one _, List.getElem?_take, cellsL_get]
  split
  · rename_i hj
    simp only [putCells, Array.getElem?_toList, Array.getElem?_mapIdx]
    rw [Array.getElem?_eq_getElem (by omega), List.getElem?_eq_getElem hj]
    simp [hj, getElem!_pos]
  · rename_i hj
    rw [List.getElem?_eq_none (by omega)]; rfl
theorem putCells_size (m : List Int) (cur : Array Value) : (putCells (Value.int .i64) 0 m.toArray cur).size = cur.size := by simp [putCells]
/-- the owned row holds another list of the same length -/
theorem own_put {e : TypeId} {g cap : Nat} {cur : Array Value} {l m : List Int} {w : World} (n : Nat) (os : Array Obj) (h1 : l.length ≤ cap) (h2 : cap ≤ maxLen) (h3 : cap * Enc.sz Int ≤ cur.size) (hm : m.length = l.length)
    (hM : Sat w (hkeys [(0, [(g, .cells cur e (0, 0))])]) w [(0, [(g, .cells cur e (0, 0))])]) :
    OwnC e (some ⟨g, 0, none⟩) cap m [(g, .cells (putCells (Value.int .i64) 0 m.toArray cur) e (0, 0))] ∧
    Sat w (hkeys [(0, [(g, .cells cur e (0, 0))])]) (grow (putRow (Value.int .i64) (Sort.ahead w n) g 0 m.toArray) os) [(0, [(g, .cells (putCells (Value.int .i64) 0 m.toArray cur) e (0, 0))])] := by
  have hc : cap ≤ cur.size := by have : cap * 1 ≤ cur.size := h3; omega
  have hb := (hM.own 0 _ rfl (g, .cells cur e (0, 0)) (by simp)).2
  simp only [] at hb
  have hlt := lt_of_heap hb
  refine ⟨.inr ⟨g, _, rfl, rfl, by omega, h2, by rw [putCells_size]; exact h3, putCells_take m cur (by omega)⟩, ?_⟩
  refine (hM.upd (w' := grow (putRow (Value.int .i64) (Sort.ahead w n) g 0 m.toArray) os) (id := 0) (o' := .cells (putCells (Value.int .i64) 0 m.toArray cur) e (0, 0)) rfl rfl rfl rfl (by simp [grow]) (fun j hj hjl => ?_) ?_).subg (fun i v hi => ?_)
  · simp only [grow, putRow, mapBlock, Sort.ahead]
    rw [Array.getElem?_append_left (by simpa using hjl), Array.getElem?_modify, if_neg (fun e => hj e.symm)]
  · simp only [grow, putRow, mapBlock, Sort.ahead]
    rw [Array.getElem?_append_left (by simpa using hlt), Array.getElem?_modify, if_pos rfl, hb]
    rfl
  · rw [aget_cons] at hi ⊢
    split at hi
    · rename_i e; rw [if_pos e]; exact hi
    · cases hi
theorem own_holds {e : TypeId} {g : Nat} {cur : Array Value} {l : List Int} {w : World} (hb : w.heap[g]? = some (.cells cur e (0, 0))) (h4 : cur.toList.take (l.length * Enc.sz Int) = cellsL l) : Holds (Value.int .i64) w g 0 l.toArray := by
  intro j hj
  have hj' : j < l.length := by simpa using hj
  refine ⟨?_, frozen_of_row w g (0 + j) cur e hb⟩
  rw [cell_of_row w g (0 + j) cur e (0, 0) hb]
  have := congrArg (fun x : List Value => x[j]?) h4
  simp only [List.getElem?_take, cellsL_get] at this
  rw [if_pos (by show j < l.length * 1; omega), List.getElem?_eq_getElem hj'] at this
  simp only [Nat.zero_add]
  simpa [hj', getElem!_pos] using this
theorem sort_ct (e : TypeId) {ao : Option Addr} {n cap : Nat} {l : List Int} {C : Res} (w : World) (hn : n = l.length) (hl : l.length ≤ 4294967296) (ho : OwnC e ao cap l C) (hM : Sat w (hkeys [(0, C)]) w [(0, C)]) :
    Ct Tryz.prog 21 [.slice ao n cap] w [(0, C)] (fun rv h' => ∃ D : Res, rv = .tuple #[] ∧ h' = [(0, D)] ∧ n = (srt l).length ∧ OwnC e ao cap (srt l) D) := by
  subst hn
  rcases ho with ⟨rfl, rfl, rfl⟩ | ⟨g, cur, rfl, rfl, h1, h2, h3, h4⟩
  · refine Calls.mono (Any.slices_Sort_int_none YtciliaiocakdkaaGreatDoor.sortL ao 0 w) ?_
    rintro _ _ ⟨rfl, rfl⟩
    exact ⟨_, [(0, [])], rfl, ⟨[], rfl, rfl, (srt_len _).symm, by rw [show srt [] = [] from List.eq_nil_of_length_eq_zero (srt_len [])]; exact OwnC.nil e ao⟩, hM⟩
  · have hb := (hM.own 0 _ rfl (g, .cells cur e (0, 0)) (by simp)).2
    simp only [] at hb
    refine Calls.mono (Any.slices_Sort_int YtciliaiocakdkaaGreatDoor.sortL g 0 cap l w (own_holds hb h4) (lt_of_heap hb) (by omega)) ?_
    rintro _ _ ⟨rfl, n, os, rfl⟩
    obtain ⟨q1, q2⟩ := own_put (m := srt l) n os h1 h2 h3 (srt_len l) hM
    exact ⟨_, _, rfl, ⟨_, rfl, rfl, (srt_len l).symm, q1⟩, q2⟩
theorem compact_le (l : List Int) : (Lib.compact l).length ≤ l.length := by
  unfold Lib.compact Lib.compactUpTo
  rw [List.length_map]
  exact Nat.le_trans (List.length_filter_le _ _) (by simp)
theorem grow_none (w : World) : grow w #[] = w := by simp [grow]
theorem compact_ct (e : TypeId) {ao : Option Addr} {n cap : Nat} {l : List Int} {C : Res} (w : World) (hn : n = l.length) (hl : l.length ≤ 4294967296) (ho : OwnC e ao cap l C) (hM : Sat w (hkeys [(0, C)]) w [(0, C)]) :
    Ct Tryz.prog 23 [.slice ao n cap] w [(0, C)] (fun rv h' => ∃ (x : Option Addr) (y z : Nat) (D : Res), rv = .slice x y z ∧ h' = [(0, []), (1, D)] ∧ y = (Lib.compact l).length ∧ OwnC e x z (Lib.compact l) D) := by
  subst hn
  have ren : ∀ {w' : World} {D : Res}, Sat w (hkeys [(0, C)]) w' [(0, D)] → Sat w (hkeys [(0, C)]) w' [(0, []), (1, D)] := fun k => by
    have k1 := (k.sel (h' := [(1, _)]) (js := [0]) ⟨0, [], rfl, rfl, trivial⟩ (by decide)).addNil 0
    exact k1
  rcases ho with ⟨rfl, rfl, rfl⟩ | ⟨g, cur, rfl, rfl, h1, h2, h3, h4⟩
  · refine Calls.mono (Any.slices_Compact_int_empty YtciliaiocakdkaaGreatDoor.compL ao 0 w) ?_
    rintro _ _ ⟨rfl, rfl⟩
    have e0 : Lib.compact ([] : List Int) = [] := List.eq_nil_of_length_eq_zero (Nat.le_zero.1 (compact_le []))
    exact ⟨_, _, rfl, ⟨_, _, _, [], rfl, rfl, by rw [e0]; rfl, by rw [e0]; exact OwnC.nil e ao⟩, ren hM⟩
  · have hb := (hM.own 0 _ rfl (g, .cells cur e (0, 0)) (by simp)).2
    simp only [] at hb
    refine Calls.mono (Any.slices_Compact_int YtciliaiocakdkaaGreatDoor.compL g 0 cap l w (own_holds hb h4) (by omega) h1) ?_
    rintro _ _ ⟨rfl, q, rfl⟩
    obtain ⟨q1, q2⟩ := own_put (m := Lib.compact l ++ List.replicate (l.length - (Lib.compact l).length) 0) q #[] h1 h2 h3 (by have := compact_le l; simp; omega) hM
    rw [grow_none] at q2
    exact ⟨_, _, rfl, ⟨_, _, _, _, rfl, rfl, rfl, q1.pre⟩, ren q2⟩
end Go.Proofs.YtciliaiocakdkaaGreatDoor
