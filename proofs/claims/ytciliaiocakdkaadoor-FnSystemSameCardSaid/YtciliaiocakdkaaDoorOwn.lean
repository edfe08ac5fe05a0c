/- What a call owns: slices whose cells lie in blocks of its own; the laws on append, make and stores over them. -/
import Derived.Test.YtciliaiocakdkaaDoorBase
namespace Go.Proofs.YtciliaiocakdkaaDoor
open Go.RowKit

/-- the slice value v holds the list l in a block of its own, numbered from lo on and below hi -/
def Own {α : Type} [Enc α] (lo hi : Nat) (e : TypeId) (w : World) (v : Value) (l : List α) : Prop :=
  (v = .slice none 0 0 ∧ l = []) ∨
  ∃ g cap cur, v = .slice (some ⟨g, 0, none⟩) l.length cap ∧ lo ≤ g ∧ g < hi ∧ w.heap[g]? = some (.cells cur e (0, 0)) ∧ l.length ≤ cap ∧ cap ≤ maxLen ∧
    cap * Enc.sz α ≤ cur.size ∧ cur.toList.take (l.length * Enc.sz α) = cellsL l

section
variable {α : Type} [Enc α] {lo hi : Nat} {e : TypeId} {w w' : World} {v : Value} {l : List α}

theorem Own.nil (lo hi : Nat) (e : TypeId) (w : World) : Own (α := α) lo hi e w (.slice none 0 0) [] := .inl ⟨rfl, rfl⟩

theorem Own.mono {lo' hi' : Nat} (h : Own lo hi e w v l) (h1 : lo' ≤ lo) (h2 : hi ≤ hi') : Own lo' hi' e w v l := by
  rcases h with h | ⟨g, cap, cur, hv, a, b, r⟩
  · exact .inl h
  · exact .inr ⟨g, cap, cur, hv, by omega, by omega, r⟩

theorem Own.keep (h : Own lo hi e w v l) (hk : ∀ k, lo ≤ k → k < hi → k < w.heap.size → w'.heap[k]? = w.heap[k]?) : Own lo hi e w' v l := by
  rcases h with h | ⟨g, cap, cur, hv, a, b, hg, r⟩
  · exact .inl h
  · exact .inr ⟨g, cap, cur, hv, a, b, by rw [hk g a b (Array.getElem?_eq_some_iff.1 hg).1]; exact hg, r⟩

theorem Own.below (h : Own lo hi e w v l) (hb : Below w.heap.size w w') : Own lo hi e w' v l := h.keep fun k _ _ h3 => hb.block k h3

theorem Own.size (h : Own lo hi e w v l) : l.length ≤ maxLen := by
  rcases h with ⟨_, rfl⟩ | ⟨g, cap, cur, hv, a, b, hg, r1, r2, _⟩
  · simp
  · omega

theorem Own.rd (h : Own lo hi e w v l) : Rd w v l := by
  rcases h with ⟨rfl, rfl⟩ | ⟨g, cap, cur, rfl, a, b, hg, r1, r2, r3, r4⟩
  · exact ⟨none, 0, rfl, by simp, by simp, fun _ => rfl, fun j u hu => by simp [cellsL] at hu⟩
  · refine ⟨_, cap, rfl, r1, r2, ?_, fun j u hu => ⟨g, 0, rfl, ?_⟩⟩
    · intro h; cases h
    rw [cell_of_row w g (0 + j) cur e (0, 0) hg]
    rw [← r4, List.getElem?_take] at hu
    split at hu
    · simpa using hu
    · cases hu

theorem Own.shape (h : Own lo hi e w v l) : ∃ ao cap, v = .slice ao l.length cap := by
  rcases h with ⟨rfl, rfl⟩ | ⟨g, cap, cur, rfl, _⟩
  · exact ⟨none, 0, rfl⟩
  · exact ⟨_, _, rfl⟩

theorem Own.hiSize (h : Own lo hi e w v l) : Own lo w.heap.size e w v l := by
  rcases h with h | ⟨g, cap, cur, hv, a, b, hg, r⟩
  · exact .inl h
  · exact .inr ⟨g, cap, cur, hv, a, (Array.getElem?_eq_some_iff.1 hg).1, hg, r⟩
end

/-- what is asked of the types: t is the slice type with elements of type e, which lie as α lies; z is the zero value -/
structure SlT (P : Program) (α : Type) [Enc α] (t e bytes : Nat) (z : α) : Prop where
  und : P.underlying t = some (.slice e)
  inf : ∃ i zv, P.info? e = some i ∧ i.zero = some zv ∧ zv.cells.toList = Enc.cells z ∧ i.size = Enc.sz α ∧ i.bytes = bytes
  pos : 0 < Enc.sz α

theorem SlT.mk' {P : Program} {α : Type} [Enc α] {t e bytes : Nat} {z : α} {zv : Value} (h1 : P.underlying t = some (.slice e)) (h2 : (P.info? e).map (fun i => (i.zero, i.size, i.bytes)) = some (some zv, Enc.sz α, bytes))
    (h3 : zv.cells.toList = Enc.cells z) (h4 : 0 < Enc.sz α) : SlT P α t e bytes z := by
  obtain ⟨i, a, b, c, d⟩ := info_parts h2
  exact ⟨h1, ⟨i, zv, a, b, h3, c, d⟩, h4⟩

section
variable {α : Type} [Enc α] {lo hi t e bytes : Nat} {z : α} {P : Program}

theorem addr_add (b o j : Nat) : (⟨b, o, none⟩ : Addr).add j = ⟨b, o + j, none⟩ := by unfold Addr.add; split <;> simp_all

theorem cells_one (l : List α) : ∀ u ∈ cellsL l, u.oneCell' = true := by
  intro u hu
  obtain ⟨a, _, hu⟩ := List.mem_flatMap.1 hu
  exact Enc.one a u hu

theorem below_drew_alloc (w : World) (o : Obj) : Below w.heap.size w (w.drew.alloc o) := ((Below.refl _ _).drew).alloc (Nat.le_refl _) _

/-- 'append(v, x...)', v the call's own -/
theorem Own.append (T : SlT P α t e bytes z) {w : World} {v x : Value} {l m : List α} (ty : TypeId) (h1 : Own lo hi e w v l) (h2 : Rd w x m) (hb : (l.length + m.length) * bytes ≤ 140737488355328) (hm : l.length + m.length ≤ maxLen) (hlo : lo ≤ w.heap.size) :
    ∃ v' w', (Builtin.append_ #[t, t] ty #[v, x]).run P w = .ok v' w' ∧ Own lo w'.heap.size e w' v' (l ++ m) ∧ w.grownBy w' v.ownBlock ∧ (v' = .slice none 0 0 → l ++ m = []) := by
  obtain ⟨i, zv, hi, hz, hzc, hsz, hby⟩ := T.inf
  have hzs : zv.cells.size = i.size := by rw [← Array.length_toList, hzc, Enc.len, hsz]
  subst hby
  have h63 : l.length + m.length ≤ 9223372036854775807 := by simpa only [maxLen] using hm
  obtain ⟨ao, c, rfl, g1, g2, g3, g4⟩ := h2
  by_cases hm0 : m = []
  · subst hm0
    have hown : Own lo w.heap.size e w v (l ++ []) := by simpa using h1.hiSize
    refine ⟨v, w, ?_, hown, ⟨rfl, rfl, rfl, Nat.le_refl _, fun _ _ _ => rfl⟩, fun hv => ?_⟩
    · rcases h1 with ⟨rfl, rfl⟩ | ⟨g, cap, cur, rfl, _, _, hg, r1, r2, r3, r4⟩
      · cases ao <;> simp [Builtin.append_, run_underlying T.und, sizeOf, typeInfo, hi, Builtin.lenOf, Builtin.firstCells, loadCells, loadCellsFrom]
      · cases ao <;> simp [Builtin.append_, run_underlying T.und, sizeOf, typeInfo, hi, Builtin.lenOf, Builtin.firstCells, loadCells, loadCellsFrom, r1, storeCells]
    · rcases h1 with ⟨_, rfl⟩ | ⟨g, cap, cur, rfl, _⟩
      · rfl
      · cases hv
  · have hmp : 0 < m.length := List.length_pos_iff.2 hm0
    have hcl : (cellsL m).length = m.length * i.size := by rw [cellsL_length, hsz]
    obtain ⟨b, o, rfl⟩ : ∃ b o, ao = some ⟨b, o, none⟩ := by
      have hlt : 0 < (cellsL m).length := by rw [cellsL_length]; exact Nat.mul_pos hmp T.pos
      obtain ⟨b, o, e, _⟩ := g4 0 _ (List.getElem?_eq_getElem hlt)
      exact ⟨b, o, e⟩
    have hnews : ∀ j u, (cellsL m)[j]? = some u → w.cell? ((⟨b, o, none⟩ : Addr).add j) = some u := fun j u hu => by
      obtain ⟨b', o', e, hc⟩ := g4 j u hu
      simp only [Option.some.injEq, Addr.mk.injEq, and_true] at e
      obtain ⟨rfl, rfl⟩ := e
      rw [addr_add]; exact hc
    have hlen : (cellsL (l ++ m)).length = (l.length + m.length) * i.size := by rw [cellsL_length, hsz, List.length_append]
    have grown : ∀ (old : Nat), old < l.length + m.length → ∀ row : Option Nat,
        Own lo (w.drew.alloc (.cells ((cellsL l).toArray ++ (cellsL m).toArray ++ Builtin.zeroCells zv.cells (grownCap w (l.length + m.length) old e - (l.length + m.length))) e)).heap.size e
          (w.drew.alloc (.cells ((cellsL l).toArray ++ (cellsL m).toArray ++ Builtin.zeroCells zv.cells (grownCap w (l.length + m.length) old e - (l.length + m.length))) e))
          (.slice (some ⟨w.heap.size, 0, none⟩) (l.length + m.length) (grownCap w (l.length + m.length) old e)) (l ++ m) ∧
        w.grownBy (w.drew.alloc (.cells ((cellsL l).toArray ++ (cellsL m).toArray ++ Builtin.zeroCells zv.cells (grownCap w (l.length + m.length) old e - (l.length + m.length))) e)) row := by
      intro old ho row
      have hge := grownCap_ge w (l.length + m.length) old e
      have hcm : grownCap w (l.length + m.length) old e ≤ maxLen := grownCap_le_maxLen w (l.length + m.length) old e hm
      refine ⟨.inr ⟨w.heap.size, _, _, by rw [List.length_append], hlo, by simp, heap_alloc_new w.drew _, by rw [List.length_append]; exact hge, hcm, ?_, ?_⟩, ⟨rfl, rfl, rfl, by simp, fun k hk _ => Below.heap_alloc w.drew _ k hk⟩⟩
      · simp only [Array.size_append, List.size_toArray, size_zeroCells, hzs, cellsL_length, hsz, ← Nat.add_mul]
        exact Nat.le_of_eq (by congr 1; omega)
      · simp only [Array.toList_append, List.append_assoc]
        rw [← List.append_assoc, ← cellsL_append, ← cellsL_length]
        exact List.take_left
    rcases h1 with ⟨rfl, rfl⟩ | ⟨g, cap, cur, rfl, hbg, hgh, hg, hnc, hcm, hcs, htake⟩
    · have hr := run_append_nil (P := P) w t ty e i zv T.und hi hz ⟨b, o, none⟩ m.length c (cellsL m) hcl hnews hmp (by simp at h63; omega) (by simp at hb; omega)
      have hgr := grown 0 (by simpa using hmp) (Value.ownBlock (.slice none 0 0))
      have e0 : cellsL ([] : List α) = [] := rfl
      simp only [List.length_nil, Nat.zero_add, List.nil_append, e0, Array.empty_append] at hgr
      simp only [List.nil_append]
      exact ⟨_, _, hr, hgr.1, hgr.2, fun h => by cases h⟩
    · have hcur : (cur.toList.take (l.length * i.size)) = cellsL l := by rw [hsz]; exact htake
      have hcs' : cap * i.size ≤ cur.size := by rw [hsz]; exact hcs
      by_cases hroom : l.length + m.length ≤ cap
      · have hfit : l.length * i.size + (cellsL m).length ≤ cur.size := by
          rw [hcl, ← Nat.add_mul]; exact Nat.le_trans (Nat.mul_le_mul_right _ hroom) hcs'
        have hr := run_append_room (P := P) w t ty e i T.und hi g l.length cap cur hg ⟨b, o, none⟩ m.length c (cellsL m) hcl hnews (cells_one m) hroom hfit
        refine ⟨_, _, hr, .inr ⟨g, cap, _, by rw [List.length_append], hbg, ?_, setRow_heap w g cur _ e _ hg, by rw [List.length_append]; exact hroom, hcm, ?_, ?_⟩,
          ⟨rfl, rfl, rfl, by simp [World.setRow], fun k _ hk => setRow_other w g k _ (fun e => hk (by simp [Value.ownBlock, e]))⟩, fun h => by cases h⟩
        · exact Nat.lt_of_lt_of_le (Array.getElem?_eq_some_iff.1 hg).1 (by simp [World.setRow])
        · simp only [List.size_toArray, List.length_append, List.length_take, List.length_drop, Array.length_toList]
          rw [← hsz]
          omega
        · rw [hcur, List.length_append, ← hsz, ← hlen, cellsL_append]
          exact List.take_left
      · have holds : ∀ j u, (cellsL l)[j]? = some u → w.cell? ((⟨g, 0, none⟩ : Addr).add j) = some u := fun j u hu => by
          rw [addr_add, cell_of_row w g (0 + j) cur e (0, 0) hg]
          rw [← hcur, List.getElem?_take] at hu
          split at hu
          · simpa using hu
          · cases hu
        have hr := run_append_grow (P := P) w t ty e i zv T.und hi hz ⟨g, 0, none⟩ l.length cap (cellsL l) (by rw [cellsL_length, hsz]) holds ⟨b, o, none⟩ m.length c (cellsL m) hcl hnews (by omega) (by omega) (growslice_fits (by omega) hb)
        have hgr := grown cap (by omega) (Value.ownBlock (.slice (some ⟨g, 0, none⟩) l.length cap))
        exact ⟨_, _, hr, hgr.1, hgr.2, fun h => by cases h⟩
end

section
variable {α : Type} [Enc α] {lo hi t e bytes : Nat} {z : α} {P : Program}

theorem madeCells_rep {P : Program} (T : SlT P α t e bytes z) {i : TypeInfo} {zv : Value} (hzc : zv.cells.toList = Enc.cells z) (hsz : i.size = Enc.sz α) (n : Nat) :
    (madeCells zv.cells (n * i.size)).toList = cellsL (List.replicate n z) := by
  have hzs : zv.cells.size = Enc.sz α := by rw [← Array.length_toList, hzc, Enc.len]
  have hp := T.pos
  rw [hsz]
  apply List.ext_getElem?
  intro j
  by_cases hj : j < n * Enc.sz α
  · have hd : j / Enc.sz α < n := by rw [Nat.div_lt_iff_lt_mul hp]; exact hj
    have hmod : j % Enc.sz α < Enc.sz α := Nat.mod_lt _ hp
    have e1 : j = j / Enc.sz α * Enc.sz α + j % Enc.sz α := by rw [Nat.mul_comm]; exact (Nat.div_add_mod j (Enc.sz α)).symm
    have hr := cellsL_at (List.replicate n z) (j / Enc.sz α) (j % Enc.sz α) hmod
    rw [← e1] at hr
    rw [hr]
    simp only [List.getElem?_replicate, hd, if_true, Option.bind_some, ← hzc]
    rw [Array.getElem?_toList, Array.getElem?_toList]
    have h2 : j % zv.cells.size < zv.cells.size := by rw [hzs]; exact hmod
    have e2 : j % Enc.sz α = j % zv.cells.size := by rw [hzs]
    rw [e2, Array.getElem?_eq_getElem h2]
    simp only [madeCells, Array.getElem?_map]
    rw [Array.getElem?_range, if_pos hj]
    simp only [Option.map_some, Option.some.injEq]
    exact getElem!_pos zv.cells _ h2
  · rw [List.getElem?_eq_none (by rw [Array.length_toList, size_madeCells]; omega), List.getElem?_eq_none (by rw [cellsL_length, List.length_replicate]; omega)]

theorem Own.make (T : SlT P α t e bytes z) (w : World) (kl kc : IntKind) (n : Nat) (hb : bytes * n ≤ 281474976710656) (hm : n ≤ maxLen) :
    ∃ w', (Instr.makeSlice t (.int kl (n : Int)) (.int kc (n : Int))).run P w = .ok (.slice (some ⟨w.heap.size, 0, none⟩) n n) w' ∧
      Own w.heap.size (w.heap.size + 1) e w' (.slice (some ⟨w.heap.size, 0, none⟩) n n) (List.replicate n z) ∧ Below w.heap.size w w' ∧ w'.heap.size = w.heap.size + 1 := by
  obtain ⟨i, zv, hi, hz, hzc, hsz, hby⟩ := T.inf
  subst hby
  have h63' : (n : Int) ≤ 9223372036854775807 := by have h := hm; simp [maxLen] at h; omega
  have hb' : (i.bytes : Int) * (n : Int) ≤ 281474976710656 := by
    have h : ((i.bytes * n : Nat) : Int) ≤ 281474976710656 := by omega
    rwa [Int.natCast_mul] at h
  have hr := run_make (P := P) w t e i zv T.und hi hz kl kc n n (by omega) (Int.le_refl _) hb' h63'
  simp only [Int.toNat_natCast] at hr
  refine ⟨_, hr, .inr ⟨w.heap.size, n, _, by rw [List.length_replicate], Nat.le_refl _, by omega, heap_alloc_new w _, by simp, hm, by rw [size_madeCells, hsz]; exact Nat.le_refl _, ?_⟩, (Below.refl _ _).alloc (Nat.le_refl _) _, by simp⟩
  rw [madeCells_rep T hzc hsz, List.length_replicate]
  exact List.take_of_length_le (by rw [cellsL_length, List.length_replicate]; exact Nat.le_refl _)

/-- one cell of element k is written -/
theorem Own.setField {w : World} {g cap : Nat} {n : Nat} {l : List α} (h : Own lo hi e w (.slice (some ⟨g, 0, none⟩) n cap) l) (k i : Nat) (hk : k < l.length) (hi' : i < Enc.sz α) (u : Value) (x : α)
    (hx : (Enc.cells l[k]).set i u = Enc.cells x) (j : Nat) (hj : j = k * Enc.sz α + i) :
    Own lo hi e (w.setCell ⟨g, j, none⟩ u) (.slice (some ⟨g, 0, none⟩) n cap) (l.set k x) := by
  subst hj
  rcases h with ⟨h, _⟩ | ⟨g', cap', cur, hv, a, b, hg, r1, r2, r3, r4⟩
  · cases h
  · simp only [Value.slice.injEq, Option.some.injEq, Addr.mk.injEq, and_true] at hv
    obtain ⟨rfl, rfl, rfl⟩ := hv
    refine .inr ⟨g, cap, cur.setIfInBounds (k * Enc.sz α + i) u, by rw [List.length_set], a, b, heap_setCell_same w g _ cur e u hg, by simpa using r1, r2, by simpa using r3, ?_⟩
    rw [List.length_set, Array.toList_setIfInBounds, List.take_set, r4]
    apply List.ext_getElem?
    intro j
    have hp : 0 < Enc.sz α := by omega
    by_cases hj : j < l.length * Enc.sz α
    · have hmod : j % Enc.sz α < Enc.sz α := Nat.mod_lt _ hp
      have e1 : j = j / Enc.sz α * Enc.sz α + j % Enc.sz α := by rw [Nat.mul_comm]; exact (Nat.div_add_mod j (Enc.sz α)).symm
      have hd : j / Enc.sz α < l.length := by rw [Nat.div_lt_iff_lt_mul hp]; exact hj
      have q1 := cellsL_at (l.set k x) (j / Enc.sz α) (j % Enc.sz α) hmod
      have q2 := cellsL_at l (j / Enc.sz α) (j % Enc.sz α) hmod
      rw [← e1] at q1 q2
      rw [q1, List.getElem?_set]
      by_cases hjk : k * Enc.sz α + i = j
      · have ek : j / Enc.sz α = k := by rw [← hjk, Nat.mul_comm, Nat.mul_add_div hp, Nat.div_eq_of_lt hi']; omega
        have ei : j % Enc.sz α = i := by rw [← hjk, Nat.mul_comm, Nat.mul_add_mod, Nat.mod_eq_of_lt hi']
        rw [if_pos hjk, if_pos (by rw [cellsL_length]; omega), ek, ei, List.getElem?_set, if_pos rfl, if_pos hk, Option.bind_some, ← hx, List.getElem?_set, if_pos rfl, if_pos (by rw [Enc.len]; exact hi')]
      · rw [if_neg hjk, q2, List.getElem?_set]
        by_cases ek : k = j / Enc.sz α
        · have ei : i ≠ j % Enc.sz α := fun e => hjk (by rw [ek, e]; exact e1.symm)
          rw [if_pos ek, if_pos (by omega)]
          subst ek
          simp only [List.getElem?_eq_getElem hk, Option.bind_some, ← hx, List.getElem?_set, if_neg ei]
        · rw [if_neg ek]
    · rw [List.getElem?_eq_none (by rw [List.length_set, cellsL_length]; omega), List.getElem?_eq_none (by rw [cellsL_length, List.length_set]; omega)]

theorem Own.frozen {w : World} {g cap n : Nat} {l : List α} (h : Own lo hi e w (.slice (some ⟨g, 0, none⟩) n cap) l) (j : Nat) : w.frozen? ⟨g, j, none⟩ = false := by
  rcases h with ⟨h, _⟩ | ⟨g', cap', cur, hv, a, b, hg, _⟩
  · cases h
  · simp only [Value.slice.injEq, Option.some.injEq, Addr.mk.injEq, and_true] at hv
    obtain ⟨rfl, rfl, rfl⟩ := hv
    exact frozen_of_row w g j cur e hg

theorem Own.elem {w : World} {g cap n : Nat} {l : List α} (h : Own lo hi e w (.slice (some ⟨g, 0, none⟩) n cap) l) (k : Nat) (hk : k < l.length) (hs : 0 < Enc.sz α) :
    ∀ i, i < Enc.sz α → w.cell? ⟨g, k * Enc.sz α + i, none⟩ = (Enc.cells l[k])[i]? := by
  obtain ⟨b, o, he, hc⟩ := h.rd.elem k hk hs
  rcases h with ⟨h, _⟩ | ⟨g', cap', cur, hv, a, b', hg, _⟩
  · cases h
  · simp only [Value.slice.injEq, Option.some.injEq, Addr.mk.injEq, and_true] at hv he
    obtain ⟨rfl, rfl, rfl⟩ := hv
    obtain ⟨rfl, rfl⟩ := he
    intro i hi
    simpa using hc i hi

theorem Own.block {w : World} {g cap n : Nat} {l : List α} (h : Own lo hi e w (.slice (some ⟨g, 0, none⟩) n cap) l) : lo ≤ g ∧ g < hi ∧ g < w.heap.size ∧ n = l.length ∧ n ≤ cap := by
  rcases h with ⟨h, _⟩ | ⟨g', cap', cur, hv, a, b, hg, r1, _⟩
  · cases h
  · simp only [Value.slice.injEq, Option.some.injEq, Addr.mk.injEq, and_true] at hv
    obtain ⟨rfl, rfl, rfl⟩ := hv
    exact ⟨a, b, (Array.getElem?_eq_some_iff.1 hg).1, rfl, r1⟩

theorem Own.setAt {w : World} {g cap : Nat} {n : Nat} {l : List α} {k : Nat} {y : α} (h : Own lo hi e w (.slice (some ⟨g, 0, none⟩) n cap) (l.set k y)) (hk : k < l.length) (i : Nat) (hi' : i < Enc.sz α) (u : Value) (x : α)
    (hx : (Enc.cells y).set i u = Enc.cells x) (j : Nat) (hj : j = k * Enc.sz α + i) :
    Own lo hi e (w.setCell ⟨g, j, none⟩ u) (.slice (some ⟨g, 0, none⟩) n cap) (l.set k x) := by
  have := h.setField k i (by simpa using hk) hi' u x (by simpa using hx) j hj
  simpa using this

/-- a store into another block -/
theorem Own.setOther {w : World} {v : Value} {l : List α} (h : Own lo hi e w v l) {p : Addr} (hp : p.block < lo ∨ hi ≤ p.block) (u : Value) : Own lo hi e (w.setCell p u) v l :=
  h.keep fun k h1 h2 _ => Below.heap_setCell _ _ _ _ (by omega)
end

theorem own_empty {α : Type} [Enc α] (e : TypeId) (w : World) : Own (α := α) w.heap.size (w.heap.size + 1) e (w.alloc (.cells #[] e)) (.slice (some ⟨w.heap.size, 0, none⟩) 0 0) [] :=
  .inr ⟨w.heap.size, 0, #[], rfl, Nat.le_refl _, by omega, heap_alloc_new w _, by simp, by simp [maxLen], by simp, by simp [cellsL]⟩

theorem own_block (w : World) : ∀ k, (Value.slice (some ⟨w.heap.size, 0, none⟩) 0 0).ownBlock = some k → w.heap.size ≤ k ∧ k < w.heap.size + 1 := by
  intro k hk
  simp only [Value.ownBlock, Option.some.injEq] at hk
  omega

/-- what a function leaves that returns a slice in new memory -/
def RetOwn {α : Type} [Enc α] (e : TypeId) (l : List α) (w : World) (x : Ending) (w' : World) : Prop := ∃ v, x = .returned v ∧ Own w.heap.size w'.heap.size e w' v l ∧ Below w.heap.size w w'

theorem set_fill {α : Type} (l : List α) (z : α) (k : Nat) (hk : k < l.length) : (l.take k ++ List.replicate (l.length - k) z).set k l[k] = l.take (k + 1) ++ List.replicate (l.length - (k + 1)) z := by
  rw [List.set_append_right _ _ (by simp; omega), List.length_take, Nat.min_eq_left (by omega), Nat.sub_self, List.take_succ_eq_append_getElem hk]
  rw [show l.length - k = (l.length - (k + 1)) + 1 from by omega, List.replicate_succ, List.set_cons_zero, List.append_assoc]
  rfl

theorem only_setCell {a w : World} {g : Nat} (h : a.grownBy w (some g)) {p : Addr} (hp : p.block = g ∨ a.heap.size ≤ p.block) (u : Value) : a.grownBy (w.setCell p u) (some g) :=
  ⟨h.os, h.tape, h.output, by simpa [World.setCell] using h.size, fun i hi hne => (Below.heap_setCell w p u i (by
    rintro rfl
    rcases hp with hp | hp
    · exact hne (by rw [hp])
    · omega)).trans (h.block i hi hne)⟩

theorem marks_step {α : Type} (f : Nat → α) (l : List α) (j : Nat) (hj : j < l.length) : ((List.range j).map f ++ l.drop j).set j (f j) = (List.range (j + 1)).map f ++ l.drop (j + 1) := by
  rw [List.set_append_right _ _ (by simp), List.length_map, List.length_range, Nat.sub_self, List.range_succ, List.map_append, List.append_assoc]
  rw [List.drop_eq_getElem_cons hj, List.set_cons_zero]
  rfl

/-! ### at the operation -/
theorem wpList_app {α : Type} [Enc α] {lo hi t e bytes : Nat} {z : α} {P : Program} (T : SlT P α t e bytes z) {w : World} {ops : Array Oper} {rest : List Oper} {o : Oper} {a : Act} {Q : Exit → Act → World → Prop}
    (hgd : o.guard = none) (s x : Operand) (ho : o.op = .call { callee := .builtin .append, args := #[s, x], argTypes := #[t, t] }) {v xv : Value} {l m : List α} (hs : a.eval s = v) (hx : a.eval x = xv)
    (h1 : Own lo hi e w v l) (h2 : Rd w xv m) (hb : (l.length + m.length) * bytes ≤ 140737488355328) (hm : l.length + m.length ≤ maxLen) (hlo : lo ≤ w.heap.size)
    (h : ∀ v' w', Own lo w'.heap.size e w' v' (l ++ m) → w.grownBy w' v.ownBlock → (v' = .slice none 0 0 → l ++ m = []) → wpList P ops Q rest (a.put o.dst v') w') : wpList P ops Q (o :: rest) a w := by
  refine wpList_plain hgd fun K hK => ?_
  obtain ⟨v', w', hr, r1, r2, r3⟩ := Own.append T o.type h1 h2 hb hm hlo
  unfold Oper.wp execOp
  simp only [ho, resolve, invoke, builtin, Sem.run_bind, Sem.run_pure, Result.andThen_ok, List.map_toArray, List.map_cons, List.map_nil, hs, hx, hr]
  exact hK _ _ (h v' w' r1 r2 r3)

theorem wpList_mk {α : Type} [Enc α] {t e bytes : Nat} {z : α} {P : Program} (T : SlT P α t e bytes z) {w : World} {ops : Array Oper} {rest : List Oper} {o : Oper} {a : Act} {Q : Exit → Act → World → Prop}
    (hgd : o.guard = none) (l c : Operand) (hop : o.op = Op.makeSlice t l c) (n : Nat) {L C : Int} (kl kc : IntKind) (hl : a.eval l = .int kl L) (hc : a.eval c = .int kc C) (hL : L = (n : Int)) (hC : C = (n : Int))
    (hb : bytes * n ≤ 281474976710656) (hm : n ≤ maxLen)
    (h : ∀ w', Own w.heap.size (w.heap.size + 1) e w' (.slice (some ⟨w.heap.size, 0, none⟩) n n) (List.replicate n z) → Below w.heap.size w w' → w'.heap.size = w.heap.size + 1 →
      wpList P ops Q rest (a.put o.dst (.slice (some ⟨w.heap.size, 0, none⟩) n n)) w') : wpList P ops Q (o :: rest) a w := by
  refine wpList_plain hgd fun K hK => ?_
  obtain ⟨w', hr, r1, r2, r3⟩ := Own.make T w kl kc n hb hm
  subst hL
  subst hC
  unfold Oper.wp
  simp [execOp, hop, hl, hc, hr, Result.andThen]
  exact hK _ _ (h w' r1 r2 r3)

#print axioms Own.append
#print axioms wpList_mk
end Go.Proofs.YtciliaiocakdkaaDoor
