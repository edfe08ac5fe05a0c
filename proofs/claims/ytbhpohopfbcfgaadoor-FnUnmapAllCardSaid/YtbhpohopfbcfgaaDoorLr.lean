/- A page that is mapped: the table stays valid, the page is found first in its chain, and unmapping it gives the table back. -/
import Derived.Test.YtbhpohopfbcfgaaDoorLg
set_option linter.unusedSimpArgs false
set_option linter.unusedVariables false
namespace Go.Proofs.YtbhpohopfbcfgaaDoor
open Go.RowKit
variable {fl : Nat}
theorem walk_congr {fs fs' : List F} {nb b : Int} (hl : fs'.length = fs.length) : ∀ {m : Nat} {i : Int} {L : List Nat}, walk fs nb b m i = some L → (∀ x ∈ L, fs'[x]? = fs[x]?) → walk fs' nb b m i = some L
  | 0, i, L, h, _ => h
  | m + 1, i, L, h, he => by
    by_cases h1 : i = -1
    · subst h1; rw [walk_end] at h ⊢; exact h
    · by_cases hx : ∃ j : Nat, i = j ∧ ∃ hj : j < fs.length, fs[j].u = true ∧ hashI fs[j].k nb = b
      · obtain ⟨j, rfl, hj, hu, hh⟩ := hx
        rw [walk_step hj hu hh] at h
        cases hw : walk fs nb b m fs[j].nx with
        | none => rw [hw] at h; cases h
        | some M =>
          rw [hw] at h
          simp only [Option.map_some, Option.some.injEq] at h
          subst h
          have e := he j (by simp)
          have hj' : j < fs'.length := by omega
          rw [List.getElem?_eq_getElem hj, List.getElem?_eq_getElem hj', Option.some.injEq] at e
          rw [walk_step hj' (by rw [e]; exact hu) (by rw [e]; exact hh), e, walk_congr hl hw (fun x hx => he x (by simp [hx]))]
          rfl
      · rw [walk_out h1 (fun j e hj hu hh => hx ⟨j, e, hj, hu, hh⟩)] at h
        cases h
theorem walk_less {fs : List F} {nb b : Int} : ∀ {m : Nat} {i : Int} {L : List Nat}, walk fs nb b m i = some L → walk fs nb b L.length i = some L
  | 0, i, L, h => by
    simp only [walk] at h
    split at h
    · rename_i e; subst e; simp at h; subst h; exact walk_end ..
    · cases h
  | m + 1, i, L, h => by
    by_cases h1 : i = -1
    · subst h1; rw [walk_end] at h; simp at h; subst h; exact walk_end ..
    · by_cases hx : ∃ j : Nat, i = j ∧ ∃ hj : j < fs.length, fs[j].u = true ∧ hashI fs[j].k nb = b
      · obtain ⟨j, rfl, hj, hu, hh⟩ := hx
        rw [walk_step hj hu hh] at h
        cases hw : walk fs nb b m fs[j].nx with
        | none => rw [hw] at h; cases h
        | some M =>
          rw [hw] at h
          simp only [Option.map_some, Option.some.injEq] at h
          subst h
          rw [List.length_cons, walk_step hj hu hh, walk_less hw]
          rfl
      · rw [walk_out h1 (fun j e hj hu hh => hx ⟨j, e, hj, hu, hh⟩)] at h
        cases h
theorem usedKeys_set {l : List F} {i : Nat} (hi : i < l.length) (hu : l[i].u = false) {x : F} (hx : x.u = true) : (usedKeys (l.set i x)).Perm (x.k :: usedKeys l) := by
  have e : l = l.take i ++ l[i] :: l.drop (i + 1) := by rw [List.getElem_cons_drop, List.take_append_drop]
  have e2 : l.set i x = l.take i ++ x :: l.drop (i + 1) := List.set_eq_take_append_cons_drop .. |>.trans (by rw [if_pos hi])
  rw [e2]
  conv => rhs; rw [e]
  simp only [usedKeys, List.filter_append, List.filter_cons, hu, hx, if_true, List.map_append, List.map_cons]
  simp only [Bool.false_eq_true, if_false]
  exact List.perm_middle
theorem sum_one {f g : Nat → Nat} {h : Nat} (hh : g h = f h + 1) (ho : ∀ i, i ≠ h → g i = f i) : ∀ n, ((List.range n).map g).sum = ((List.range n).map f).sum + (if h < n then 1 else 0) := by
  intro n
  induction n with
  | zero => simp
  | succ n ih =>
    simp only [List.range_succ, List.map_append, List.map_cons, List.map_nil, List.sum_append, List.sum_cons, List.sum_nil, ih]
    by_cases e : n = h
    · subst e; rw [hh, if_neg (by omega), if_pos (by omega)]; omega
    · rw [ho n e]
      by_cases e2 : h < n
      · rw [if_pos e2, if_pos (by omega)]; omega
      · rw [if_neg e2, if_neg (by omega)]; omega

structure CanMap (t : T) (k : K) (fr : Nat) (r : Int) : Prop where
  ok : TOk t
  hk : keyOk k = true
  hr : rightsOk r = true
  hf : fr < t.f.length
  hu : t.f[fr].u = false
  hn : findF t.f k < 0
theorem CanMap.nokey {t : T} {k : K} {fr : Nat} {r : Int} (c : CanMap t k fr r) : k ∉ usedKeys t.f := by
  intro hm
  rcases findF_spec t.f k with ⟨_, h2⟩ | ⟨i, hi, e, _, _⟩
  · unfold usedKeys at hm
    obtain ⟨g, hg, rfl⟩ := List.mem_map.1 hm
    obtain ⟨hg1, hg2⟩ := List.mem_filter.1 hg
    have := h2 g hg1
    simp [hasKey] at this
    simp [this] at hg2
  · have := c.hn; omega
theorem CanMap.chainO {t : T} {k : K} {fr : Nat} {r : Int} (c : CanMap t k fr r) {i : Nat} (hi : i < t.b.length) (hne : i ≠ bucketT t k) : ∃ L, chain t i = some L ∧ chain (mapT t k fr r) i = some L := by
  obtain ⟨L, hL⟩ := Option.isSome_iff_exists.1 (c.ok.ch i hi)
  refine ⟨L, hL, ?_⟩
  unfold chain at hL ⊢
  have e1 : (mapT t k fr r).f.length = t.f.length := by simp [mapT]
  have e2 : (mapT t k fr r).b.length = t.b.length := by simp [mapT]
  have e3 : (mapT t k fr r).b.getD i (-1) = t.b.getD i (-1) := by
    simp only [mapT, List.getD_eq_getElem?_getD, List.getElem?_set, if_neg (fun x => hne x.symm : ¬ bucketT t k = i)]
  rw [e1, e2, e3]
  refine walk_congr e1 hL fun x hx => ?_
  obtain ⟨hx1, hx2, _⟩ := walk_mem hL x hx
  simp only [mapT, List.getElem?_set]
  split
  · rename_i e; subst e; rw [c.hu] at hx2; cases hx2
  · rfl
theorem CanMap.chainH {t : T} {k : K} {fr : Nat} {r : Int} (c : CanMap t k fr r) : ∃ L, chain t (bucketT t k) = some L ∧ chain (mapT t k fr r) (bucketT t k) = some (fr :: L) := by
  obtain ⟨hb, he⟩ := bucketT_lt c.hk c.ok.b1 c.ok.b2
  obtain ⟨L, hL⟩ := Option.isSome_iff_exists.1 (c.ok.ch _ hb)
  refine ⟨L, hL, ?_⟩
  have hnf : fr ∉ L := fun hm => by
    obtain ⟨_, hx2, _⟩ := walk_mem (show walk t.f t.b.length (bucketT t k) t.f.length (t.b.getD (bucketT t k) (-1)) = some L from hL) fr hm
    rw [c.hu] at hx2; cases hx2
  have hlen : L.length + 1 ≤ t.f.length := by
    have := nodup_le (L := fr :: L) (n := t.f.length) (List.nodup_cons.2 ⟨hnf, walk_nodup hL⟩) (fun x hx => by
      rcases List.mem_cons.1 hx with e | e
      · subst e; exact c.hf
      · exact (walk_mem hL x e).1)
    simpa using this
  unfold chain
  have e1 : (mapT t k fr r).f.length = t.f.length := by simp [mapT]
  have e2 : (mapT t k fr r).b.length = t.b.length := by simp [mapT]
  have e3 : (mapT t k fr r).b.getD (bucketT t k) (-1) = (fr : Int) := by simp [mapT, hb]
  have hfr' : fr < (mapT t k fr r).f.length := by rw [e1]; exact c.hf
  have e4 : (mapT t k fr r).f[fr] = ⟨true, k, r, t.b.getD (bucketT t k) (-1)⟩ := by simp [mapT]
  obtain ⟨m, hm⟩ : ∃ m, t.f.length = m + 1 := ⟨t.f.length - 1, by omega⟩
  rw [e1, e2, e3, hm, walk_step hfr' (by rw [e4]) (by rw [e4]; exact he), e4]
  simp only []
  have hw : walk (mapT t k fr r).f t.b.length (bucketT t k) m (t.b.getD (bucketT t k) (-1)) = some L := by
    refine walk_more (m := L.length) (by omega) (walk_congr e1 (walk_less hL) fun x hx => ?_)
    simp only [mapT, List.getElem?_set]
    split
    · rename_i e; subst e; exact absurd hx hnf
    · rfl
  rw [hw]; rfl
theorem CanMap.tok {t : T} {k : K} {fr : Nat} {r : Int} (c : CanMap t k fr r) : TOk (mapT t k fr r) := by
  have h := c.ok
  obtain ⟨hb, he⟩ := bucketT_lt c.hk h.b1 h.b2
  have hp : (usedKeys (mapT t k fr r).f).Perm (k :: usedKeys t.f) := usedKeys_set c.hf c.hu rfl
  have e1 : (mapT t k fr r).f.length = t.f.length := by simp [mapT]
  have e2 : (mapT t k fr r).b.length = t.b.length := by simp [mapT]
  refine ⟨by rw [e1]; exact h.f1, by rw [e1]; exact h.f2, by rw [e2]; exact h.b1, by rw [e2]; exact h.b2, fun f hf => ?_, ?_, fun i hi => ?_, ?_⟩
  · rcases List.mem_or_eq_of_mem_set hf with e | e
    · exact h.fr f e
    · subst e; simp [frameOk, c.hk, c.hr]
  · rw [hp.nodup_iff]
    exact List.nodup_cons.2 ⟨c.nokey, h.ks⟩
  · by_cases e : i = bucketT t k
    · subst e
      obtain ⟨L, _, hL⟩ := c.chainH
      rw [hL]; rfl
    · obtain ⟨L, _, hL⟩ := c.chainO (by rw [e2] at hi; exact hi) e
      rw [hL]; rfl
  · rw [hp.length_eq, List.length_cons, ← h.sum, e2]
    unfold chainsLen
    have hs : ∀ n, n ≤ t.b.length → ((List.range n).map fun i => ((chain (mapT t k fr r) i).getD []).length).sum = ((List.range n).map fun i => ((chain t i).getD []).length).sum + (if bucketT t k < n then 1 else 0) := by
      intro n
      induction n with
      | zero => intro _; simp
      | succ n ih =>
        intro hn
        simp only [List.range_succ, List.map_append, List.map_cons, List.map_nil, List.sum_append, List.sum_cons, List.sum_nil, ih (by omega)]
        by_cases e : n = bucketT t k
        · obtain ⟨L, a1, a2⟩ := c.chainH
          rw [e, a1, a2, if_neg (by omega), if_pos (by omega)]
          simp; omega
        · obtain ⟨L, a1, a2⟩ := c.chainO (by omega : n < t.b.length) e
          rw [a1, a2]
          by_cases e2 : bucketT t k < n
          · rw [if_pos e2, if_pos (by omega)]; omega
          · rw [if_neg e2, if_neg (by omega)]; omega
    rw [hs _ (Nat.le_refl _), if_pos hb]
theorem CanMap.find {t : T} {k : K} {fr : Nat} {r : Int} (c : CanMap t k fr r) : findF (mapT t k fr r).f k = fr := by
  have e1 : (mapT t k fr r).f.length = t.f.length := by simp [mapT]
  exact find_at c.tok.ks (by rw [e1]; exact c.hf) (by simp [mapT]) (by simp [mapT])
theorem CanMap.undo {t : T} {k : K} {fr : Nat} {r : Int} (c : CanMap t k fr r) : unmapT (mapT t k fr r) fr = t := by
  obtain ⟨hb, he⟩ := bucketT_lt c.hk c.ok.b1 c.ok.b2
  have e1 : (mapT t k fr r).f.getD fr freeF = ⟨true, k, r, t.b.getD (bucketT t k) (-1)⟩ := by simp [mapT, c.hf]
  have e2 : bucketT (mapT t k fr r) k = bucketT t k := by simp [bucketT, mapT]
  have e3 : (mapT t k fr r).b.getD (bucketT t k) (-1) = (fr : Int) := by simp [mapT, hb]
  have hff := c.hf
  have hfree : t.f[fr] = freeF := by
    have := c.ok.fr _ (List.getElem_mem c.hf)
    unfold frameOk at this
    rw [c.hu] at this
    simpa using this
  unfold unmapT
  rw [e1]
  simp only [e2, e3, beq_self_eq_true, if_true]
  simp only [mapT, List.set_set]
  rw [← hfree, List.set_getElem_self]
  have : t.b.getD (bucketT t k) (-1) = t.b[bucketT t k] := by simp [hb]
  rw [this, List.set_getElem_self]
end Go.Proofs.YtbhpohopfbcfgaaDoor
