/- Unmapping a page keeps a table valid. -/
import Derived.Test.YtbhpohopfbcfgaaDoorLx
set_option linter.unusedSimpArgs false
set_option linter.unusedVariables false
namespace Go.Proofs.YtbhpohopfbcfgaaDoor
open Go.RowKit
variable {fl : Nat}
/-- where a link goes once frame i is gone -/
def red (f : List F) (i : Nat) (s : Int) : Int := if s = (i : Int) then (f.getD i freeF).nx else s
def unF (f : List F) (i : Nat) : List F := (unl f i (f.getD i freeF).nx).set i freeF
theorem unF_len (f : List F) (i : Nat) : (unF f i).length = f.length := by simp [unF, unl_len]
theorem unF_at {f : List F} {i j : Nat} (hj : j < f.length) (hne : j ≠ i) : (unF f i)[j]'(by rw [unF_len]; exact hj) = unlF i (f.getD i freeF).nx f[j] := by
  simp only [unF, unl, List.getElem_set, List.getElem_map]
  rw [if_neg (fun e => hne e.symm)]
theorem unlF_u (i nx : Int) (g : F) : (unlF i nx g).u = g.u ∧ (unlF i nx g).k = g.k ∧ (unlF i nx g).r = g.r := by
  unfold unlF; split <;> exact ⟨rfl, rfl, rfl⟩
theorem walk_rm {f : List F} {i : Nat} (hi : i < f.length) (hs : f[i].nx ≠ (i : Int)) {nb b : Int} : ∀ {m : Nat} {s : Int} {L : List Nat}, walk f nb b m s = some L → walk (unF f i) nb b m (red f i s) = some (L.filter fun x => decide (x ≠ i))
  | m, s, L, h => by
    have gD : f.getD i freeF = f[i] := by simp [hi]
    by_cases h1 : s = -1
    · subst h1
      rw [walk_end] at h
      simp only [Option.some.injEq] at h
      subst h
      unfold red
      rw [if_neg (by omega), walk_end]
      rfl
    cases m with
    | zero => simp only [walk] at h; rw [if_neg h1] at h; cases h
    | succ m =>
      by_cases hx : ∃ j : Nat, s = j ∧ ∃ hj : j < f.length, f[j].u = true ∧ hashI f[j].k nb = b
      · obtain ⟨j, rfl, hj, hu, hh⟩ := hx
        rw [walk_step hj hu hh] at h
        cases hw : walk f nb b m f[j].nx with
        | none => rw [hw] at h; cases h
        | some M =>
          rw [hw] at h
          simp only [Option.map_some, Option.some.injEq] at h
          subst h
          have ih := walk_rm hi hs hw
          by_cases e : j = i
          · subst e
            have e1 : red f j (j : Int) = f[j].nx := by unfold red; rw [if_pos rfl, gD]
            have e2 : red f j f[j].nx = f[j].nx := by unfold red; rw [if_neg hs]
            rw [e2] at ih
            rw [e1, walk_more (by omega : m ≤ m + 1) ih]
            simp
          · have e1 : red f i (j : Int) = (j : Int) := by unfold red; rw [if_neg (by omega)]
            have hj' : j < (unF f i).length := by rw [unF_len]; exact hj
            have ha := unF_at hj e
            obtain ⟨a1, a2, a3⟩ := unlF_u i (f.getD i freeF).nx f[j]
            have a4 : (unlF i (f.getD i freeF).nx f[j]).nx = red f i f[j].nx := by
              unfold unlF red
              rw [hu]
              by_cases e3 : f[j].nx = (i : Int)
              · rw [if_pos (by simp [e3]), if_pos e3]
              · rw [if_neg (by simp [e3]), if_neg e3]
            rw [e1, walk_step hj' (by rw [ha, a1]; exact hu) (by rw [ha, a2]; exact hh), ha, a4, ih]
            simp [e]
      · rw [walk_out h1 (fun j e hj hu hh => hx ⟨j, e, hj, hu, hh⟩)] at h
        cases h
/-- where a chain begins with a frame, no used frame of the table follows on to it -/
theorem TOk.headOnly {t : T} (h : TOk t) {i c : Nat} (hc : c < t.b.length) (hb : t.b.getD c (-1) = (i : Int)) {j : Nat} (hj : j < t.f.length) (hu : t.f[j].u = true) : t.f[j].nx ≠ (i : Int) := by
  intro e
  obtain ⟨L, hL⟩ := Option.isSome_iff_exists.1 (h.ch c hc)
  have hL0 := hL
  unfold chain at hL0
  rw [hb] at hL0
  -- i heads L
  obtain ⟨n, hn⟩ : ∃ n, t.f.length = n + 1 := ⟨t.f.length - 1, by omega⟩
  have hhead : ∃ M, L = i :: M ∧ ∃ hi : i < t.f.length, t.f[i].u = true ∧ hashI t.f[i].k t.b.length = c := by
    rw [hn] at hL0
    by_cases hx : ∃ j : Nat, (i : Int) = j ∧ ∃ hj : j < t.f.length, t.f[j].u = true ∧ hashI t.f[j].k t.b.length = c
    · obtain ⟨j', e', hj', hu', hh'⟩ := hx
      obtain rfl : i = j' := by omega
      rw [walk_step hj' hu' hh'] at hL0
      cases hw : walk t.f t.b.length c n t.f[i].nx with
      | none => rw [hw] at hL0; cases hL0
      | some M => rw [hw] at hL0; simp only [Option.map_some, Option.some.injEq] at hL0; exact ⟨M, hL0.symm, hj', hu', hh'⟩
    · rw [walk_out (by omega) (fun j e hj hu hh => hx ⟨j, e, hj, hu, hh⟩)] at hL0
      cases hL0
  obtain ⟨M, rfl, hi, hui, hhi⟩ := hhead
  obtain ⟨L2, hL2, hm⟩ := h.inChain hj hu
  obtain ⟨A, B, rfl⟩ := List.append_of_mem hm
  obtain ⟨m, hw⟩ := walk_from hL2
  obtain ⟨_, hu', hh⟩ := walk_mem hw j (by simp)
  cases m with
  | zero => simp [walk] at hw
  | succ m =>
    rw [walk_step hj hu' hh, e] at hw
    cases hq : walk t.f t.b.length (bucketT t t.f[j].k) m (i : Int) with
    | none => rw [hq] at hw; cases hw
    | some Q =>
      rw [hq] at hw
      simp only [Option.map_some, Option.some.injEq, List.cons.injEq, true_and] at hw
      subst hw
      cases m with
      | zero => simp [walk] at hq
      | succ m =>
        have hi2 : i ∈ Q := by
          by_cases hx : ∃ j : Nat, (i : Int) = j ∧ ∃ hj : j < t.f.length, t.f[j].u = true ∧ hashI t.f[j].k t.b.length = bucketT t t.f[j].k
          · by_cases hh2 : hashI t.f[i].k t.b.length = bucketT t t.f[j].k
            · rw [walk_step hi hui hh2] at hq
              cases hw2 : walk t.f t.b.length (bucketT t t.f[j].k) m t.f[i].nx with
              | none => rw [hw2] at hq; cases hq
              | some R => rw [hw2] at hq; simp only [Option.map_some, Option.some.injEq] at hq; rw [← hq]; simp
            · rw [walk_out (by omega) (fun j' e hj hu hh => by obtain rfl : i = j' := (by omega); exact hh2 hh)] at hq
              cases hq
          · by_cases hh2 : hashI t.f[i].k t.b.length = bucketT t t.f[j].k
            · rw [walk_step hi hui hh2] at hq
              cases hw2 : walk t.f t.b.length (bucketT t t.f[j].k) m t.f[i].nx with
              | none => rw [hw2] at hq; cases hq
              | some R => rw [hw2] at hq; simp only [Option.map_some, Option.some.injEq] at hq; rw [← hq]; simp
            · rw [walk_out (by omega) (fun j' e hj hu hh => by obtain rfl : i = j' := (by omega); exact hh2 hh)] at hq
              cases hq
        have hbi : (c : Int) = bucketT t t.f[j].k := by
          obtain ⟨_, _, h3⟩ := walk_mem hq i hi2
          rw [← hhi, h3]
        have hc2 : c = bucketT t t.f[j].k := by omega
        rw [← hc2] at hL2
        rw [hL] at hL2
        simp only [Option.some.injEq] at hL2
        have nd := walk_nodup (show walk t.f t.b.length c t.f.length (t.b.getD c (-1)) = some (i :: M) from hL)
        cases A with
        | nil =>
          simp only [List.nil_append, List.cons.injEq] at hL2
          rw [hL2.2] at nd
          exact (List.nodup_cons.1 nd).1 hi2
        | cons a A =>
          simp only [List.cons_append, List.cons.injEq] at hL2
          rw [hL2.2] at nd
          exact (List.nodup_cons.1 nd).1 (by simp [hi2])
/-- a page that can be unmapped -/
structure CanUn (t : T) (i : Nat) : Prop where
  ok : TOk t
  hi : i < t.f.length
  hu : t.f[i].u = true
theorem CanUn.key {t : T} {i : Nat} (c : CanUn t i) : keyOk (t.f[i]'c.hi).k = true := by
  have := c.ok.fr _ (List.getElem_mem c.hi)
  unfold frameOk at this
  rw [c.hu] at this
  simp only [if_true, Bool.and_eq_true] at this
  exact this.1
theorem CanUn.eqs {t : T} {i : Nat} (c : CanUn t i) : (unmapT t i).f = unF t.f i ∧ (unmapT t i).b.length = t.b.length ∧ ∀ x, (unmapT t i).b.getD x (-1) = red t.f i (t.b.getD x (-1)) := by
  have hi := c.hi
  have gD : t.f.getD i freeF = t.f[i] := by simp [hi]
  obtain ⟨hb, he⟩ := bucketT_lt c.key c.ok.b1 c.ok.b2
  have other : ∀ x, t.b.getD x (-1) = (i : Int) → x = bucketT t t.f[i].k := fun x hx => by
    have hxl : x < t.b.length := by
      rcases Nat.lt_or_ge x t.b.length with h | h
      · exact h
      · rw [List.getD_eq_getElem?_getD, List.getElem?_eq_none h, Option.getD_none] at hx; omega
    obtain ⟨L, hL⟩ := Option.isSome_iff_exists.1 (c.ok.ch x hxl)
    unfold chain at hL
    rw [hx] at hL
    obtain ⟨n, hn⟩ : ∃ n, t.f.length = n + 1 := ⟨t.f.length - 1, by omega⟩
    rw [hn] at hL
    by_cases hh2 : hashI t.f[i].k t.b.length = x
    · omega
    · rw [walk_out (by omega) (fun j' e hj hu hh => by obtain rfl : i = j' := (by omega); exact hh2 hh)] at hL
      cases hL
  unfold unmapT
  rw [gD]
  by_cases hc : t.b.getD (bucketT t t.f[i].k) (-1) = (i : Int)
  · rw [if_pos (by simpa using hc)]
    refine ⟨?_, by simp, fun x => ?_⟩
    · show t.f.set i freeF = unF t.f i
      unfold unF
      rw [gD]
      congr 1
      unfold unl
      refine List.ext_getElem (by simp) fun j h1 h2 => ?_
      rw [List.getElem_map]
      unfold unlF
      rw [if_neg]
      intro hh
      simp only [Bool.and_eq_true, beq_iff_eq] at hh
      exact c.ok.headOnly hb hc h1 hh.1 hh.2
    · simp only [List.getD_eq_getElem?_getD, List.getElem?_set]
      by_cases e : bucketT t t.f[i].k = x
      · subst e
        rw [if_pos rfl, if_pos hb]
        unfold red
        rw [← List.getD_eq_getElem?_getD, if_pos hc, gD]
        rfl
      · rw [if_neg e]
        unfold red
        rw [← List.getD_eq_getElem?_getD, if_neg (fun h => e (other x h).symm)]
  · rw [if_neg (by simpa using hc)]
    refine ⟨?_, rfl, fun x => ?_⟩
    · unfold unF; rw [gD]
    · unfold red
      rw [if_neg (fun h => ?_)]
      have := other x h
      subst this
      exact hc h
theorem CanUn.chain {t : T} {i : Nat} (c : CanUn t i) {x : Nat} {L : List Nat} (h : Go.Proofs.YtbhpohopfbcfgaaDoor.chain t x = some L) : Go.Proofs.YtbhpohopfbcfgaaDoor.chain (unmapT t i) x = some (L.filter fun y => decide (y ≠ i)) := by
  obtain ⟨e1, e2, e3⟩ := c.eqs
  unfold Go.Proofs.YtbhpohopfbcfgaaDoor.chain at h ⊢
  rw [e1, e2, e3, unF_len]
  exact walk_rm c.hi (c.ok.noself c.hi c.hu) h
theorem unF_keys {f : List F} {i : Nat} (hi : i < f.length) (hu : f[i].u = true) : (usedKeys f).Perm (f[i].k :: usedKeys (unF f i)) := by
  have e : usedKeys (unF f i) = usedKeys (f.set i freeF) := by
    apply usedKeys_congr
    unfold unF unl
    rw [List.map_set, List.map_set, List.map_map]
    congr 1
    apply List.map_congr_left
    intro g _
    obtain ⟨a1, a2, _⟩ := unlF_u i (f.getD i freeF).nx g
    simp only [Function.comp, a1, a2]
  have := usedKeys_set (l := f.set i freeF) (i := i) (by simpa using hi) (by simp [freeF]) (x := f[i]) hu
  rw [List.set_set, List.set_getElem_self] at this
  rw [e]
  exact this
theorem CanUn.keys {t : T} {i : Nat} (c : CanUn t i) : (usedKeys t.f).Perm ((t.f[i]'c.hi).k :: usedKeys (unmapT t i).f) := by
  rw [c.eqs.1]; exact unF_keys c.hi c.hu
theorem CanUn.tok {t : T} {i : Nat} (c : CanUn t i) : TOk (unmapT t i) := by
  obtain ⟨e1, e2, e3⟩ := c.eqs
  have h := c.ok
  have hp := c.keys
  obtain ⟨hb, he⟩ := bucketT_lt c.key c.ok.b1 c.ok.b2
  refine ⟨by rw [e1, unF_len]; exact h.f1, by rw [e1, unF_len]; exact h.f2, by rw [e2]; exact h.b1, by rw [e2]; exact h.b2, fun g hg => ?_, ?_, fun x hx => ?_, ?_⟩
  · rw [e1] at hg
    rcases List.mem_or_eq_of_mem_set hg with e | e
    · obtain ⟨g', hg', rfl⟩ := List.mem_map.1 e
      have := h.fr g' hg'
      unfold unlF
      split
      · rename_i hh
        simp only [Bool.and_eq_true] at hh
        unfold frameOk at this ⊢
        simp only [hh.1, if_true] at this ⊢
        exact this
      · exact this
    · subst e; rfl
  · have := hp.nodup_iff.1 h.ks
    exact (List.nodup_cons.1 this).2
  · obtain ⟨L, hL⟩ := Option.isSome_iff_exists.1 (h.ch x (by rw [e2] at hx; exact hx))
    rw [c.chain hL]; rfl
  · have hl := hp.length_eq
    rw [List.length_cons, ← h.sum] at hl
    rw [e2]
    have hs := sum_one (f := fun x => ((Go.Proofs.YtbhpohopfbcfgaaDoor.chain (unmapT t i) x).getD []).length) (g := fun x => ((Go.Proofs.YtbhpohopfbcfgaaDoor.chain t x).getD []).length) (h := bucketT t (t.f[i]'c.hi).k) ?_ ?_ t.b.length
    · rw [if_pos hb] at hs
      unfold chainsLen at hl ⊢
      omega
    · obtain ⟨L, hL, hm⟩ := h.inChain c.hi c.hu
      rw [hL, c.chain hL]
      have nd := walk_nodup (show walk t.f t.b.length (bucketT t (t.f[i]'c.hi).k) t.f.length _ = some L from hL)
      simp only [Option.getD_some]
      clear hL
      induction L with
      | nil => cases hm
      | cons a L ih =>
        obtain ⟨n1, n2⟩ := List.nodup_cons.1 nd
        by_cases e : a = i
        · subst e
          have : L.filter (fun y => decide (y ≠ a)) = L := List.filter_eq_self.2 fun y hy => decide_eq_true fun e => n1 (e ▸ hy)
          rw [List.filter_cons_of_neg (by simp), this, List.length_cons]
        · rw [List.filter_cons_of_pos (by simp [e]), List.length_cons, List.length_cons, ih ((List.mem_cons.1 hm).resolve_left (fun x => e x.symm)) n2]
    · intro x hx
      cases hL : Go.Proofs.YtbhpohopfbcfgaaDoor.chain t x with
      | none =>
        have hxl : ¬ x < t.b.length := fun h' => by have := h.ch x h'; rw [hL] at this; cases this
        exfalso
        unfold Go.Proofs.YtbhpohopfbcfgaaDoor.chain at hL
        rw [List.getD_eq_getElem?_getD, List.getElem?_eq_none (by omega)] at hL
        simp only [Option.getD_none] at hL
        rw [walk_end] at hL
        cases hL
      | some L =>
        rw [c.chain hL]
        simp only [Option.getD_some]
        rw [List.filter_eq_self.2]
        intro y hy
        refine decide_eq_true fun e => ?_
        subst e
        obtain ⟨_, _, h3⟩ := walk_mem (show walk t.f t.b.length x t.f.length _ = some L from hL) y hy
        apply hx
        omega
end Go.Proofs.YtbhpohopfbcfgaaDoor
