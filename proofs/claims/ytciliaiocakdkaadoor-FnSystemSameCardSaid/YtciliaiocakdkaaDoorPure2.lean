/- Plain functions on tables: the chains as the reference walks them; each used frame lies in its chain. No program here. -/
import Derived.Test.YtciliaiocakdkaaDoorPure
set_option linter.unusedSimpArgs false
set_option linter.unusedVariables false
namespace Go.Proofs.YtciliaiocakdkaaDoor

/-- the frames from at on as the reference walks them, and whether it came to an end -/
def walkL (fs : List F) : Nat → Int → List Int × Bool
  | 0, i => ([], decide (i = -1))
  | m + 1, i => if i = -1 then ([], true) else
    match (if 0 ≤ i then fs[i.toNat]? else none) with
    | some f => if f.u then (i :: (walkL fs m f.nx).1, (walkL fs m f.nx).2) else ([], false)
    | none => ([], false)

theorem walkL_end (fs : List F) (m : Nat) : walkL fs m (-1) = ([], true) := by cases m <;> simp [walkL]
theorem walkL_step {fs : List F} {m : Nat} {i : Nat} (hi : i < fs.length) (hu : fs[i].u = true) :
    walkL fs (m + 1) (i : Int) = ((i : Int) :: (walkL fs m fs[i].nx).1, (walkL fs m fs[i].nx).2) := by
  have h1 : ¬ ((i : Int) = -1) := by omega
  simp [walkL, h1, hi, hu]
theorem walkL_out {fs : List F} {m : Nat} {i : Int} (h1 : i ≠ -1) (h : ∀ j : Nat, i = j → ∀ h : j < fs.length, fs[j].u = true → False) : walkL fs m i = ([], false) := by
  cases m with
  | zero => simp [walkL, h1]
  | succ m =>
    simp only [walkL, h1, if_false]
    by_cases h0 : 0 ≤ i
    · rw [if_pos h0]
      cases hf : fs[i.toNat]? with
      | none => rfl
      | some f =>
        obtain ⟨hlt, rfl⟩ := List.getElem?_eq_some_iff.1 hf
        simp only []
        rw [if_neg]
        intro hc
        exact h i.toNat (by omega) hlt hc
    · rw [if_neg h0]
theorem walkL_walk {fs : List F} {nb b : Int} : ∀ {m : Nat} {i : Int} {M : List Nat}, walk fs nb b m i = some M → walkL fs m i = (M.map Int.ofNat, true)
  | 0, i, M, h => by
    simp only [walk] at h
    split at h
    · simp at h; subst h; simp [walkL, *]
    · cases h
  | m + 1, i, M, h => by
    simp only [walk] at h
    split at h
    · simp at h; subst h; simp [walkL, *]
    · rename_i hi
      split at h
      · rename_i f hf
        split at h
        · rename_i hc
          obtain ⟨X, hX, rfl⟩ := Option.map_eq_some_iff.1 h
          simp only [Bool.and_eq_true, decide_eq_true_eq] at hc
          have h0 : 0 ≤ i := by
            by_cases h0 : 0 ≤ i
            · exact h0
            · rw [if_neg h0] at hf; cases hf
          have ih := walkL_walk hX
          simp only [walkL, hi, if_false, hf, hc.1, if_true, ih, List.map_cons]
          congr 2
          simp; omega
        · cases h
      · cases h
theorem walkL_mem {fs : List F} : ∀ {m : Nat} {i : Int}, ∀ x ∈ (walkL fs m i).1, ∃ j : Nat, x = j ∧ ∃ h : j < fs.length, fs[j].u = true
  | 0, i, x, hx => by simp [walkL] at hx
  | m + 1, i, x, hx => by
    simp only [walkL] at hx
    split at hx
    · simp at hx
    · split at hx
      · rename_i f hf
        split at hx
        · rename_i hc
          rcases List.mem_cons.1 hx with rfl | hx
          · split at hf
            · obtain ⟨hlt, rfl⟩ := List.getElem?_eq_some_iff.1 hf
              exact ⟨x.toNat, by omega, hlt, hc⟩
            · cases hf
          · exact walkL_mem x hx
        · simp at hx
      · simp at hx
theorem walkL_len {fs : List F} : ∀ {m : Nat} {i : Int}, (walkL fs m i).1.length ≤ m
  | 0, i => by simp [walkL]
  | m + 1, i => by
    simp only [walkL]
    split
    · simp
    · split
      · rename_i f hf
        split
        · have := walkL_len (fs := fs) (m := m) (i := f.nx)
          simp; omega
        · simp
      · simp
theorem walkL_hash {fs : List F} {nb b : Int} : ∀ {m : Nat} {i : Int}, (walkL fs m i).2 = true → (∀ x ∈ (walkL fs m i).1, ∀ h : x.toNat < fs.length, hashI fs[x.toNat].k nb = b) → ∃ M, walk fs nb b m i = some M
  | 0, i, h, _ => by
    simp only [walkL, decide_eq_true_eq] at h
    subst h
    exact ⟨[], by simp [walk]⟩
  | m + 1, i, h, hh => by
    by_cases hi : i = -1
    · subst hi; exact ⟨[], walk_end _ _ _ _⟩
    · simp only [walkL, hi, if_false] at h hh
      split at h
      · rename_i f hf
        rw [hf] at hh
        simp only [] at hh
        split at h
        · rename_i hu
          rw [if_pos hu] at hh
          have h0 : 0 ≤ i := by
            by_cases h0 : 0 ≤ i
            · exact h0
            · rw [if_neg h0] at hf; cases hf
          rw [if_pos h0] at hf
          obtain ⟨hlt, rfl⟩ := List.getElem?_eq_some_iff.1 hf
          have e := hh i (by simp) hlt
          obtain ⟨M, hM⟩ := walkL_hash (nb := nb) (b := b) h (fun x hx => hh x (by simp [hx]))
          refine ⟨i.toNat :: M, ?_⟩
          have e2 : i = ((i.toNat : Nat) : Int) := by omega
          rw [e2]
          have := walk_step (m := m) hlt hu e
          rw [this, hM]
          simp
          omega
        · simp at h
      · simp at h

def chainL (t : T) (b : Nat) : List Int × Bool := walkL t.f t.f.length (t.b.getD b (-1))
theorem chainL_chain {t : T} {b : Nat} {M : List Nat} (h : chain t b = some M) : chainL t b = (M.map Int.ofNat, true) := walkL_walk h
theorem chainL_mem {t : T} {b : Nat} : ∀ x ∈ (chainL t b).1, ∃ j : Nat, x = j ∧ ∃ h : j < t.f.length, t.f[j].u = true := walkL_mem
theorem chainL_len {t : T} {b : Nat} : (chainL t b).1.length ≤ t.f.length := walkL_len
theorem chainL_no {t : T} {b : Nat} (h : (chainL t b).2 = false) : chain t b = none := by
  cases hc : chain t b with
  | none => rfl
  | some M => rw [chainL_chain hc] at h; cases h
theorem chainL_bad {t : T} {b : Nat} {j : Nat} (hm : (j : Int) ∈ (chainL t b).1) (hj : j < t.f.length) (hh : hashI t.f[j].k t.b.length ≠ b) : chain t b = none := by
  cases hc : chain t b with
  | none => rfl
  | some M =>
    exfalso
    rw [chainL_chain hc] at hm
    obtain ⟨y, hy, e⟩ := List.mem_map.1 hm
    have : y = j := by simp at e; omega
    subst this
    obtain ⟨_, _, h2⟩ := walk_mem hc y hy
    exact hh h2
theorem chainL_ok {t : T} {b : Nat} (h : (chainL t b).2 = true) (hh : ∀ x ∈ (chainL t b).1, ∀ h : x.toNat < t.f.length, hashI t.f[x.toNat].k t.b.length = b) : ∃ M, chain t b = some M ∧ chainL t b = (M.map Int.ofNat, true) := by
  obtain ⟨M, hM⟩ := walkL_hash h hh
  exact ⟨M, hM, chainL_chain hM⟩

def PathL (t : T) (b : Nat) (L : List Int) (i : Int) : Prop := chainL t b = (L ++ (walkL t.f (t.f.length - L.length) i).1, (walkL t.f (t.f.length - L.length) i).2)
theorem PathL.start {t : T} {b : Nat} (hb : b < t.b.length) : PathL t b [] t.b[b] := by
  unfold PathL chainL
  have : t.b.getD b (-1) = t.b[b] := by simp [hb]
  rw [this]
  simp
theorem PathL.step {t : T} {b : Nat} {L : List Int} {j : Nat} (h : PathL t b L j) (hl : L.length < t.f.length) (hj : j < t.f.length) (hu : t.f[j].u = true) : PathL t b (L ++ [(j : Int)]) t.f[j].nx := by
  unfold PathL at h ⊢
  rw [h, show t.f.length - L.length = (t.f.length - (L ++ [(j : Int)]).length) + 1 from by simp; omega, walkL_step hj hu]
  simp
theorem PathL.fin {t : T} {b : Nat} {L : List Int} (h : PathL t b L (-1)) : chainL t b = (L, true) := by
  unfold PathL at h
  rw [h, walkL_end]
  simp
theorem PathL.out {t : T} {b : Nat} {L : List Int} {i : Int} (h : PathL t b L i) (h1 : i ≠ -1) (ho : ∀ j : Nat, i = j → ∀ h : j < t.f.length, t.f[j].u = true → False) : chainL t b = (L, false) := by
  unfold PathL at h
  rw [h, walkL_out h1 ho]
  simp
theorem PathL.full {t : T} {b : Nat} {L : List Int} {i : Int} (h : PathL t b L i) (h1 : i ≠ -1) (hl : t.f.length ≤ L.length) : chainL t b = (L, false) := by
  unfold PathL at h
  rw [h, show t.f.length - L.length = 0 from by omega]
  simp [walkL, h1]

theorem nodup_sub {L : List Nat} : ∀ {U : List Nat}, L.Nodup → (∀ x ∈ L, x ∈ U) → L.length ≤ U.length := by
  induction L with
  | nil => intro U _ _; simp
  | cons a L ih =>
    intro U h hs
    obtain ⟨A, B, rfl⟩ := List.append_of_mem (hs a (by simp))
    have hn := List.nodup_cons.1 h
    have := ih (U := A ++ B) hn.2 (fun x hx => by
      have h1 := hs x (by simp [hx])
      have h2 : x ≠ a := fun e => hn.1 (e ▸ hx)
      simp [h2] at h1 ⊢
      exact h1)
    simp at this ⊢
    omega
theorem mets_nodup {t : T} : ∀ (b : Nat), (mets t b).Nodup := by
  intro b
  induction b with
  | zero => simp [mets]
  | succ b ih =>
    rw [mets_succ]
    refine List.nodup_append.2 ⟨ih, ?_, ?_⟩
    · cases hc : chain t b with
      | none => simp
      | some L => exact walk_nodup hc
    · intro x hx y hy e
      subst e
      obtain ⟨i, hi, hx1, _, hh⟩ := mets_mem hx
      cases hc : chain t b with
      | none => rw [hc] at hy; simp at hy
      | some L =>
        rw [hc] at hy
        obtain ⟨_, _, h2⟩ := walk_mem hc x hy
        rw [hh] at h2
        omega
def usedAt (l : List F) : List Nat := (List.range l.length).filter fun i => (l.getD i freeF).u
theorem usedAt_len (l : List F) : (usedAt l).length = (usedKeys l).length := by
  unfold usedAt usedKeys
  rw [List.length_map, ← List.countP_eq_length_filter, ← List.countP_eq_length_filter]
  have : l = (List.range l.length).map fun i => l.getD i freeF := by
    apply List.ext_getElem
    · simp
    · intro i h1 h2
      simp [h1]
  conv => rhs; rw [this, List.countP_map]
  rfl
/-- in a valid table each used frame lies in the chain of its key -/
theorem TOk.inChain {t : T} (h : TOk t) {i : Nat} (hi : i < t.f.length) (hu : t.f[i].u = true) : ∃ L, chain t (bucketT t t.f[i].k) = some L ∧ i ∈ L := by
  have hm : i ∈ mets t t.b.length := by
    rcases Classical.em (i ∈ mets t t.b.length) with hm | hm
    · exact hm
    · exfalso
      have h1 := nodup_sub (L := i :: mets t t.b.length) (U := usedAt t.f) (List.nodup_cons.2 ⟨hm, mets_nodup _⟩) (fun x hx => by
        unfold usedAt
        rcases List.mem_cons.1 hx with rfl | hx
        · simp [hi, hu]
        · obtain ⟨_, _, hl, hu, _⟩ := mets_mem hx
          simp [hl, hu])
      rw [usedAt_len, ← h.sum, ← mets_len] at h1
      simp at h1
      omega
  obtain ⟨b, hb, hx⟩ := List.mem_flatMap.1 hm
  cases hc : chain t b with
  | none => rw [hc] at hx; simp at hx
  | some L =>
    rw [hc] at hx
    obtain ⟨_, _, h2⟩ := walk_mem hc i hx
    refine ⟨L, ?_, hx⟩
    have : bucketT t t.f[i].k = b := by unfold bucketT; omega
    rw [this, hc]
theorem key_once {l : List F} (h : (usedKeys l).Nodup) {i j : Nat} (hi : i < j) (hj : j < l.length) (hui : l[i].u = true) (huj : l[j].u = true) : l[i].k ≠ l[j].k := by
  intro e
  refine usedKeys_dup l j hj huj ?_ h
  rw [← e]
  unfold usedKeys
  refine List.mem_map.2 ⟨l[i], List.mem_filter.2 ⟨?_, hui⟩, rfl⟩
  exact List.mem_take_iff_getElem.2 ⟨i, by omega, rfl⟩
theorem find_at {l : List F} {k : K} (h : (usedKeys l).Nodup) {j : Nat} (hj : j < l.length) (hu : l[j].u = true) (hk : l[j].k = k) : findF l k = j := by
  rcases findF_spec l k with ⟨_, h2⟩ | ⟨i, hi, e, h2, h3⟩
  · have := h2 _ (List.getElem_mem hj)
    simp [hasKey, hu, hk] at this
  · rw [e]
    simp only [hasKey, Bool.and_eq_true, decide_eq_true_eq] at h2
    rcases Nat.lt_trichotomy i j with c | c | c
    · exact absurd (h2.2.trans hk.symm) (key_once h c hj h2.1 hu)
    · rw [c]
    · exact absurd (hk.trans h2.2.symm) (key_once h c hi hu h2.1)
/-- in a valid table a key is found in its chain or nowhere -/
theorem TOk.none {t : T} (h : TOk t) {k : K} (hb : bucketT t k < t.b.length) {L : List Int} {ok : Bool} (hL : chainL t (bucketT t k) = (L, ok)) (hn : ∀ x ∈ L, ∀ h : x.toNat < t.f.length, t.f[x.toNat].k ≠ k) : findF t.f k = -1 := by
  rcases findF_spec t.f k with ⟨e, _⟩ | ⟨i, hi, e, h2, h3⟩
  · exact e
  · exfalso
    simp only [hasKey, Bool.and_eq_true, decide_eq_true_eq] at h2
    obtain ⟨M, hM, hm⟩ := h.inChain hi h2.1
    rw [h2.2] at hM
    rw [chainL_chain hM] at hL
    simp only [Prod.mk.injEq] at hL
    refine hn i ?_ (by simpa using hi) (by simpa using h2.2)
    rw [← hL.1]
    exact List.mem_map.2 ⟨i, hm, rfl⟩
/-- the table with other rights of a key, and whether there is one -/
noncomputable def protT (t : T) (k : K) (r : Int) : T × Bool :=
  if tableOk t && keyOk k && decide (0 ≤ findF t.f k) && rightsOk r then (⟨t.b, t.f.set (findF t.f k).toNat { t.f.getD (findF t.f k).toNat freeF with r := r }⟩, true) else (⟨[], []⟩, false)
end Go.Proofs.YtciliaiocakdkaaDoor
