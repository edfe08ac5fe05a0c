/- Plain functions on tables: what it means that a table is valid; the chains. No program here. -/
import Derived.Test.YtciliaiocakdkaaDoorBase
set_option linter.unusedSimpArgs false
set_option linter.unusedVariables false
namespace Go.Proofs.YtciliaiocakdkaaDoor

def within (n e : Int) : Bool := decide (0 ≤ n) && decide (n < e)
def keyOk (k : K) : Bool := within k.s 16 && within k.p 256
def rightsOk (r : Int) : Bool := within r 8
def bucketsOk (n : Int) : Bool := decide (1 ≤ n) && decide (n ≤ 16)
def hashI (k : K) (n : Int) : Int := (k.s * 256 + k.p) * 2654435761 % 4294967296 * n / 4294967296
def freeF : F := ⟨false, ⟨0, 0⟩, 0, -1⟩
def frameOk (f : F) : Bool := if f.u then keyOk f.k && rightsOk f.r else decide (f = freeF)
def usedKeys (l : List F) : List K := (l.filter (·.u)).map (·.k)

theorem within_iff {n e : Int} : within n e = true ↔ 0 ≤ n ∧ n < e := by simp [within]
theorem keyOk_iff {k : K} : keyOk k = true ↔ (0 ≤ k.s ∧ k.s < 16) ∧ 0 ≤ k.p ∧ k.p < 256 := by simp [keyOk, within]
theorem rightsOk_iff {r : Int} : rightsOk r = true ↔ 0 ≤ r ∧ r < 8 := by simp [rightsOk, within]
theorem bucketsOk_iff {n : Int} : bucketsOk n = true ↔ 1 ≤ n ∧ n ≤ 16 := by simp [bucketsOk]

theorem hashI_bd {k : K} {n : Int} (hk : keyOk k = true) (hn : 1 ≤ n) (hn' : n ≤ 16) : 0 ≤ hashI k n ∧ hashI k n < n := by
  rw [keyOk_iff] at hk
  unfold hashI
  have h1 : 0 ≤ (k.s * 256 + k.p) * 2654435761 % 4294967296 := Int.emod_nonneg _ (by omega)
  have h2 : (k.s * 256 + k.p) * 2654435761 % 4294967296 < 4294967296 := Int.emod_lt_of_pos _ (by omega)
  generalize (k.s * 256 + k.p) * 2654435761 % 4294967296 = m at *
  have h3 : 0 ≤ m * n := Int.mul_nonneg h1 (by omega)
  have h4 : m * n < 4294967296 * n := Int.mul_lt_mul_of_pos_right h2 (by omega)
  omega

theorem usedKeys_snoc (l : List F) (k : Nat) (hk : k < l.length) : usedKeys (l.take (k + 1)) = usedKeys (l.take k) ++ if l[k].u then [l[k].k] else [] := by
  unfold usedKeys
  rw [List.take_succ_eq_append_getElem hk, List.filter_append, List.map_append]
  congr 1
  cases h : l[k].u <;> simp [List.filter_cons, h]
theorem usedKeys_dup (l : List F) (k : Nat) (hk : k < l.length) (hu : l[k].u = true) (hm : l[k].k ∈ usedKeys (l.take k)) : ¬ (usedKeys l).Nodup := by
  intro hd
  have e : usedKeys l = usedKeys (l.take (k + 1)) ++ usedKeys (l.drop (k + 1)) := by
    unfold usedKeys
    rw [← List.map_append, ← List.filter_append, List.take_append_drop]
  rw [e, usedKeys_snoc l k hk, if_pos hu] at hd
  have h2 := (List.nodup_append.1 (List.nodup_append.1 hd).1).2.2
  exact h2 _ hm _ (by simp) rfl
theorem forall_take_snoc {p : F → Prop} {l : List F} {k : Nat} (hk : k < l.length) (h : ∀ f ∈ l.take k, p f) (h' : p l[k]) : ∀ f ∈ l.take (k + 1), p f := by
  rw [List.take_succ_eq_append_getElem hk]
  intro f hf
  rcases List.mem_append.1 hf with hf | hf
  · exact h f hf
  · simp at hf; subst hf; exact h'

/-- the frames from at on, along Next, each used and in bucket b; none if that does not come to -1 in so many steps -/
def walk (fs : List F) (nb b : Int) : Nat → Int → Option (List Nat)
  | 0, i => if i = -1 then some [] else none
  | m + 1, i => if i = -1 then some [] else
    match (if 0 ≤ i then fs[i.toNat]? else none) with
    | some f => if f.u && decide (hashI f.k nb = b) then (walk fs nb b m f.nx).map (i.toNat :: ·) else none
    | none => none

theorem walk_end (fs : List F) (nb b : Int) (m : Nat) : walk fs nb b m (-1) = some [] := by cases m <;> simp [walk]

theorem walk_step {fs : List F} {nb b : Int} {m : Nat} {i : Nat} (hi : i < fs.length) (hu : fs[i].u = true) (hh : hashI fs[i].k nb = b) :
    walk fs nb b (m + 1) (i : Int) = (walk fs nb b m fs[i].nx).map (i :: ·) := by
  have h1 : ¬ ((i : Int) = -1) := by omega
  simp [walk, h1, hi, hu, hh]

theorem walk_out {fs : List F} {nb b : Int} {m : Nat} {i : Int} (h1 : i ≠ -1) (h : ∀ j : Nat, i = j → ∀ h : j < fs.length, fs[j].u = true → hashI fs[j].k nb = b → False) : walk fs nb b m i = none := by
  cases m with
  | zero => simp [walk, h1]
  | succ m =>
    simp only [walk, h1, if_false]
    by_cases h0 : 0 ≤ i
    · rw [if_pos h0]
      cases hf : fs[i.toNat]? with
      | none => rfl
      | some f =>
        obtain ⟨hlt, rfl⟩ := List.getElem?_eq_some_iff.1 hf
        simp only []
        rw [if_neg]
        intro hc
        simp only [Bool.and_eq_true, decide_eq_true_eq] at hc
        exact h i.toNat (by omega) hlt hc.1 hc.2
    · rw [if_neg h0]

theorem walk_mem {fs : List F} {nb b : Int} : ∀ {m : Nat} {i : Int} {L : List Nat}, walk fs nb b m i = some L → ∀ x ∈ L, ∃ h : x < fs.length, fs[x].u = true ∧ hashI fs[x].k nb = b
  | m, i, L, h, x, hx => by
    cases m with
    | zero =>
      simp only [walk] at h
      split at h
      · simp at h; subst h; simp at hx
      · simp at h
    | succ m =>
      simp only [walk] at h
      split at h
      · simp at h; subst h; simp at hx
      · split at h
        · rename_i f hf
          split at h
          · rename_i hc
            obtain ⟨M, hM, rfl⟩ := Option.map_eq_some_iff.1 h
            split at hf
            · obtain ⟨hlt, rfl⟩ := List.getElem?_eq_some_iff.1 hf
              simp only [Bool.and_eq_true, decide_eq_true_eq] at hc
              rcases List.mem_cons.1 hx with rfl | hx
              · exact ⟨hlt, hc.1, hc.2⟩
              · exact walk_mem hM x hx
            · cases hf
          · cases h
        · cases h

/-- what a walk found hangs on its first place alone -/
theorem walk_some {fs : List F} {nb b : Int} : ∀ {m m' : Nat} {i : Int} {L L' : List Nat}, walk fs nb b m i = some L → walk fs nb b m' i = some L' → L = L'
  | m, m', i, L, L', h, h' => by
    by_cases hi : i = -1
    · subst hi
      rw [walk_end] at h h'
      exact (Option.some.inj h).symm.trans (Option.some.inj h')
    · cases m with
      | zero => simp [walk, hi] at h
      | succ m =>
        cases m' with
        | zero => simp [walk, hi] at h'
        | succ m' =>
          simp only [walk, hi, if_false] at h h'
          split at h
          · rename_i f hf
            rw [hf] at h'
            simp only [] at h'
            split at h
            · rename_i hc
              rw [if_pos hc] at h'
              obtain ⟨M, hM, rfl⟩ := Option.map_eq_some_iff.1 h
              obtain ⟨M', hM', rfl⟩ := Option.map_eq_some_iff.1 h'
              rw [walk_some hM hM']
            · cases h
          · cases h

theorem walk_more {fs : List F} {nb b : Int} : ∀ {m m' : Nat} {i : Int} {L : List Nat}, m ≤ m' → walk fs nb b m i = some L → walk fs nb b m' i = some L
  | m, m', i, L, hm, h => by
    by_cases hi : i = -1
    · subst hi
      rw [walk_end] at h ⊢
      exact h
    · cases m with
      | zero => simp [walk, hi] at h
      | succ m =>
        cases m' with
        | zero => omega
        | succ m' =>
          simp only [walk, hi, if_false] at h ⊢
          split at h
          · rename_i f hf
            split at h
            · rename_i hc
              rw [if_pos hc]
              obtain ⟨M, hM, rfl⟩ := Option.map_eq_some_iff.1 h
              rw [walk_more (by omega) hM]
              rfl
            · cases h
          · cases h

/-- a place that the walk meets: from there the walk is the rest -/
theorem walk_from {fs : List F} {nb b : Int} : ∀ {m : Nat} {i : Int} {A B : List Nat} {x : Nat}, walk fs nb b m i = some (A ++ x :: B) → ∃ m', walk fs nb b m' (x : Int) = some (x :: B)
  | m, i, [], B, x, h => by
    cases m with
    | zero => simp only [walk] at h; split at h <;> simp at h
    | succ m =>
      refine ⟨m + 1, ?_⟩
      have : i = (x : Int) := by
        simp only [walk] at h
        split at h
        · simp at h
        · split at h
          · rename_i f hf
            split at h
            · obtain ⟨M, hM, he⟩ := Option.map_eq_some_iff.1 h
              simp at he
              split at hf
              · omega
              · cases hf
            · cases h
          · cases h
      rw [← this]
      exact h
  | m, i, a :: A, B, x, h => by
    cases m with
    | zero => simp only [walk] at h; split at h <;> simp at h
    | succ m =>
      simp only [walk] at h
      split at h
      · simp at h
      · split at h
        · rename_i f hf
          split at h
          · obtain ⟨M, hM, he⟩ := Option.map_eq_some_iff.1 h
            simp at he
            obtain ⟨_, rfl⟩ := he
            exact walk_from hM
          · cases h
        · cases h

theorem walk_nodup {fs : List F} {nb b : Int} {m : Nat} {i : Int} {L : List Nat} (h : walk fs nb b m i = some L) : L.Nodup := by
  rcases Classical.em L.Nodup with hd | hd
  · exact hd
  · exfalso
    obtain ⟨x, A, B, C, rfl⟩ : ∃ x A B C, L = A ++ x :: (B ++ x :: C) := by
      clear h
      induction L with
      | nil => simp at hd
      | cons a L ih =>
        by_cases ha : a ∈ L
        · obtain ⟨B, C, rfl⟩ := List.append_of_mem ha
          exact ⟨a, [], B, C, rfl⟩
        · obtain ⟨x, A, B, C, rfl⟩ := ih (fun hn => hd (List.nodup_cons.2 ⟨ha, hn⟩))
          exact ⟨x, a :: A, B, C, rfl⟩
    obtain ⟨m1, h1⟩ := walk_from h
    rw [← List.cons_append] at h1
    obtain ⟨m2, h2⟩ := walk_from (A := x :: B) h1
    have e := congrArg List.length (walk_some h1 h2)
    simp at e
    omega

theorem nodup_le {L : List Nat} : ∀ {n : Nat}, L.Nodup → (∀ x ∈ L, x < n) → L.length ≤ n := by
  intro n
  induction n generalizing L with
  | zero =>
    intro _ hn
    cases L with
    | nil => simp
    | cons a L => exact absurd (hn a (by simp)) (by omega)
  | succ n ih =>
    intro h hn
    have h1 := ih (L := L.filter (· != n)) (h.filter _) (fun x hx => by
      have := List.mem_filter.1 hx
      have := hn x this.1
      simp at *
      omega)
    have h2 := List.length_eq_countP_add_countP (p := fun x => x == n) (l := L)
    have h3 : L.countP (fun x => x == n) ≤ 1 := List.nodup_iff_count.1 h n
    have h4 : (L.filter (· != n)).length = L.countP (fun x => decide (¬ (x == n) = true)) := by
      rw [List.countP_eq_length_filter]
      congr 1
      apply List.filter_congr
      intro x _
      by_cases e : x = n <;> simp [e]
    omega

def chain (t : T) (i : Nat) : Option (List Nat) := walk t.f t.b.length i t.f.length (t.b.getD i (-1))
def chainsLen (t : T) (n : Nat) : Nat := ((List.range n).map fun i => ((chain t i).getD []).length).sum

/-- the table is valid -/
structure TOk (t : T) : Prop where
  f1 : 1 ≤ t.f.length
  f2 : t.f.length ≤ 16
  b1 : 1 ≤ t.b.length
  b2 : t.b.length ≤ 16
  fr : ∀ f ∈ t.f, frameOk f = true
  ks : (usedKeys t.f).Nodup
  ch : ∀ i, i < t.b.length → (chain t i).isSome = true
  sum : chainsLen t t.b.length = (usedKeys t.f).length

def hasKey (k : K) (f : F) : Bool := f.u && decide (f.k = k)
/-- the place of the frame with a key, or -1 -/
def findF (l : List F) (k : K) : Int := match l.findIdx? (hasKey k) with | some i => (i : Int) | none => -1
theorem findF_some {l : List F} {k : K} {i : Nat} (hi : i < l.length) (h : hasKey k l[i] = true) (h' : ∀ j, (hj : j < i) → hasKey k (l[j]'(by omega)) = false) : findF l k = i := by
  have : l.findIdx? (hasKey k) = some i := by
    rw [List.findIdx?_eq_some_iff_getElem]
    exact ⟨hi, h, fun j hj => by simp [h' j hj]⟩
  simp [findF, this]
theorem findF_none {l : List F} {k : K} (h : ∀ j, (hj : j < l.length) → hasKey k l[j] = false) : findF l k = -1 := by
  have : l.findIdx? (hasKey k) = none := by
    rw [List.findIdx?_eq_none_iff]
    intro f hf
    obtain ⟨j, hj, rfl⟩ := List.getElem_of_mem hf
    exact h j hj
  simp [findF, this]
theorem findF_spec (l : List F) (k : K) : (findF l k = -1 ∧ ∀ f ∈ l, hasKey k f = false) ∨ ∃ i, ∃ h : i < l.length, findF l k = i ∧ hasKey k l[i] = true ∧ ∀ j, (hj : j < i) → hasKey k (l[j]'(by omega)) = false := by
  cases h : l.findIdx? (hasKey k) with
  | none =>
    left
    refine ⟨by simp [findF, h], fun f hf => ?_⟩
    rw [List.findIdx?_eq_none_iff] at h
    exact h f hf
  | some i =>
    right
    have e : findF l k = i := by simp [findF, h]
    rw [List.findIdx?_eq_some_iff_getElem] at h
    obtain ⟨h1, h2, h3⟩ := h
    exact ⟨i, h1, e, h2, fun j hj => by simpa using h3 j hj⟩

/-- the places met in the chains of the first b buckets -/
def mets (t : T) (b : Nat) : List Nat := (List.range b).flatMap fun i => (chain t i).getD []
theorem mets_succ (t : T) (b : Nat) : mets t (b + 1) = mets t b ++ (chain t b).getD [] := by simp [mets, List.range_succ]
theorem mets_len (t : T) (b : Nat) : (mets t b).length = chainsLen t b := by
  induction b with
  | zero => rfl
  | succ b ih => rw [mets_succ, List.length_append, ih]; simp [chainsLen, List.range_succ]
theorem mets_mem {t : T} {b x : Nat} (h : x ∈ mets t b) : ∃ i, i < b ∧ ∃ hx : x < t.f.length, t.f[x].u = true ∧ hashI t.f[x].k t.b.length = (i : Int) := by
  obtain ⟨i, hi, hx⟩ := List.mem_flatMap.1 h
  refine ⟨i, List.mem_range.1 hi, ?_⟩
  cases hc : chain t i with
  | none => rw [hc] at hx; simp at hx
  | some L => rw [hc] at hx; exact walk_mem hc x hx

/-- the chain of bucket b: the places L are met, then comes i -/
def Path (t : T) (b : Nat) (L : List Nat) (i : Int) : Prop := chain t b = (walk t.f t.b.length b (t.f.length - L.length) i).map (L ++ ·)
theorem Path.start {t : T} {b : Nat} (hb : b < t.b.length) : Path t b [] t.b[b] := by
  unfold Path chain
  have : t.b.getD b (-1) = t.b[b] := by simp [hb]
  rw [this]
  simp
theorem Path.step {t : T} {b : Nat} {L : List Nat} {j : Nat} (h : Path t b L j) (hl : L.length < t.f.length) (hj : j < t.f.length) (hu : t.f[j].u = true) (hh : hashI t.f[j].k t.b.length = b) : Path t b (L ++ [j]) t.f[j].nx := by
  unfold Path at h ⊢
  rw [h, show t.f.length - L.length = (t.f.length - (L ++ [j]).length) + 1 from by simp; omega, walk_step hj hu hh]
  cases walk t.f t.b.length b (t.f.length - (L ++ [j]).length) t.f[j].nx <;> simp
theorem Path.fin {t : T} {b : Nat} {L : List Nat} (h : Path t b L (-1)) : chain t b = some L := by
  unfold Path at h
  rw [h, walk_end]
  simp
theorem Path.out {t : T} {b : Nat} {L : List Nat} {i : Int} (h : Path t b L i) (h1 : i ≠ -1) (ho : ∀ j : Nat, i = j → ∀ h : j < t.f.length, t.f[j].u = true → hashI t.f[j].k t.b.length = b → False) : chain t b = none := by
  unfold Path at h
  rw [h, walk_out h1 ho]
  rfl
theorem Path.rep {t : T} {b : Nat} {L : List Nat} {j : Nat} (h : Path t b L j) (hm : j ∈ L) : chain t b = none := by
  cases hc : chain t b with
  | none => rfl
  | some X =>
    exfalso
    unfold Path at h
    rw [hc] at h
    obtain ⟨Y, hY, rfl⟩ := Option.map_eq_some_iff.1 h.symm
    have hn : (L ++ Y).Nodup := walk_nodup hc
    have : j ∈ Y := by
      cases hm' : t.f.length - L.length with
      | zero => rw [hm'] at hY; simp only [walk] at hY; split at hY <;> first | omega | cases hY
      | succ m =>
        rw [hm'] at hY
        simp only [walk] at hY
        split at hY
        · omega
        · split at hY
          · split at hY
            · obtain ⟨M, _, rfl⟩ := Option.map_eq_some_iff.1 hY
              simp
            · cases hY
          · cases hY
    exact (List.nodup_append.1 hn).2.2 j hm j this rfl

noncomputable def tableOk (t : T) : Bool := @decide (TOk t) (Classical.propDecidable _)
theorem tableOk_iff {t : T} : tableOk t = true ↔ TOk t := by unfold tableOk; exact @decide_eq_true_iff _ (Classical.propDecidable _)
theorem tableOk_of {t : T} (h : TOk t) : tableOk t = true := tableOk_iff.2 h
theorem tableOk_not {t : T} (h : ¬ TOk t) : tableOk t = false := by
  cases e : tableOk t with
  | false => rfl
  | true => exact absurd (tableOk_iff.1 e) h
theorem noChain {t : T} {b : Nat} (hb : b < t.b.length) (h : chain t b = none) : tableOk t = false :=
  tableOk_not fun ht => by have := ht.ch b hb; rw [h] at this; cases this
def bucketT (t : T) (k : K) : Nat := (hashI k t.b.length).toNat
/-- a key put in a frame, first of its chain -/
def mapT (t : T) (k : K) (fr : Nat) (r : Int) : T := ⟨t.b.set (bucketT t k) fr, t.f.set fr ⟨true, k, r, t.b.getD (bucketT t k) (-1)⟩⟩
theorem bucketT_lt {t : T} {k : K} (hk : keyOk k = true) (h1 : 1 ≤ t.b.length) (h2 : t.b.length ≤ 16) : bucketT t k < t.b.length ∧ hashI k t.b.length = bucketT t k := by
  have := hashI_bd (n := t.b.length) hk (by omega) (by omega)
  unfold bucketT
  omega
end Go.Proofs.YtciliaiocakdkaaDoor
