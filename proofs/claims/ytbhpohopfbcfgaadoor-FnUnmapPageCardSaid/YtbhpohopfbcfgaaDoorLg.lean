/- Plain laws of the tables' functions: unmapping a page. -/
import Derived.Test.YtbhpohopfbcfgaaDoorLd
set_option linter.unusedSimpArgs false
set_option linter.unusedVariables false
namespace Go.Proofs.YtbhpohopfbcfgaaDoor
open Go.RowKit
variable {fl : Nat}
def unlF (i nx : Int) (g : F) : F := if g.u && g.nx == i then ⟨g.u, g.k, g.r, nx⟩ else g
def unl (f : List F) (i nx : Int) : List F := f.map (unlF i nx)
theorem unl_len (f : List F) (i nx : Int) : (unl f i nx).length = f.length := by simp [unl]
def unmapT (t : T) (i : Nat) : T :=
  if t.b.getD (bucketT t (t.f.getD i freeF).k) (-1) == (i : Int) then ⟨t.b.set (bucketT t (t.f.getD i freeF).k) (t.f.getD i freeF).nx, t.f.set i freeF⟩
  else ⟨t.b, (unl t.f i (t.f.getD i freeF).nx).set i freeF⟩
noncomputable def unmapR (t : T) (k : K) : T × Bool :=
  if tableOk t && keyOk k && decide (0 ≤ findF t.f k) then (unmapT t (findF t.f k).toNat, true) else (⟨[], []⟩, false)
theorem iUn_L0 {x10 : T} {i : Int} {x21 : F} (hl : x10.f.length ≤ 1048576) : ∀ (fuel j : Nat) (v : List F), v.length = x10.f.length → j ≤ x10.f.length → x10.f.length - j < fuel → (∀ m, m < j → v[m]? = (unl x10.f i x21.nx)[m]?) → (∀ m, j ≤ m → v[m]? = x10.f[m]?) →
    i_UnmapPage_L0 fl x10 i x21 fuel v j = some (.out (unl x10.f i x21.nx, (x10.f.length : Int))) := by
  intro fuel
  induction fuel with
  | zero => intro j v _ _ h _ _; omega
  | succ fuel ih =>
    intro j v hv hj hf h1 h2
    rw [i_UnmapPage_L0.eq_2]
    by_cases h : j < x10.f.length
    · have hv' : j < v.length := by omega
      have e : v[j] = x10.f[j] := by
        have := h2 j (Nat.le_refl _)
        rw [List.getElem?_eq_getElem hv', List.getElem?_eq_getElem h] at this
        exact Option.some.inj this
      have hu : (unl x10.f i x21.nx)[j]? = some (unlF i x21.nx x10.f[j]) := by simp [unl, h]
      rw [decide_eq_true (by omega : (j : Int) < (x10.f.length : Int)), cot, idx_nat hv', ck_succ (by omega)]
      simp only [obs, e]
      have hcc : (cond x10.f[j].u (some (x10.f[j].nx == i)) (some false) : Option Bool) = some (x10.f[j].u && x10.f[j].nx == i) := by cases x10.f[j].u <;> rfl
      rw [hcc]
      simp only [obs]
      cases hc : (x10.f[j].u && x10.f[j].nx == i) with
      | true =>
        rw [cot]
        refine ih (j + 1) _ (by simp [hv]) (by omega) (by omega) (fun m hm => ?_) (fun m hm => ?_)
        · rw [Int.toNat_natCast, List.getElem?_set]
          by_cases em : j = m
          · subst em
            simp only [if_true, hv', hu]
            unfold unlF
            rw [hc]
            simp
          · rw [if_neg em]; exact h1 m (by omega)
        · rw [Int.toNat_natCast, List.getElem?_set, if_neg (by omega)]
          exact h2 m (by omega)
      | false =>
        rw [cof]
        refine ih (j + 1) _ hv (by omega) (by omega) (fun m hm => ?_) (fun m hm => h2 m (by omega))
        by_cases em : m = j
        · subst em
          rw [hu, h2 m (Nat.le_refl _), List.getElem?_eq_getElem h]
          unfold unlF
          rw [hc]
          simp
        · exact h1 m (by omega)
    · have e : j = x10.f.length := by omega
      subst e
      simp only [Int.lt_irrefl, decide_false, cof]
      have : v = unl x10.f i x21.nx := by
        apply List.ext_getElem?
        intro m
        by_cases hm : m < x10.f.length
        · exact h1 m hm
        · rw [List.getElem?_eq_none (by omega), List.getElem?_eq_none (by rw [unl_len]; omega)]
      rw [this]
theorem sUn_L0 {t : T} {i : Nat} {x13 : F} (hl : t.f.length ≤ 1048576) (hi : i < t.f.length) (hs : (t.f[i].u && t.f[i].nx == (i : Int)) = false) : ∀ (fuel j : Nat) (v : List F), v.length = t.f.length → j ≤ t.f.length → t.f.length - j < fuel → v[i]? = some freeF → (∀ m, m ≠ i → m < j → v[m]? = (unl t.f i x13.nx)[m]?) → (∀ m, m ≠ i → j ≤ m → v[m]? = t.f[m]?) →
    s_l3Unmap_L0 fl t i x13 fuel v j = some (.out ((unl t.f i x13.nx).set i freeF, (t.f.length : Int))) := by
  intro fuel
  induction fuel with
  | zero => intro j v _ _ h _ _ _; omega
  | succ fuel ih =>
    intro j v hv hj hf h0 h1 h2
    rw [s_l3Unmap_L0.eq_2]
    by_cases h : j < t.f.length
    · have hv' : j < v.length := by omega
      have hu : (unl t.f i x13.nx)[j]? = some (unlF i x13.nx t.f[j]) := by simp [unl, h]
      rw [decide_eq_true (by omega : (j : Int) < (t.f.length : Int)), cot, idx_nat h, idx_nat hv', ck_succ (by omega)]
      simp only [obs]
      have hcc : (cond t.f[j].u (some (t.f[j].nx == (i : Int))) (some false) : Option Bool) = some (t.f[j].u && t.f[j].nx == (i : Int)) := by cases t.f[j].u <;> rfl
      rw [hcc]
      simp only [obs]
      by_cases ei : j = i
      · subst ei
        rw [hs, cof]
        exact ih (j + 1) _ hv (by omega) (by omega) h0 (fun m hm hlt => h1 m hm (by omega)) (fun m hm hle => h2 m hm (by omega))
      have e : v[j] = t.f[j] := by
        have := h2 j ei (Nat.le_refl _)
        rw [List.getElem?_eq_getElem hv', List.getElem?_eq_getElem h] at this
        exact Option.some.inj this
      cases hc : (t.f[j].u && t.f[j].nx == (i : Int)) with
      | true =>
        rw [cot, e]
        refine ih (j + 1) _ (by simp [hv]) (by omega) (by omega) ?_ (fun m hm hlt => ?_) (fun m hm hle => ?_)
        · rw [Int.toNat_natCast, List.getElem?_set, if_neg ei]; exact h0
        · rw [Int.toNat_natCast, List.getElem?_set]
          by_cases em : j = m
          · subst em
            simp only [if_true, hv', hu]
            unfold unlF
            rw [hc]
            simp
          · rw [if_neg em]; exact h1 m hm (by omega)
        · rw [Int.toNat_natCast, List.getElem?_set, if_neg (by omega)]
          exact h2 m hm (by omega)
      | false =>
        rw [cof]
        refine ih (j + 1) _ hv (by omega) (by omega) h0 (fun m hm hlt => ?_) (fun m hm hle => h2 m hm (by omega))
        by_cases em : m = j
        · subst em
          rw [hu, h2 m hm (Nat.le_refl _), List.getElem?_eq_getElem h]
          unfold unlF
          rw [hc]
          simp
        · exact h1 m hm (by omega)
    · have e : j = t.f.length := by omega
      subst e
      simp only [Int.lt_irrefl, decide_false, cof]
      have : v = (unl t.f i x13.nx).set i freeF := by
        apply List.ext_getElem?
        intro m
        rw [List.getElem?_set]
        by_cases em : i = m
        · subst em
          rw [h0, if_pos rfl, if_pos (by rw [unl_len]; exact hi)]
        · rw [if_neg em]
          by_cases hm : m < t.f.length
          · exact h1 m (fun x => em x.symm) hm
          · rw [List.getElem?_eq_none (by omega), List.getElem?_eq_none (by rw [unl_len]; omega)]
      rw [this]
/-- no frame of a valid table follows itself -/
theorem TOk.noself {t : T} (h : TOk t) {i : Nat} (hi : i < t.f.length) (hu : t.f[i].u = true) : t.f[i].nx ≠ (i : Int) := by
  intro e
  obtain ⟨L, hL, hm⟩ := h.inChain hi hu
  obtain ⟨A, B, rfl⟩ := List.append_of_mem hm
  obtain ⟨m, hw⟩ := walk_from hL
  obtain ⟨_, hu', hh⟩ := walk_mem hw i (by simp)
  cases m with
  | zero => simp [walk] at hw
  | succ m =>
    have hw2 := hw
    rw [walk_step hi hu' hh, e] at hw2
    cases hq : walk t.f t.b.length (bucketT t t.f[i].k) m (i : Int) with
    | none => rw [hq] at hw2; cases hw2
    | some Q =>
      rw [hq] at hw2
      simp only [Option.map_some, Option.some.injEq, List.cons.injEq, true_and] at hw2
      have := walk_some hq hw
      rw [hw2] at this
      have := congrArg List.length this
      simp at this
theorem found_key {l : List F} {k : K} {i : Nat} (h : findF l k = (i : Int)) : ∃ hi : i < l.length, l[i].u = true ∧ l[i].k = k := by
  rcases findF_spec l k with ⟨e, _⟩ | ⟨j, hj, e, h2, _⟩
  · omega
  · have : i = j := by omega
    subst this
    simp only [hasKey, Bool.and_eq_true, decide_eq_true_eq] at h2
    exact ⟨hj, h2.1, h2.2⟩
theorem iUnmap_eq {t : T} {k : K} (hl : t.f.length ≤ 1048576) (hf : 1048576 < fl) : i_UnmapPage fl t k = some (unmapR t k) := by
  unfold i_UnmapPage i_TableValid unmapR
  simp only [obs, iKey_eq, find_eq hl hf]
  cases h1 : tableOk t with
  | false => simp [obs]
  | true =>
    cases h2 : keyOk k with
    | false => simp [obs]
    | true =>
      simp only [Bool.not_true, cof, obs]
      by_cases h3 : findF t.f k < 0
      · simp [obs, decide_eq_true h3, show ¬ (0 ≤ findF t.f k) from by omega]
      · rw [decide_eq_false h3]
        simp only [cof, obs]
        have ht := tableOk_iff.1 h1
        have g2 := ht.f2
        have g3 := ht.b1
        have g4 := ht.b2
        rw [clone_eq (by omega)]
        simp only [obs]
        obtain ⟨i, hi⟩ : ∃ i : Nat, findF t.f k = i := ⟨(findF t.f k).toNat, by omega⟩
        obtain ⟨hb', hu, hk⟩ := found_key hi
        rw [hi]
        rw [idx_nat hb']
        simp only [obs]
        obtain ⟨hb, he⟩ := bucketT_lt h2 g3 g4
        rw [iHash_eq h2 (by omega) (by omega)]
        simp only [obs, he]
        rw [idx_nat hb]
        simp only [obs]
        have gD : t.f.getD i freeF = t.f[i] := by simp [hb']
        have bD : t.b.getD (bucketT t k) (-1) = t.b[bucketT t k] := by simp [hb]
        rw [if_pos (by simp)]
        unfold unmapT
        simp only [Int.toNat_natCast]
        rw [gD, hk, bD]
        cases hc : (t.b[bucketT t k] == (i : Int)) with
        | true =>
          simp only [cot, obs, Int.toNat_natCast, if_true]
          rfl
        | false =>
          rw [cof]
          have := iUn_L0 (fl := fl) (x10 := t) (i := i) (x21 := t.f[i]) hl fl 0 t.f rfl (by omega) (by omega) (fun m hm => by omega) (fun m _ => rfl)
          rw [show ((0 : Nat) : Int) = 0 from rfl] at this
          rw [this]
          simp only [obs]
          rw [idx_nat (by rw [unl_len]; exact hb')]
          simp only [obs, Int.toNat_natCast]
          rfl
theorem sUnmap_eq {t : T} {k : K} (hf : 1048576 < fl) : s_UnmapPage fl t k = some (unmapR t k) := by
  unfold s_UnmapPage unmapR
  obtain ⟨a, s, h, ha⟩ := sFindPage_eq (fl := fl) (t := t) (k := k) hf
  rw [h]
  simp only [obs]
  cases hc : (tableOk t && keyOk k && decide (0 ≤ findF t.f k)) with
  | false => simp [obs]
  | true =>
    rw [ha hc]
    simp only [Bool.not_true, cof, if_true]
    simp only [Bool.and_eq_true, decide_eq_true_eq] at hc
    have ht := tableOk_iff.1 hc.1.1
    have h2 := hc.1.2
    have g2 := ht.f2
    have g3 := ht.b1
    have g4 := ht.b2
    obtain ⟨i, hi⟩ : ∃ i : Nat, findF t.f k = i := ⟨(findF t.f k).toNat, by omega⟩
    obtain ⟨hb', hu, hk⟩ := found_key hi
    obtain ⟨hb, he⟩ := bucketT_lt h2 g3 g4
    rw [hi]
    unfold s_l3Unmap
    rw [copy_eq (by omega)]
    simp only [obs]
    rw [idx_nat hb']
    simp only [obs, hk]
    rw [sHash_eq h2 (by omega) (by omega)]
    simp only [obs, he]
    rw [idx_nat hb]
    simp only [obs, Int.toNat_natCast]
    have gD : t.f.getD i freeF = t.f[i] := by simp [hb']
    have bD : t.b.getD (bucketT t k) (-1) = t.b[bucketT t k] := by simp [hb]
    unfold unmapT
    rw [gD, hk, bD]
    cases hcc : (t.b[bucketT t k] == (i : Int)) with
    | true =>
      simp only [cot, obs, if_true]
      rfl
    | false =>
      rw [cof]
      have hns : (t.f[i].u && t.f[i].nx == (i : Int)) = false := by
        have := ht.noself hb' hu
        simp [this]
      have := sUn_L0 (fl := fl) (t := t) (i := i) (x13 := t.f[i]) (by omega) hb' hns fl 0 (t.f.set i freeF) (by simp) (by omega) (by omega) (by simp [hb']) (fun m hm hlt => by omega) (fun m hm _ => by rw [List.getElem?_set, if_neg (fun x => hm x.symm)])
      rw [show ((0 : Nat) : Int) = 0 from rfl] at this
      simp only [freeF] at this ⊢
      rw [this]
      simp only [obs]
      rfl
theorem unmapR_len {t : T} {k : K} (h : t.b.length + t.f.length ≤ 1048576) : (unmapR t k).1.b.length + (unmapR t k).1.f.length ≤ 1048576 := by
  unfold unmapR unmapT; split
  · simp only []; split <;> simp [h, unl_len]
  · simp
end Go.Proofs.YtbhpohopfbcfgaaDoor
