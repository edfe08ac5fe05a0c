/- Plain laws: the program's FindPage in full; rights that change keep a table valid; the pure law of FnProtectPage. -/
import Derived.Test.YtbhpohopfbcfgaaDoorLt
set_option linter.unusedSimpArgs false
set_option linter.unusedVariables false
namespace Go.Proofs.YtbhpohopfbcfgaaDoor
open Go.RowKit
variable {fl : Nat}
theorem iFind_L0 {t : T} {k : K} (ht : TOk t) (x : List Int) (hm : ∀ z ∈ x, ∃ j : Nat, z = j ∧ ∃ h : j < t.f.length, t.f[j].u = true) (hl : x.length ≤ 1048576) : ∀ (fuel i : Nat), i ≤ x.length → x.length - i < fuel → (∀ j, (h : j < x.length) → j < i → ∀ h : (x[j]).toNat < t.f.length, t.f[(x[j]).toNat].k ≠ k) →
    (∃ s, i_FindPage_L0 fl t k x fuel i = some (.ret (findF t.f k, s, true)) ∧ 0 ≤ findF t.f k) ∨ (i_FindPage_L0 fl t k x fuel i = some (.out (x.length : Int)) ∧ ∀ z ∈ x, ∀ h : z.toNat < t.f.length, t.f[z.toNat].k ≠ k) := by
  intro fuel
  induction fuel with
  | zero => intro i _ h; omega
  | succ fuel ih =>
    intro i hi hf hn
    rw [i_FindPage_L0.eq_2]
    by_cases h : i < x.length
    · obtain ⟨j, e, hj, hu⟩ := hm x[i] (List.getElem_mem h)
      rw [decide_eq_true (by omega : (i : Int) < (x.length : Int)), cot, idx_nat h]
      simp only [obs, e]
      rw [idx_nat hj]
      simp only [obs]
      by_cases hk : t.f[j].k = k
      · left
        rw [show (t.f[j].k == k) = true from by simpa using hk, cot, ck_succ (by omega)]
        simp only [obs]
        rw [find_at ht.ks hj hu hk]
        exact ⟨_, rfl, by omega⟩
      · rw [show (t.f[j].k == k) = false from by simpa using hk, cof, ck_succ (by omega)]
        simp only [obs]
        refine ih (i + 1) (by omega) (by omega) fun j' hj' hlt hb => ?_
        by_cases e' : j' = i
        · subst e'
          have e2 : x[j'].toNat = j := by rw [e]; simp
          simp only [e2]
          exact hk
        · exact hn j' hj' (by omega) hb
    · have e : i = x.length := by omega
      subst e
      right
      simp only [Int.lt_irrefl, decide_false, cof]
      refine ⟨trivial, fun z hz hb => ?_⟩
      obtain ⟨j, hj, rfl⟩ := List.getElem_of_mem hz
      exact hn j hj hj hb
theorem iFindPage_eq {t : T} {k : K} (ht : TOk t) (hk : keyOk k = true) (hf : 1048576 < fl) : ∃ s, (0 ≤ findF t.f k → i_FindPage fl t k = some (findF t.f k, s, true)) ∧ (findF t.f k < 0 → i_FindPage fl t k = some (0, s, false)) := by
  obtain ⟨hb, he⟩ := bucketT_lt hk ht.b1 ht.b2
  obtain ⟨M, hM⟩ := Option.isSome_iff_exists.1 (ht.ch _ hb)
  have hcl := chainL_chain hM
  have hL : M.length ≤ t.f.length := nodup_le (walk_nodup hM) (fun x hx => (walk_mem hM x hx).1)
  have g1 := ht.f2
  have g2 := ht.b1
  have g3 := ht.b2
  unfold i_FindPage i_TableValid
  simp only [obs, tableOk_of ht, iKey_eq, hk, Bool.not_true, cof]
  rw [iHash_eq hk (by omega) (by omega)]
  simp only [obs, he]
  rw [iChain_eq hb hM (by omega) hf]
  simp only [obs]
  have hmem : ∀ z ∈ M.map Int.ofNat, ∃ j : Nat, z = j ∧ ∃ h : j < t.f.length, t.f[j].u = true := fun z hz => chainL_mem (t := t) (b := bucketT t k) z (by rw [hcl]; exact hz)
  rcases iFind_L0 (fl := fl) (k := k) ht (M.map Int.ofNat) hmem (by simp; omega) fl 0 (by omega) (by simp; omega) (fun j _ hj => by omega) with ⟨s, h, h0⟩ | ⟨h, hn⟩
  · rw [show ((0 : Nat) : Int) = 0 from rfl] at h
    rw [h]; simp only [obs]
    exact ⟨s, fun _ => rfl, fun h => by omega⟩
  · rw [show ((0 : Nat) : Int) = 0 from rfl] at h
    rw [h]; simp only [obs]
    have := ht.none hb (L := M.map Int.ofNat) (ok := true) hcl hn
    exact ⟨_, fun h => by omega, fun _ => rfl⟩
def setR (g : F) (r : Int) : F := ⟨g.u, g.k, r, g.nx⟩
theorem walk_setR {fs : List F} {nb b : Int} {j : Nat} (hj : j < fs.length) {r : Int} : ∀ (m : Nat) (i : Int), walk (fs.set j (setR fs[j] r)) nb b m i = walk fs nb b m i
  | 0, i => rfl
  | m + 1, i => by
    simp only [walk]
    by_cases h1 : i = -1
    · rw [if_pos h1, if_pos h1]
    rw [if_neg h1, if_neg h1]
    by_cases h0 : 0 ≤ i
    · rw [if_pos h0, if_pos h0, List.getElem?_set]
      by_cases e : j = i.toNat
      · rw [if_pos e, ← e, if_pos hj, List.getElem?_eq_getElem hj]
        simp only [show (setR fs[j] r).u = fs[j].u from rfl, show (setR fs[j] r).k = fs[j].k from rfl, show (setR fs[j] r).nx = fs[j].nx from rfl, walk_setR hj m]
      · rw [if_neg e]
        cases fs[i.toNat]? with
        | none => rfl
        | some g => simp only [walk_setR hj m]
    · rw [if_neg h0, if_neg h0]
theorem usedKeys_setR {l : List F} {i : Nat} (hi : i < l.length) {r : Int} : usedKeys (l.set i (setR l[i] r)) = usedKeys l := by
  have e : l = l.take i ++ l[i] :: l.drop (i + 1) := by rw [List.getElem_cons_drop, List.take_append_drop]
  have e2 : l.set i (setR l[i] r) = l.take i ++ setR l[i] r :: l.drop (i + 1) := List.set_eq_take_append_cons_drop .. |>.trans (by rw [if_pos hi])
  rw [e2]
  conv => rhs; rw [e]
  simp only [usedKeys, List.filter_append, List.filter_cons, setR, List.map_append]
  cases l[i].u <;> simp
theorem TOk.setR {t : T} (h : TOk t) {i : Nat} (hi : i < t.f.length) (hu : t.f[i].u = true) {r : Int} (hr : rightsOk r = true) : TOk ⟨t.b, t.f.set i (setR t.f[i] r)⟩ := by
  have hc : ∀ b, chain ⟨t.b, t.f.set i (Go.Proofs.YtbhpohopfbcfgaaDoor.setR t.f[i] r)⟩ b = chain t b := fun b => by
    unfold chain
    simp only [List.length_set]
    exact walk_setR hi _ _
  refine ⟨by simpa using h.f1, by simpa using h.f2, h.b1, h.b2, fun g hg => ?_, by simp only [usedKeys_setR hi]; exact h.ks, fun b hb => by rw [hc]; exact h.ch b hb, ?_⟩
  · rcases List.mem_or_eq_of_mem_set hg with e | e
    · exact h.fr g e
    · subst e
      have := h.fr _ (List.getElem_mem hi)
      unfold frameOk at this ⊢
      simp only [Go.Proofs.YtbhpohopfbcfgaaDoor.setR, hu, if_true, Bool.and_eq_true] at this ⊢
      exact ⟨this.1, hr⟩
  · unfold chainsLen
    simp only [hc, usedKeys_setR hi]
    exact h.sum
end Go.Proofs.YtbhpohopfbcfgaaDoor
