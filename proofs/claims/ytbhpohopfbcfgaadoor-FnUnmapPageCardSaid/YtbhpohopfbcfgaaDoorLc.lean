/- Plain laws of the tables' functions, second part: finding, protecting, mapping. -/
import Derived.Test.YtbhpohopfbcfgaaDoorLb
set_option linter.unusedSimpArgs false
set_option linter.unusedVariables false
namespace Go.Proofs.YtbhpohopfbcfgaaDoor
open Go.RowKit
variable {fl : Nat}
theorem sFind_L0 {t : T} {k : K} (ht : TOk t) (x4 : List Int × Bool) (hm : ∀ x ∈ x4.1, ∃ j : Nat, x = j ∧ ∃ h : j < t.f.length, t.f[j].u = true) (hl : x4.1.length ≤ 1048576) : ∀ (fuel i : Nat), i ≤ x4.1.length → x4.1.length - i < fuel → (∀ j, (h : j < x4.1.length) → j < i → ∀ h : (x4.1[j]).toNat < t.f.length, t.f[(x4.1[j]).toNat].k ≠ k) →
    (∃ s, s_l3Find_L0 fl t k x4 fuel i = some (.ret (findF t.f k, s))) ∨ (s_l3Find_L0 fl t k x4 fuel i = some (.out (x4.1.length : Int)) ∧ ∀ x ∈ x4.1, ∀ h : x.toNat < t.f.length, t.f[x.toNat].k ≠ k) := by
  intro fuel
  induction fuel with
  | zero => intro i _ h _; omega
  | succ fuel ih =>
    intro i hi hf hn
    rw [s_l3Find_L0.eq_2]
    by_cases h : i < x4.1.length
    · obtain ⟨j, e, hj, hu⟩ := hm x4.1[i] (List.getElem_mem h)
      rw [decide_eq_true (by omega : (i : Int) < (x4.1.length : Int)), cot, idx_nat h]
      simp only [obs, e]
      rw [idx_nat hj]
      simp only [obs]
      by_cases hk : t.f[j].k = k
      · left
        rw [show (t.f[j].k == k) = true from by simpa using hk, cot, ck_succ (by omega)]
        simp only [obs]
        rw [find_at ht.ks hj hu hk]
        exact ⟨_, rfl⟩
      · rw [show (t.f[j].k == k) = false from by simpa using hk, cof, ck_succ (by omega)]
        simp only [obs]
        refine ih (i + 1) (by omega) (by omega) fun j' hj' hlt hb => ?_
        by_cases e' : j' = i
        · subst e'
          have e2 : x4.1[j'].toNat = j := by rw [e]; simp
          simp only [e2]
          exact hk
        · exact hn j' hj' (by omega) hb
    · have e : i = x4.1.length := by omega
      subst e
      right
      simp only [Int.lt_irrefl, decide_false, cof]
      refine ⟨trivial, fun x hx hb => ?_⟩
      obtain ⟨j, hj, rfl⟩ := List.getElem_of_mem hx
      exact hn j hj hj hb
theorem sFind_eq {t : T} {k : K} (ht : TOk t) (hk : keyOk k = true) (hf : 1048576 < fl) : ∃ s, s_l3Find fl t k = some (findF t.f k, s) := by
  have h1 := ht.f1
  have h2 := ht.f2
  have h3 := ht.b1
  have h4 := ht.b2
  obtain ⟨hb, he⟩ := bucketT_lt hk h3 h4
  unfold s_l3Find
  rw [sHash_eq hk (by omega) (by omega)]
  simp only [obs, he]
  rw [chain_eq hb (by omega) hf]
  simp only [obs]
  have hlen := chainL_len (t := t) (b := bucketT t k)
  rcases sFind_L0 (fl := fl) (k := k) ht (chainL t (bucketT t k)) chainL_mem (by omega) fl 0 (by omega) (by omega) (fun j _ hj => by omega) with ⟨s, h⟩ | ⟨h, hn⟩
  · rw [show ((0 : Nat) : Int) = 0 from rfl] at h
    rw [h]; simp only [obs]
    exact ⟨s, rfl⟩
  · rw [show ((0 : Nat) : Int) = 0 from rfl] at h
    rw [h]; simp only [obs]
    rw [ht.none hb (L := (chainL t (bucketT t k)).1) (ok := (chainL t (bucketT t k)).2) rfl hn]
    exact ⟨_, rfl⟩
theorem findF_bd {l : List F} {k : K} : findF l k < (l.length : Int) ∧ -1 ≤ findF l k := by
  rcases findF_spec l k with ⟨e, _⟩ | ⟨i, hi, e, _, _⟩ <;> rw [e] <;> omega
theorem sFindPage_eq {t : T} {k : K} (hf : 1048576 < fl) : ∃ a s, s_FindPage fl t k = some (a, s, tableOk t && keyOk k && decide (0 ≤ findF t.f k)) ∧ ((tableOk t && keyOk k && decide (0 ≤ findF t.f k)) = true → a = findF t.f k) := by
  unfold s_FindPage s_TableValid
  simp only [obs, sKey_eq]
  cases h1 : tableOk t with
  | false => simp [obs]
  | true =>
    cases h2 : keyOk k with
    | false => simp [obs]
    | true =>
      simp only [Bool.not_true, cof, obs]
      obtain ⟨s, h⟩ := sFind_eq (fl := fl) (tableOk_iff.1 h1) h2 hf
      rw [h]
      simp only [obs]
      by_cases h3 : findF t.f k < 0
      · rw [decide_eq_true h3, cot]
        exact ⟨0, s, by simp [h3], by simp; omega⟩
      · rw [decide_eq_false h3, cof]
        exact ⟨findF t.f k, s, by simp; omega, fun _ => rfl⟩
theorem sProt_eq {t : T} {k : K} {r : Int} (hf : 1048576 < fl) : s_ProtectPage fl t k r = some (protT t k r) := by
  unfold s_ProtectPage protT
  obtain ⟨a, s, h, ha⟩ := sFindPage_eq (fl := fl) (t := t) (k := k) hf
  rw [h]
  simp only [obs, sRights_eq]
  cases hc : (tableOk t && keyOk k && decide (0 ≤ findF t.f k)) with
  | false => simp [obs]
  | true =>
    rw [ha hc]
    cases hr : rightsOk r with
    | false => simp [obs]
    | true =>
      simp only [Bool.not_true, cof, obs]
      simp only [Bool.and_eq_true, decide_eq_true_eq] at hc
      have ht := tableOk_iff.1 hc.1.1
      have h2 := ht.f2
      have h4 := ht.b2
      rw [copy_eq (by omega)]
      simp only [obs]
      obtain ⟨i, hi⟩ : ∃ i : Nat, findF t.f k = i := ⟨(findF t.f k).toNat, by omega⟩
      have hb := (findF_bd (l := t.f) (k := k)).1
      rw [hi] at hb ⊢
      have hb' : i < t.f.length := by omega
      rw [idx_nat hb']
      simp [obs, hb']
theorem iProt_eq {t : T} {k : K} {r : Int} (hl : t.f.length ≤ 1048576) (hf : 1048576 < fl) : i_ProtectPage fl t k r = some (protT t k r) := by
  unfold i_ProtectPage protT i_TableValid
  simp only [obs, iKey_eq, find_eq hl hf, iRights_eq]
  cases h1 : tableOk t with
  | false => simp [obs]
  | true =>
    cases h2 : keyOk k with
    | false => simp [obs]
    | true =>
      simp only [Bool.not_true, cof, obs]
      by_cases h3 : findF t.f k < 0
      · simp [obs, decide_eq_true h3, show ¬ (0 ≤ findF t.f k) from by omega]
      · rw [decide_eq_false h3]
        simp only [cof, obs]
        cases hr : rightsOk r with
        | false => simp [obs]
        | true =>
          simp only [Bool.not_true, cof, obs]
          have ht := tableOk_iff.1 h1
          have g2 := ht.f2
          have g4 := ht.b2
          rw [clone_eq (by omega)]
          simp only [obs]
          obtain ⟨i, hi⟩ : ∃ i : Nat, findF t.f k = i := ⟨(findF t.f k).toNat, by omega⟩
          have hb := (findF_bd (l := t.f) (k := k)).1
          rw [hi] at hb ⊢
          have hb' : i < t.f.length := by omega
          rw [idx_nat hb']
          simp [obs, hb']
theorem protT_len {t : T} {k : K} {r : Int} (h : t.b.length + t.f.length ≤ 1048576) : (protT t k r).1.b.length + (protT t k r).1.f.length ≤ 1048576 := by
  unfold protT; split <;> simp [h]
end Go.Proofs.YtbhpohopfbcfgaaDoor
