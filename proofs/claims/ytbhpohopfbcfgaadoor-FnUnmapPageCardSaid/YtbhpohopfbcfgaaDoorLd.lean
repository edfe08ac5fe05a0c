/- Plain laws of the tables' functions: mapping a page. -/
import Derived.Test.YtbhpohopfbcfgaaDoorLc
set_option linter.unusedSimpArgs false
set_option linter.unusedVariables false
namespace Go.Proofs.YtbhpohopfbcfgaaDoor
open Go.RowKit
variable {fl : Nat}
theorem iHash_eq {k : K} {n : Int} (hk : keyOk k = true) (h1 : 1 ≤ n) (h2 : n ≤ 16) : i_hash fl k n = some (hashI k n) := by
  obtain ⟨b1, b2, b3, b4⟩ := hash_bd hk
  unfold i_hash hashI
  generalize hz : k.s * 256 + k.p = z at *
  rw [ck_in (by omega)]; simp only [obs]
  rw [hz, ck_in (by omega)]; simp only [obs]
  rw [ckU_in (by omega)]; simp only [obs]
  rw [ckU_in (by omega)]; simp only [obs]
  have e1 : remO (z * 2654435761) 4294967296 = some (z * 2654435761 % 4294967296) := by
    unfold remO; rw [if_neg (by decide), Int.tmod_eq_emod_of_nonneg (by omega)]
  rw [e1]; simp only [obs]
  generalize hy : z * 2654435761 % 4294967296 = y
  have y1 : 0 ≤ y ∧ y < 4294967296 := by omega
  have y2 : 0 ≤ y * n := Int.mul_nonneg y1.1 (by omega)
  have y3 : y * n ≤ 4294967296 * 16 := Int.mul_le_mul (by omega) h2 (by omega) (by omega)
  rw [ckU_in (by omega)]; simp only [obs]
  rw [ckU_in (by omega)]; simp only [obs]
  rw [ck_in (by omega)]; simp only [obs]

noncomputable def mapR (t : T) (k : K) (fr r : Int) : T × Bool :=
  if tableOk t && keyOk k && decide (findF t.f k < 0) && within fr t.f.length && !(t.f.getD fr.toNat freeF).u && rightsOk r then (mapT t k fr.toNat r, true) else (⟨[], []⟩, false)
theorem mapR_no {t : T} {k : K} {fr r : Int} (h : (tableOk t && keyOk k && decide (findF t.f k < 0) && within fr t.f.length && !(t.f.getD fr.toNat freeF).u && rightsOk r) = false) : mapR t k fr r = (⟨[], []⟩, false) := by
  unfold mapR; rw [h]; rfl
theorem mapR_yes {t : T} {k : K} {fr r : Int} (h : (tableOk t && keyOk k && decide (findF t.f k < 0) && within fr t.f.length && !(t.f.getD fr.toNat freeF).u && rightsOk r) = true) : mapR t k fr r = (mapT t k fr.toNat r, true) := by
  unfold mapR; rw [h]; rfl
theorem link_eq {t : T} {k : K} {fr : Nat} {r : Int} (ht : TOk t) (hk : keyOk k = true) (hf : fr < t.f.length) : i_Table_link fl t k fr r = some ((mapT t k fr r).b, (mapT t k fr r).f) := by
  have h3 := ht.b1
  have h4 := ht.b2
  obtain ⟨hb, he⟩ := bucketT_lt hk h3 h4
  unfold i_Table_link mapT
  rw [iHash_eq hk (by omega) (by omega)]
  simp only [obs, he]
  rw [idx_nat hb, idx_nat hf]
  simp [obs, hb]
theorem sMapIn_eq {t : T} {k : K} {fr : Nat} {r : Int} (ht : TOk t) (hk : keyOk k = true) (hf : fr < t.f.length) : s_l3Map fl t k fr r = some (mapT t k fr r) := by
  have h2 := ht.f2
  have h3 := ht.b1
  have h4 := ht.b2
  obtain ⟨hb, he⟩ := bucketT_lt hk h3 h4
  unfold s_l3Map mapT
  rw [copy_eq (by omega)]
  simp only [obs]
  rw [sHash_eq hk (by omega) (by omega)]
  simp only [obs, he]
  rw [idx_nat hb, idx_nat hf]
  simp [obs, hb]
theorem iMap_eq {t : T} {k : K} {fr r : Int} (hl : t.f.length ≤ 1048576) (hf : 1048576 < fl) : i_MapPage fl t k fr r = some (mapR t k fr r) := by
  unfold i_MapPage i_TableValid
  simp only [obs, iKey_eq, find_eq hl hf, iRights_eq, within_eq]
  cases h1 : tableOk t with
  | false => rw [mapR_no (by simp [h1])]; simp [obs]
  | true =>
    cases h2 : keyOk k with
    | false => rw [mapR_no (by simp [h2])]; simp [obs]
    | true =>
      simp only [Bool.not_true, cof, obs]
      by_cases h3 : 0 ≤ findF t.f k
      · rw [mapR_no (by simp [show ¬ (findF t.f k < 0) from by omega])]; simp [obs, decide_eq_true h3]
      · rw [decide_eq_false h3]
        simp only [cof, obs]
        cases h4 : within fr t.f.length with
        | false => rw [mapR_no (by simp [h4])]; simp [obs]
        | true =>
          simp only [Bool.not_true, cof, obs]
          have hw := within_iff.1 h4
          obtain ⟨i, rfl⟩ : ∃ i : Nat, fr = i := ⟨fr.toNat, by omega⟩
          have hi : i < t.f.length := by omega
          rw [idx_nat hi]
          simp only [obs]
          have hg : t.f.getD i freeF = t.f[i] := by simp [hi]
          cases h5 : t.f[i].u with
          | true => rw [mapR_no (by simp [hi, h5])]; simp [obs]
          | false =>
            simp only [cof, obs]
            cases h6 : rightsOk r with
            | false => rw [mapR_no (by simp [h6])]; simp [obs]
            | true =>
              simp only [Bool.not_true, cof, obs]
              have ht := tableOk_iff.1 h1
              have g2 := ht.f2
              have g4 := ht.b2
              rw [clone_eq (by omega)]
              simp only [obs]
              rw [link_eq ht h2 hi]
              simp only [obs]
              rw [mapR_yes (by simp [h1, h2, h4, h6, hi, h5]; omega)]
              rfl
theorem sMap_eq {t : T} {k : K} {fr r : Int} (hf : 1048576 < fl) : s_MapPage fl t k fr r = some (mapR t k fr r) := by
  unfold s_MapPage s_TableValid
  simp only [obs, sKey_eq, sRights_eq]
  cases h1 : tableOk t with
  | false => rw [mapR_no (by simp [h1])]; simp [obs]
  | true =>
    cases h2 : keyOk k with
    | false => rw [mapR_no (by simp [h2])]; simp [obs]
    | true =>
      simp only [Bool.not_true, cof, obs]
      cases h6 : rightsOk r with
      | false => rw [mapR_no (by simp [h6])]; simp [obs]
      | true =>
        simp only [Bool.not_true, cof, obs]
        by_cases c1 : fr < 0
        · rw [mapR_no (by simp [within, show ¬ (0 ≤ fr) from by omega])]; simp [obs, decide_eq_true c1]
        rw [decide_eq_false c1]
        simp only [cof, obs]
        by_cases c2 : (t.f.length : Int) ≤ fr
        · rw [mapR_no (by simp [within, show ¬ (fr < (t.f.length : Int)) from by omega])]; simp [obs, decide_eq_true c2]
        rw [decide_eq_false c2]
        simp only [cof, obs]
        obtain ⟨i, rfl⟩ : ∃ i : Nat, fr = i := ⟨fr.toNat, by omega⟩
        have hi : i < t.f.length := by omega
        rw [idx_nat hi]
        simp only [obs]
        cases h5 : t.f[i].u with
        | true => rw [mapR_no (by simp [hi, h5])]; simp [obs]
        | false =>
          simp only [cof, obs]
          have ht := tableOk_iff.1 h1
          obtain ⟨s, h⟩ := sFind_eq (fl := fl) ht h2 hf
          rw [h]
          simp only [obs]
          by_cases h3 : 0 ≤ findF t.f k
          · rw [mapR_no (by simp [show ¬ (findF t.f k < 0) from by omega])]; simp [obs, decide_eq_true h3]
          · rw [decide_eq_false h3]
            simp only [cof, obs]
            rw [sMapIn_eq ht h2 hi]
            simp only [obs]
            rw [mapR_yes (by simp [h1, h2, h6, hi, h5, within]; omega)]
            rfl
theorem mapR_len {t : T} {k : K} {fr r : Int} (h : t.b.length + t.f.length ≤ 1048576) : (mapR t k fr r).1.b.length + (mapR t k fr r).1.f.length ≤ 1048576 := by
  unfold mapR; split <;> simp [mapT, h]
end Go.Proofs.YtbhpohopfbcfgaaDoor
