/- The pure law of FnProtectPage. -/
import Derived.Test.YtkocamaoeojfhaaDoorLu
set_option linter.unusedSimpArgs false
set_option linter.unusedVariables false
namespace Go.Proofs.YtkocamaoeojfhaaDoor
open Go.RowKit
theorem protectPage_true (l : List UInt8) : l_FnProtectPage 1048577 l = some true := by
  have hf : 1048576 < 1048577 := by decide
  generalize hfl : 1048577 = fl at hf
  unfold l_FnProtectPage
  by_cases hbig : 1048576 < (l.length : Int)
  · rw [decide_eq_true hbig, cot]
  rw [decide_eq_false hbig, cof]
  obtain ⟨t, k, r, e, hl⟩ := drawProt_eq hf l
  rw [e]
  simp only [obs]
  rw [iProt_eq (by omega) hf]
  simp only [obs]
  rw [sProt_eq hf]
  simp only [obs]
  have hlen := protT_len (k := k) (r := r) (t := t) (by omega)
  rw [same_self hlen hf]
  simp only [obs, Bool.not_true, cof, bne_self_eq_false, beq_self_eq_true, cot]
  cases hc : (tableOk t && keyOk k && decide (0 ≤ findF t.f k) && rightsOk r) with
  | false =>
    have e0 : protT t k r = (⟨[], []⟩, false) := by unfold protT; rw [hc]; rfl
    rw [e0]
    simp only [Bool.not_false, cot]
  | true =>
    have hc' := hc
    simp only [Bool.and_eq_true, decide_eq_true_eq] at hc
    obtain ⟨⟨⟨c1, c2⟩, c3⟩, c4⟩ := hc
    have ht := tableOk_iff.1 c1
    obtain ⟨i, hi⟩ : ∃ i : Nat, findF t.f k = i := ⟨(findF t.f k).toNat, by omega⟩
    obtain ⟨hb, hu, hk⟩ := found_key hi
    have gD : t.f.getD i freeF = t.f[i] := by simp [hb]
    have e0 : protT t k r = (⟨t.b, t.f.set i (setR t.f[i] r)⟩, true) := by
      unfold protT; rw [hc', hi]; simp only [Int.toNat_natCast, gD]; rfl
    rw [e0] at hlen ⊢
    simp only [Bool.not_true, cof] at hlen ⊢
    have ht' := ht.setR hb hu c4
    have hf' : findF (t.f.set i (setR t.f[i] r)) k = (i : Int) := find_at ht'.ks (by simpa using hb) (by simp [setR, hu]) (by simp [setR, hk])
    obtain ⟨s, h1, _⟩ := iFindPage_eq (fl := fl) ht' c2 hf
    rw [hf'] at h1
    rw [h1 (by omega)]
    simp only [obs]
    rw [idx_nat hb]
    simp only [obs]
    rw [iProt_eq (by simp; omega) hf]
    have hr0 : rightsOk t.f[i].r = true := by
      have := ht.fr _ (List.getElem_mem hb)
      unfold frameOk at this
      rw [hu] at this
      simp only [if_true, Bool.and_eq_true] at this
      exact this.2
    have e1 : protT ⟨t.b, t.f.set i (setR t.f[i] r)⟩ k t.f[i].r = (t, true) := by
      unfold protT
      rw [tableOk_of ht', c2, hf', hr0]
      have g2 : (t.f.set i (setR t.f[i] r)).getD i freeF = setR t.f[i] r := by simp [hb]
      simp only [Bool.true_and, Bool.and_true, Int.toNat_natCast, g2]
      rw [if_pos (by simp), List.set_set]
      have : ({ setR t.f[i] r with r := t.f[i].r } : F) = t.f[i] := rfl
      rw [this, List.set_getElem_self]
    rw [e1]
    simp only [obs, i_TableValid, tableOk_of ht', cot]
    rw [idx_nat (by simpa using hb)]
    simp only [obs]
    have e2 : ((t.f.set i (setR t.f[i] r))[i]'(by simpa using hb)).r = r := by simp [setR]
    rw [e2]
    simp only [beq_self_eq_true, cot, obs]
    rw [same_self (by omega) hf]
    simp only [obs]
end Go.Proofs.YtkocamaoeojfhaaDoor
