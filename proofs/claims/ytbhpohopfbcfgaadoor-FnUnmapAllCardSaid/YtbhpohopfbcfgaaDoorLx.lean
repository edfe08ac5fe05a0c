/- The pure laws of FnMapOrder and FnProtectTwice. -/
import Derived.Test.YtbhpohopfbcfgaaDoorLu
import Derived.Test.YtbhpohopfbcfgaaDoorLw
set_option linter.unusedSimpArgs false
set_option linter.unusedVariables false
namespace Go.Proofs.YtbhpohopfbcfgaaDoor
open Go.RowKit
variable {fl : Nat}
theorem usedKeys_congr {l l' : List F} (h : l.map (fun g => (g.u, g.k)) = l'.map (fun g => (g.u, g.k))) : usedKeys l = usedKeys l' := by
  have e : ∀ l : List F, usedKeys l = ((l.map (fun g => (g.u, g.k))).filter (·.1)).map (·.2) := fun l => by
    unfold usedKeys
    rw [List.filter_map, List.map_map]
    rfl
  rw [e, e, h]
theorem find_none {l : List F} {k : K} (h : k ∉ usedKeys l) : findF l k < 0 := by
  rcases findF_spec l k with ⟨e, _⟩ | ⟨i, hi, e, h2, _⟩
  · omega
  · exfalso
    apply h
    unfold hasKey at h2
    simp only [Bool.and_eq_true, decide_eq_true_eq] at h2
    unfold usedKeys
    exact List.mem_map.2 ⟨l[i], List.mem_filter.2 ⟨List.getElem_mem hi, h2.1⟩, h2.2⟩
theorem CanMap.mapR {t : T} {k : K} {i : Nat} {r : Int} (c : CanMap t k i r) : Go.Proofs.YtbhpohopfbcfgaaDoor.mapR t k (i : Int) r = (mapT t k i r, true) := by
  have := mapR_yes (t := t) (k := k) (fr := (i : Int)) (r := r) (by
    rw [tableOk_of c.ok, c.hk, c.hr, decide_eq_true c.hn, within_iff.2 ⟨by omega, by have := c.hf; omega⟩]
    simp [c.hf, c.hu])
  simpa using this
theorem mapR_can {t : T} {k : K} {fr r : Int} (h : (mapR t k fr r).2 = true) : ∃ i : Nat, fr = i ∧ CanMap t k i r := by
  cases hc : (tableOk t && keyOk k && decide (findF t.f k < 0) && within fr t.f.length && !(t.f.getD fr.toNat freeF).u && rightsOk r) with
  | false => rw [mapR_no hc] at h; cases h
  | true =>
    simp only [Bool.and_eq_true, decide_eq_true_eq, Bool.not_eq_true'] at hc
    obtain ⟨⟨⟨⟨⟨c1, c2⟩, c3⟩, c4⟩, c5⟩, c6⟩ := hc
    rw [within_iff] at c4
    obtain ⟨i, rfl⟩ : ∃ i : Nat, fr = i := ⟨fr.toNat, by omega⟩
    have hi : i < t.f.length := by omega
    simp only [Int.toNat_natCast] at c5
    exact ⟨i, rfl, tableOk_iff.1 c1, c2, c6, hi, by simpa [hi] using c5, c3⟩
theorem CanMap.keys {t : T} {k : K} {fr : Nat} {r : Int} (c : CanMap t k fr r) : (usedKeys (mapT t k fr r).f).Perm (k :: usedKeys t.f) := usedKeys_set c.hf c.hu rfl
/-- two pages that can be mapped one after the other can be mapped in the other order -/
theorem CanMap.swap {t : T} {k o : K} {fr i : Nat} {r q : Int} (c : CanMap t k fr r) (d : CanMap (mapT t k fr r) o i q) : i ≠ fr ∧ CanMap t o i q ∧ CanMap (mapT t o i q) k fr r := by
  have e1 : (mapT t k fr r).f.length = t.f.length := by simp [mapT]
  have hif : i ≠ fr := fun e => by
    subst e
    have := d.hu
    simp [mapT] at this
  have hi : i < t.f.length := by have := d.hf; omega
  have hu : t.f[i].u = false := by
    have := d.hu
    simp only [mapT, List.getElem_set] at this
    rwa [if_neg (fun e => hif e.symm)] at this
  have hn : o ∉ k :: usedKeys t.f := fun h => d.nokey ((c.keys.mem_iff).2 h)
  simp only [List.mem_cons, not_or] at hn
  have c2 : CanMap t o i q := ⟨c.ok, d.hk, d.hr, hi, hu, find_none hn.2⟩
  refine ⟨hif, c2, c2.tok, c.hk, c.hr, by simpa [mapT] using c.hf, ?_, find_none fun h => ?_⟩
  · simp only [mapT, List.getElem_set]
    rw [if_neg hif]
    exact c.hu
  · have := (c2.keys.mem_iff).1 h
    rcases List.mem_cons.1 this with e | e
    · exact hn.1 e.symm
    · exact c.nokey e
theorem CanMap.swapKeys {t : T} {k o : K} {fr i : Nat} {r q : Int} (h : i ≠ fr) : usedKeys (mapT (mapT t k fr r) o i q).f = usedKeys (mapT (mapT t o i q) k fr r).f := by
  apply usedKeys_congr
  simp only [mapT, List.map_set]
  rw [List.set_comm _ _ (fun e => h e.symm)]
theorem mapOrder_L0 {x2 : T × K × Int × Int} {t : T} {k : K} {fr : Nat} {r : Int} (e2 : x2 = (t, k, (fr : Int), r)) (c : CanMap t k fr r) (h12 : t.f.length ≤ 12) (hf : 1048576 < fl) : ∀ (fuel i : Nat), i ≤ t.f.length → t.f.length - i < fuel →
    l_FnMapOrder_L0 fl x2 (mapT t k fr r, true) fuel i = some (.ret true) ∨ ∃ j, l_FnMapOrder_L0 fl x2 (mapT t k fr r, true) fuel i = some (.out j) := by
  subst e2
  have e1 : (mapT t k fr r).f.length = t.f.length := by simp [mapT]
  intro fuel
  induction fuel with
  | zero => intro i _ h; omega
  | succ fuel ih =>
    intro i hi hfu
    rw [l_FnMapOrder_L0.eq_2]
    simp only [e1]
    by_cases h : i < t.f.length
    · rw [decide_eq_true (by omega : (i : Int) < (t.f.length : Int)), cot, iMap_eq (by omega) hf]
      simp only [obs]
      cases hm : (mapR (mapT t k fr r) ⟨9, 9⟩ (i : Int) 1).2 with
      | false =>
        simp only [Bool.not_false, cot]
        rw [ck_succ (by omega)]
        simp only [obs]
        exact ih (i + 1) (by omega) (by omega)
      | true =>
        left
        simp only [Bool.not_true, cof]
        obtain ⟨i', ei, d⟩ := mapR_can hm
        obtain rfl : i = i' := by omega
        rw [d.mapR]
        obtain ⟨hif, c2, c3⟩ := c.swap d
        rw [iMap_eq (by omega) hf, c2.mapR]
        simp only [obs]
        rw [iMap_eq (by simp [mapT]; omega) hf, c3.mapR]
        simp only [obs]
        obtain ⟨s1, f1, _⟩ := iFindPage_eq (fl := fl) d.tok d.hk hf
        have f1' := f1 (by rw [d.find]; omega)
        rw [d.find] at f1'
        rw [f1']
        have hfi : ¬ fr = i := fun e => hif e.symm
        have hfo : findF (mapT (mapT t ⟨9, 9⟩ i 1) k fr r).f ⟨9, 9⟩ = (i : Int) :=
          find_at c3.tok.ks (by simpa [mapT] using h) (by simp [mapT, List.getElem_set, hfi]) (by simp [mapT, List.getElem_set, hfi])
        obtain ⟨s2, f2, _⟩ := iFindPage_eq (fl := fl) c3.tok d.hk hf
        have f2' := f2 (by rw [hfo]; omega)
        rw [hfo] at f2'
        rw [f2']
        simp only [obs, cot, beq_self_eq_true]
        have g1 : (mapT (mapT t k fr r) ⟨9, 9⟩ i 1).f.length = t.f.length := by simp [mapT]
        have g2 : (mapT (mapT t ⟨9, 9⟩ i 1) k fr r).f.length = t.f.length := by simp [mapT]
        rw [iKeys_eq d.tok hf (by omega), iKeys_eq c3.tok hf (by omega), CanMap.swapKeys hif]
        have hlen := usedKeys_len (mapT (mapT t ⟨9, 9⟩ i 1) k fr r).f
        obtain ⟨M, hM, hp⟩ := sortK_some (fl := fl) hf (L := usedKeys (mapT (mapT t ⟨9, 9⟩ i 1) k fr r).f) (by omega)
        rw [hM]
        simp only [obs]
        rw [ipKeys_self (by rw [hp.length_eq]; omega) hf]
        simp only [obs]
    · rw [decide_eq_false (by omega : ¬ (i : Int) < (t.f.length : Int)), cof]
      right
      exact ⟨_, rfl⟩
theorem mapOrder_true (l : List UInt8) : l_FnMapOrder 1048577 l = some true := by
  have hf : 1048576 < 1048577 := by decide
  generalize hfl : 1048577 = fl at hf
  unfold l_FnMapOrder
  by_cases hbig : 1048576 < (l.length : Int)
  · rw [decide_eq_true hbig, cot]
  rw [decide_eq_false hbig, cof]
  obtain ⟨t, k, fr, r, e, hl, h12⟩ := drawMap_eq hf l
  rw [e]
  simp only [obs]
  rw [iMap_eq (by omega) hf]
  simp only [obs]
  rw [sMap_eq hf]
  simp only [obs]
  have hlen := mapR_len (k := k) (fr := fr) (r := r) (t := t) (by omega)
  rw [same_self hlen hf]
  simp only [obs, Bool.not_true, cof, bne_self_eq_false, beq_self_eq_true, cot]
  cases hm : (mapR t k fr r).2 with
  | false => simp only [Bool.not_false, cot, obs]
  | true =>
    obtain ⟨i, rfl, c⟩ := mapR_can hm
    rw [c.mapR]
    simp only [Bool.not_true, cof, obs]
    rcases mapOrder_L0 (fl := fl) rfl c h12 hf fl 0 (by omega) (by omega) with h | ⟨j, h⟩ <;> rw [show ((0 : Nat) : Int) = 0 from rfl] at h <;> rw [h] <;> simp only [obs]
theorem protT_yes {t : T} {k : K} {r : Int} {i : Nat} (ht : TOk t) (hk : keyOk k = true) (hi : findF t.f k = (i : Int)) (hr : rightsOk r = true) : ∃ h : i < t.f.length, t.f[i].u = true ∧ t.f[i].k = k ∧ protT t k r = (⟨t.b, t.f.set i (setR t.f[i] r)⟩, true) := by
  obtain ⟨hb, hu, hk2⟩ := found_key hi
  refine ⟨hb, hu, hk2, ?_⟩
  have gD : t.f.getD i freeF = t.f[i] := by simp [hb]
  unfold protT
  rw [tableOk_of ht, hk, hi, hr]
  simp only [Bool.true_and, Bool.and_true, Int.toNat_natCast, gD]
  rw [if_pos (by simp)]
  rfl
theorem protectTwice_true (l : List UInt8) : l_FnProtectTwice 1048577 l = some true := by
  have hf : 1048576 < 1048577 := by decide
  generalize hfl : 1048577 = fl at hf
  unfold l_FnProtectTwice
  by_cases hbig : 1048576 < (l.length : Int)
  · rw [decide_eq_true hbig, cot]
  rw [decide_eq_false hbig, cof]
  obtain ⟨t, k, r, e, hl, h12⟩ := drawProt_eq hf l
  rw [e]
  simp only [obs]
  rw [iProt_eq (by omega) hf]
  simp only [obs]
  rw [sProt_eq hf]
  simp only [obs]
  have hlen := protT_len (k := k) (r := r) (t := t) (by omega)
  rw [same_self hlen hf]
  simp only [obs, Bool.not_true, cof, bne_self_eq_false, beq_self_eq_true, cot]
  cases hc : (tableOk t && keyOk k && decide (0 ≤ findF t.f k) && rightsOk r) with
  | false =>
    have e0 : protT t k r = (⟨[], []⟩, false) := by unfold protT; rw [hc]; rfl
    rw [e0]
    simp only [Bool.not_false, cot, obs]
  | true =>
    simp only [Bool.and_eq_true, decide_eq_true_eq] at hc
    obtain ⟨⟨⟨c1, c2⟩, c3⟩, c4⟩ := hc
    have ht := tableOk_iff.1 c1
    obtain ⟨i, hi⟩ : ∃ i : Nat, findF t.f k = i := ⟨(findF t.f k).toNat, by omega⟩
    obtain ⟨hb, hu, hk, e0⟩ := protT_yes ht c2 hi c4
    rw [e0]
    simp only [Bool.not_true, cof, obs]
    have ht' := ht.setR hb hu c4
    have hf' : findF (t.f.set i (setR t.f[i] r)) k = (i : Int) := find_at ht'.ks (by simpa using hb) (by simp [setR, hu]) (by simp [setR, hk])
    have r5 : rightsOk 5 = true := by decide
    obtain ⟨_, _, _, ey⟩ := protT_yes ht' c2 (r := 5) hf' r5
    obtain ⟨_, _, _, ez⟩ := protT_yes ht c2 (r := 5) hi r5
    rw [iProt_eq (by simp; omega) hf, iProt_eq (by omega) hf]
    simp only [obs]
    rw [ey, ez]
    have ef : (t.f.set i (setR t.f[i] r)).set i (setR ((t.f.set i (setR t.f[i] r))[i]'(by simpa using hb)) 5) = t.f.set i (setR t.f[i] 5) := by
      rw [List.set_set]; simp [setR]
    simp only [cot, obs, ef]
    rw [same_self (by simp; omega) hf]
    simp only [cot, obs]
    rw [iKeys_eq ht' hf (by simp; omega), iKeys_eq ht hf (by omega)]
    simp only [usedKeys_setR hb]
    have hlen := usedKeys_len t.f
    obtain ⟨M, hM, hp⟩ := sortK_some (fl := fl) hf (L := usedKeys t.f) (by omega)
    rw [hM]
    simp only [obs]
    rw [ipKeys_self (by rw [hp.length_eq]; omega) hf]
    simp only [obs]
end Go.Proofs.YtbhpohopfbcfgaaDoor
