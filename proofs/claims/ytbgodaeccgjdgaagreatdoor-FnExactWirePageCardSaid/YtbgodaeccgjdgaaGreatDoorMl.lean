/- Plain laws: wiring a page, both sides. -/
import Derived.Test.YtbgodaeccgjdgaaGreatDoorMk
set_option linter.unusedSimpArgs false
set_option linter.unusedVariables false
namespace Go.Proofs.YtbgodaeccgjdgaaGreatDoor
open Go.RowKit
variable {fl : Nat}
def wireC (c : Ca) (i : Nat) (b : Bool) : Ca := ⟨c.l.set i ⟨(lnAt c.l i).va, (lnAt c.l i).tg, (lnAt c.l i).pg, (lnAt c.l i).fr, (lnAt c.l i).ri, b⟩, c.h⟩
def wireLR (c : Ca) (pl : Int) (b : Bool) : Ca × Bool :=
  if (cacheOk c && within pl c.l.length && (lnAt c.l pl.toNat).va && cacheOk (wireC c pl.toNat b)) = true then (wireC c pl.toNat b, true) else (⟨[], 0⟩, false)
theorem iWireLine {c : Ca} {pl : Int} {b : Bool} (hl : c.l.length ≤ 1048576) (hf : 1048576 < fl) : i_WireLine fl c pl b = some (wireLR c pl b) := by
  unfold i_WireLine wireLR i_Cache_with slices_Clone_Line
  rw [iCache_eq hf, within_eq]
  cases cacheOk c with
  | false => simp [obs]
  | true =>
    cases hw : within pl c.l.length with
    | false => simp [obs]
    | true =>
      have hw' := within_iff.1 hw
      obtain ⟨i, rfl⟩ : ∃ i : Nat, pl = i := ⟨pl.toNat, by omega⟩
      have hi : i < c.l.length := by omega
      unfold wireC
      rw [Int.toNat_natCast, lnAt_lt hi, idx_nat hi, cnt_in (by omega)]
      simp only [obs, Bool.not_true, cof, Bool.true_and]
      cases hv : c.l[i].va with
      | false => simp [obs]
      | true =>
        rw [idx_nat hi]
        simp only [obs, Bool.not_true, cof, Bool.true_and, iCache_eq hf, Int.toNat_natCast, hv]
        cases cacheOk (⟨c.l.set i ⟨true, c.l[i].tg, c.l[i].pg, c.l[i].fr, c.l[i].ri, b⟩, c.h⟩ : Ca) <;> rfl
theorem sWireLine {c : Ca} {pl : Int} {b : Bool} (hl : c.l.length ≤ 1048576) (hf : 1048576 < fl) : s_WireLine fl c pl b = some (wireLR c pl b) := by
  unfold s_WireLine wireLR s_l4Copy
  rw [sCache_eq hf]
  cases cacheOk c with
  | false => simp [obs]
  | true =>
    unfold within
    by_cases h1 : pl < 0
    · rw [decide_eq_true h1, decide_eq_false (by omega : ¬ 0 ≤ pl)]; simp [obs]
    by_cases h2 : (c.l.length : Int) ≤ pl
    · rw [decide_eq_false h1, decide_eq_true h2, decide_eq_false (by omega : ¬ pl < (c.l.length : Int))]; simp [obs]
    rw [decide_eq_false h1, decide_eq_false h2, decide_eq_true (by omega : 0 ≤ pl), decide_eq_true (by omega : pl < (c.l.length : Int))]
    obtain ⟨i, rfl⟩ : ∃ i : Nat, pl = i := ⟨pl.toNat, by omega⟩
    have hi : i < c.l.length := by omega
    unfold wireC
    rw [Int.toNat_natCast, lnAt_lt hi, idx_nat hi, cnt_in (by simp; omega)]
    simp only [obs, Bool.not_true, cof, Bool.true_and, List.nil_append]
    cases hv : c.l[i].va with
    | false => simp [obs]
    | true =>
      rw [idx_nat hi]
      simp only [obs, Bool.not_true, cof, Bool.true_and, sCache_eq hf, Int.toNat_natCast, hv]
      cases cacheOk (⟨c.l.set i ⟨true, c.l[i].tg, c.l[i].pg, c.l[i].fr, c.l[i].ri, b⟩, c.h⟩ : Ca) <;> rfl
noncomputable def wireR (m : Mc) (pg : Int) : Mc × Bool :=
  if ((touchR m pg 0).2.2.2 && !((touchR m pg 0).2.2.1 == 3) && !decide (pg < 128) && (wireLR (touchR m pg 0).1.c (fx (fits (-1) pg) (touchR m pg 0).1.c.l 0) true).2) = true then
    (⟨(touchR m pg 0).1.t, (wireLR (touchR m pg 0).1.c (fx (fits (-1) pg) (touchR m pg 0).1.c.l 0) true).1, (touchR m pg 0).1.g, (touchR m pg 0).1.s⟩, true)
  else (mc0, false)
theorem wireLR_len {c : Ca} {pl : Int} {b : Bool} (h : (wireLR c pl b).2 = true) : (wireLR c pl b).1.l.length = c.l.length := by
  unfold wireLR at h ⊢
  split at h
  · rename_i q; rw [if_pos q]; simp [wireC]
  · cases h
theorem wireR_len {m : Mc} {pg : Int} (hN : mcN m ≤ 1048576) : mcN (wireR m pg).1 ≤ 1048576 := by
  have hT := touchR_len (pg := pg) (nd := 0) hN
  unfold wireR
  split
  · rename_i q
    simp only [Bool.and_eq_true] at q
    have := wireLR_len q.2
    unfold mcN at hT ⊢
    simp only [this]; exact hT
  · simp [mcN, mc0]
theorem iWire_eq {m : Mc} {pg : Int} (hN : mcN m ≤ 1048576) (hf : 1048576 < fl) : i_WirePage fl m pg = some (wireR m pg) := by
  have hT := touchR_len (pg := pg) (nd := 0) hN
  have hT' := hT
  unfold mcN at hT'
  unfold i_WirePage wireR
  rw [iTouch_eq hN hf]
  simp only [obs]
  cases (touchR m pg 0).2.2.2 with
  | false => simp [obs, mc0]
  | true =>
    cases decide (pg < 128) with
    | true => simp [obs, mc0]
    | false =>
      cases ((touchR m pg 0).2.2.1 == 3) with
      | true => simp [obs, mc0]
      | false =>
        simp only [Bool.not_true, Bool.not_false, cof, obs, Bool.true_and]
        rw [place_eq (by omega) hf]
        simp only [obs]
        rw [iWireLine (by omega) hf]
        simp only [obs]
        cases (wireLR (touchR m pg 0).1.c (fx (fits (-1) pg) (touchR m pg 0).1.c.l 0) true).2 <;> rfl
theorem sWire_eq {m : Mc} {pg : Int} (hN : mcN m ≤ 1048576) (hf : 1048576 < fl) : s_WirePage fl m pg = some (wireR m pg) := by
  have hT := touchR_len (pg := pg) (nd := 0) hN
  have hT' := hT
  unfold mcN at hT'
  unfold s_WirePage wireR
  rw [sTouch_eq hN hf]
  simp only [obs]
  cases (touchR m pg 0).2.2.2 with
  | false => simp [obs, mc0]
  | true =>
    cases decide (pg < 128) with
    | true => cases ((touchR m pg 0).2.2.1 == 3) <;> simp [obs, mc0]
    | false =>
      cases ((touchR m pg 0).2.2.1 == 3) with
      | true => simp [obs, mc0]
      | false =>
        simp only [Bool.not_true, Bool.not_false, cof, obs, Bool.true_and]
        rw [sPlace_eq (by omega) hf]
        simp only [obs]
        rw [sWireLine (by omega) hf]
        simp only [obs]
        cases (wireLR (touchR m pg 0).1.c (fx (fits (-1) pg) (touchR m pg 0).1.c.l 0) true).2 <;> rfl
end Go.Proofs.YtbgodaeccgjdgaaGreatDoor
