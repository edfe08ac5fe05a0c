/- Plain laws: what the machine's steps yield, both sides: putting, taking, guarding, entering, new memories. -/
import Derived.Test.YtbgodaeccgjdgaaGreatDoorMh
import Derived.Test.YtbgodaeccgjdgaaGreatDoorLg
set_option linter.unusedSimpArgs false
set_option linter.unusedVariables false
namespace Go.Proofs.YtbgodaeccgjdgaaGreatDoor
open Go.RowKit
variable {fl : Nat}
theorem iClone_eq {m : Mc} (hN : mcN m ≤ 1048576) : i_Machine_clone fl m = some m := by
  unfold mcN at hN
  unfold i_Machine_clone slices_Clone_Line slices_Clone_Own
  rw [clone_eq (by omega), cnt_in (by omega), cnt_in (by omega)]; rfl
theorem sCopy_eq {m : Mc} (hN : mcN m ≤ 1048576) : s_l6Copy fl m = some m := by
  unfold mcN at hN
  unfold s_l6Copy s_l4Copy s_l5Copy
  rw [copy_eq (by omega), cnt_in (by simp; omega), cnt_in (by simp; omega)]; rfl
/-! ### putting -/
/-! ### forgetting a line -/
def tagR (m : Mc) (sp pg : Int) : Int × Bool := if 128 ≤ pg then (-1, true) else if 0 ≤ ownF m.g sp then ((owAt m.g.o (ownF m.g sp).toNat).tg, true) else (0, false)
theorem iTagFor {m : Mc} {sp pg : Int} (hG : GO m.g) (hl : m.g.o.length ≤ 1048576) (hf : 1048576 < fl) : i_Machine_tagFor fl m sp pg = some (tagR m sp pg) := by
  unfold i_Machine_tagFor tagR i_TagOf
  rw [iTags_eq hl hf, own_eq hl hf, tagsOk_iff.2 hG]
  by_cases h : 128 ≤ pg
  · rw [decide_eq_true h, cot, if_pos h]
  · rw [decide_eq_false h, cof, if_neg h]
    simp only [obs, Bool.not_true, cof]
    by_cases h0 : ownF m.g sp < 0
    · rw [decide_eq_true h0, if_neg (by omega)]; simp [obs]
    · rw [decide_eq_false h0, if_pos (by omega)]
      have hb := fx_bd (p := fun o : Ow => o.sp == sp) (l := m.g.o)
      have e : ownF m.g sp = fx (fun o : Ow => o.sp == sp) m.g.o 0 := rfl
      obtain ⟨j, hj⟩ : ∃ j : Nat, ownF m.g sp = j := ⟨(ownF m.g sp).toNat, by omega⟩
      rw [hj, cof, idx_nat (by omega), Int.toNat_natCast, owAt_lt (by omega)]
      simp only [obs]
theorem sTag6 {m : Mc} {sp pg : Int} (hl : m.g.o.length ≤ 1048576) (hf : 1048576 < fl) : s_l6Tag fl m sp pg = some (tagR m sp pg) := by
  unfold s_l6Tag tagR
  rw [sOwn_eq hl hf]
  by_cases h : 128 ≤ pg
  · rw [decide_eq_true h, cot, if_pos h]
  · rw [decide_eq_false h, cof, if_neg h]
    simp only [obs]
    by_cases h0 : ownF m.g sp < 0
    · rw [decide_eq_true h0, if_neg (by omega)]; simp
    · rw [decide_eq_false h0, if_pos (by omega)]
      have hb := fx_bd (p := fun o : Ow => o.sp == sp) (l := m.g.o)
      have e : ownF m.g sp = fx (fun o : Ow => o.sp == sp) m.g.o 0 := rfl
      obtain ⟨j, hj⟩ : ∃ j : Nat, ownF m.g sp = j := ⟨(ownF m.g sp).toNat, by omega⟩
      rw [hj, cof, idx_nat (by omega), Int.toNat_natCast, owAt_lt (by omega)]
      simp only [obs]
theorem tagR_in {m : Mc} {sp pg : Int} (hG : GO m.g) (h : (tagR m sp pg).2 = true) : tagIn (tagR m sp pg).1 = true := by
  unfold tagR at h ⊢
  split at h
  · rename_i c; rw [if_pos c]; rfl
  · rename_i c
    rw [if_neg c]
    split at h
    · rename_i c2
      rw [if_pos c2]
      obtain ⟨j, hj, e, _⟩ := fx_at (p := fun o : Ow => o.sp == sp) (l := m.g.o) c2
      have e' : (ownF m.g sp).toNat = j := by unfold ownF; rw [e]; simp
      have h1 := hG.ge j hj
      have h2 := hG.tn j hj
      have h3 := hG.n2
      have h4 := hG.c2
      rw [e']
      unfold tagIn
      simp only [Bool.and_eq_true, decide_eq_true_eq]
      omega
    · cases h
/-! ### taking and guarding -/
/-! ### entering -/
end Go.Proofs.YtbgodaeccgjdgaaGreatDoor
