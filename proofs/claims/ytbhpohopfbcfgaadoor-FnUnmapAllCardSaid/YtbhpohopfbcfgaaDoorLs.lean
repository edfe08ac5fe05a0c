/- Plain laws: TableSame, FindPage of the program; the pure law of FnMapPage. -/
import Derived.Test.YtbhpohopfbcfgaaDoorLr
import Derived.Test.YtbhpohopfbcfgaaDoorLq
set_option linter.unusedSimpArgs false
set_option linter.unusedVariables false
namespace Go.Proofs.YtbhpohopfbcfgaaDoor
open Go.RowKit
variable {fl : Nat}
theorem equalI_L0 {l : List Int} (hl : l.length ≤ 1048576) : ∀ (fuel i : Nat), i ≤ l.length → l.length - i < fuel → slices_Equal_Int_L0 fl l l fuel i = some (.out (l.length : Int)) := by
  intro fuel
  induction fuel with
  | zero => intro i _ h; omega
  | succ fuel ih =>
    intro i hi hf
    rw [slices_Equal_Int_L0.eq_2]
    by_cases h : i < l.length
    · rw [decide_eq_true (by omega : (i : Int) < (l.length : Int)), cot, idx_nat h, ck_succ (by omega)]
      simp only [obs, bne_self_eq_false, cof]
      exact ih (i + 1) (by omega) (by omega)
    · have e : i = l.length := by omega
      subst e
      simp only [Int.lt_irrefl, decide_false, cof]
theorem equalF_L0 {l : List F} (hl : l.length ≤ 1048576) : ∀ (fuel i : Nat), i ≤ l.length → l.length - i < fuel → slices_Equal_Frame_L0 fl l l fuel i = some (.out (l.length : Int)) := by
  intro fuel
  induction fuel with
  | zero => intro i _ h; omega
  | succ fuel ih =>
    intro i hi hf
    rw [slices_Equal_Frame_L0.eq_2]
    by_cases h : i < l.length
    · rw [decide_eq_true (by omega : (i : Int) < (l.length : Int)), cot, idx_nat h, ck_succ (by omega)]
      simp only [obs, bne_self_eq_false, cof]
      exact ih (i + 1) (by omega) (by omega)
    · have e : i = l.length := by omega
      subst e
      simp only [Int.lt_irrefl, decide_false, cof]
theorem same_self {t : T} (hl : t.b.length + t.f.length ≤ 1048576) (hf : 1048576 < fl) : i_TableSame fl t t = some true := by
  unfold i_TableSame slices_Equal_Int slices_Equal_Frame
  have e1 := equalI_L0 (fl := fl) (l := t.b) (by omega) fl 0 (by omega) (by omega)
  have e2 := equalF_L0 (fl := fl) (l := t.f) (by omega) fl 0 (by omega) (by omega)
  rw [show ((0 : Nat) : Int) = 0 from rfl] at e1 e2
  simp only [bne_self_eq_false, cof, e1, e2, obs, cot]
theorem iChain_L0 {t : T} {nb b : Int} : ∀ {m : Nat} {i : Int} {M : List Nat} (fuel : Nat) (acc : List Int), walk t.f nb b m i = some M → M.length < fuel → acc.length + M.length ≤ 1048576 → i_Table_chain_L0 fl t fuel acc i = some (.out (acc ++ M.map Int.ofNat, -1))
  | m, i, M, 0, acc, _, h, _ => by omega
  | 0, i, M, fuel + 1, acc, h, hf, hl => by
    rw [i_Table_chain_L0.eq_2]
    simp only [walk] at h
    split at h
    · rename_i e
      subst e
      simp only [Option.some.injEq] at h
      subst h
      simp
    · cases h
  | m + 1, i, M, fuel + 1, acc, h, hf, hl => by
    rw [i_Table_chain_L0.eq_2]
    by_cases h1 : i = -1
    · subst h1
      rw [walk_end] at h
      simp only [Option.some.injEq] at h
      subst h
      simp
    · by_cases hx : ∃ j : Nat, i = j ∧ ∃ hj : j < t.f.length, t.f[j].u = true ∧ hashI t.f[j].k nb = b
      · obtain ⟨j, rfl, hj, hu, hh⟩ := hx
        rw [walk_step hj hu hh] at h
        cases hw : walk t.f nb b m t.f[j].nx with
        | none => rw [hw] at h; cases h
        | some M' =>
          rw [hw] at h
          simp only [Option.map_some, Option.some.injEq] at h
          subst h
          simp only [List.length_cons] at hf hl
          rw [show ((j : Int) != -1) = true from by simp, cot, cnt_in (by simp; omega)]
          simp only [obs]
          rw [idx_nat hj]
          simp only [obs]
          rw [iChain_L0 fuel (acc ++ [(j : Int)]) hw (by omega) (by simp; omega)]
          simp
      · rw [walk_out h1 (fun j e hj hu hh => hx ⟨j, e, hj, hu, hh⟩)] at h
        cases h
theorem iChain_eq {t : T} {b : Nat} {M : List Nat} (hb : b < t.b.length) (h : chain t b = some M) (hl : M.length ≤ 1048576) (hf : 1048576 < fl) : i_Table_chain fl t (b : Int) = some (M.map Int.ofNat) := by
  unfold i_Table_chain
  rw [idx_nat hb]
  simp only [obs]
  unfold chain at h
  rw [show t.b.getD b (-1) = t.b[b] from by simp [hb]] at h
  rw [iChain_L0 fl [] h (by omega) (by simpa using hl)]
  simp only [obs, List.nil_append]
/-- the program's FindPage where the page is first in its chain -/
theorem iFind_first {t : T} {k : K} {fr : Nat} {L : List Nat} (ht : TOk t) (hk : keyOk k = true) (h : chain t (bucketT t k) = some (fr :: L)) (hfr : ∃ h : fr < t.f.length, t.f[fr].k = k) (hf : 1048576 < fl) : i_FindPage fl t k = some ((fr : Int), 1, true) := by
  obtain ⟨hb, he⟩ := bucketT_lt hk ht.b1 ht.b2
  have hL : (fr :: L).length ≤ t.f.length := nodup_le (walk_nodup h) (fun x hx => (walk_mem h x hx).1)
  have := ht.f2
  have := ht.b1
  have := ht.b2
  unfold i_FindPage i_TableValid
  simp only [obs, tableOk_of ht, iKey_eq, hk, Bool.not_true, cof]
  rw [iHash_eq hk (by omega) (by omega)]
  simp only [obs, he]
  rw [iChain_eq hb h (by omega) hf]
  simp only [obs]
  obtain ⟨g, rfl⟩ : ∃ g, fl = g + 1 := ⟨fl - 1, by omega⟩
  rw [i_FindPage_L0.eq_2]
  obtain ⟨hfr1, hfr2⟩ := hfr
  have e0 : idx (List.map Int.ofNat (fr :: L)) 0 = some (fr : Int) := rfl
  rw [e0]
  simp only [obs]
  rw [idx_nat hfr1]
  simp only [obs, hfr2, beq_self_eq_true]
  rw [show decide ((0 : Int) < ((List.map Int.ofNat (fr :: L)).length : Int)) = true from by simp]
  simp only [cot, obs]
  rw [show ck (0 + 1) = some 1 from rfl]
  simp only [obs]
end Go.Proofs.YtbhpohopfbcfgaaDoor
