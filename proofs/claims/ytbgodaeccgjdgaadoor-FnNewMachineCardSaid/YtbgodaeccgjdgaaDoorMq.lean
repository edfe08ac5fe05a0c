/- The pure law of FnNewMachine: it returns true. -/
import Derived.Test.YtbgodaeccgjdgaaDoorMp
set_option linter.unusedSimpArgs false
set_option linter.unusedVariables false
namespace Go.Proofs.YtbgodaeccgjdgaaDoor
open Go.RowKit
variable {fl : Nat}
theorem eqLoop {α : Type} [BEq α] [LawfulBEq α] {L : Nat → Int → Option (LO Int Bool)} {l : List α}
    (step : ∀ fuel i, (h : i < l.length) → L (fuel + 1) (i : Int) = L fuel ((i + 1 : Nat) : Int)) (stop : ∀ fuel, L (fuel + 1) (l.length : Int) = some (.out (l.length : Int))) : ∀ fuel i, i ≤ l.length → l.length - i < fuel → L fuel (i : Int) = some (.out (l.length : Int)) := by
  intro fuel
  induction fuel with
  | zero => intro i _ h; omega
  | succ fuel ih =>
    intro i hi hf
    by_cases h : i < l.length
    · rw [step fuel i h]; exact ih (i + 1) (by omega) (by omega)
    · have e : i = l.length := by omega
      subst e; exact stop fuel
theorem eqI_self {l : List Int} (hl : l.length ≤ 1048576) (hf : 1048576 < fl) : slices_Equal_Int fl l l = some true := by
  unfold slices_Equal_Int
  have := eqLoop (L := slices_Equal_Int_L0 fl l l) (l := l)
    (fun fuel i h => by
      rw [slices_Equal_Int_L0.eq_2, decide_eq_true (by omega : (i : Int) < (l.length : Int)), cot, idx_nat h]
      simp only [obs, bne_self_eq_false, cof]
      rw [ck_succ (by omega)]; simp only [obs])
    (fun fuel => by rw [slices_Equal_Int_L0.eq_2, decide_eq_false (by omega), cof]) fl 0 (by omega) (by omega)
  rw [show ((0 : Nat) : Int) = 0 from rfl] at this
  simp only [bne_self_eq_false, cof, this, obs]
theorem eqF_self {l : List F} (hl : l.length ≤ 1048576) (hf : 1048576 < fl) : slices_Equal_Frame fl l l = some true := by
  unfold slices_Equal_Frame
  have := eqLoop (L := slices_Equal_Frame_L0 fl l l) (l := l)
    (fun fuel i h => by
      rw [slices_Equal_Frame_L0.eq_2, decide_eq_true (by omega : (i : Int) < (l.length : Int)), cot, idx_nat h]
      simp only [obs, bne_self_eq_false, cof]
      rw [ck_succ (by omega)]; simp only [obs])
    (fun fuel => by rw [slices_Equal_Frame_L0.eq_2, decide_eq_false (by omega), cof]) fl 0 (by omega) (by omega)
  rw [show ((0 : Nat) : Int) = 0 from rfl] at this
  simp only [bne_self_eq_false, cof, this, obs]
theorem eqLn_self {l : List Ln} (hl : l.length ≤ 1048576) (hf : 1048576 < fl) : slices_Equal_Line fl l l = some true := by
  unfold slices_Equal_Line
  have := eqLoop (L := slices_Equal_Line_L0 fl l l) (l := l)
    (fun fuel i h => by
      rw [slices_Equal_Line_L0.eq_2, decide_eq_true (by omega : (i : Int) < (l.length : Int)), cot, idx_nat h]
      simp only [obs, bne_self_eq_false, cof]
      rw [ck_succ (by omega)]; simp only [obs])
    (fun fuel => by rw [slices_Equal_Line_L0.eq_2, decide_eq_false (by omega), cof]) fl 0 (by omega) (by omega)
  rw [show ((0 : Nat) : Int) = 0 from rfl] at this
  simp only [bne_self_eq_false, cof, this, obs]
theorem eqOw_self {l : List Ow} (hl : l.length ≤ 1048576) (hf : 1048576 < fl) : slices_Equal_Own fl l l = some true := by
  unfold slices_Equal_Own
  have := eqLoop (L := slices_Equal_Own_L0 fl l l) (l := l)
    (fun fuel i h => by
      rw [slices_Equal_Own_L0.eq_2, decide_eq_true (by omega : (i : Int) < (l.length : Int)), cot, idx_nat h]
      simp only [obs, bne_self_eq_false, cof]
      rw [ck_succ (by omega)]; simp only [obs])
    (fun fuel => by rw [slices_Equal_Own_L0.eq_2, decide_eq_false (by omega), cof]) fl 0 (by omega) (by omega)
  rw [show ((0 : Nat) : Int) = 0 from rfl] at this
  simp only [bne_self_eq_false, cof, this, obs]
theorem sameMc {m : Mc} (h1 : m.t.b.length ≤ 1048576) (h2 : m.t.f.length ≤ 1048576) (h3 : m.c.l.length ≤ 1048576) (h4 : m.g.o.length ≤ 1048576) (hf : 1048576 < fl) : i_MachineSame fl m m = some true := by
  unfold i_MachineSame i_TableSame i_CacheSame i_TagsSame
  rw [eqI_self h1 hf, eqF_self h2 hf, eqLn_self h3 hf, eqOw_self h4 hf]
  simp only [obs, cot, beq_self_eq_true]
theorem touch_new {n m c : Nat} {g pg : Int} (h1 : 1 ≤ n) (h2 : n ≤ 16) (h3 : 1 ≤ m) (h4 : m ≤ 16) (h5 : 1 ≤ c) (h6 : c ≤ 8) (h7 : 1 ≤ g) (h8 : g ≤ 8) (hp : within pg 256 = true) : touchR (newM n m c g) pg 0 = (newM n m c g, 0, 3, true) := by
  unfold touchR
  rw [machineOk_iff.2 (newM_ok h1 h2 h3 h4 h5 h6 h7 h8), hp, show rightsOk 0 = true from rfl]
  have hfx : fx (fits (tagR (newM n m c g) (newM n m c g).s pg).1 pg) (newM n m c g).c.l 0 = -1 := by
    rcases fx_spec (p := fits (tagR (newM n m c g) (newM n m c g).s pg).1 pg) (l := (newM n m c g).c.l) (i := 0) with ⟨e, _⟩ | ⟨j, hj, _, hf, _⟩
    · exact e
    · have : (newM n m c g).c.l[j] = lnZ := by simp [newM, newC]
      rw [this] at hf
      simp [fits, lnZ] at hf
  have hff : findF (newM n m c g).t.f (keyFor (newM n m c g).s pg) = -1 := newT_find
  rw [hfx, hff]
  simp
theorem newMachine_true (l : List UInt8) (h : (l.length : Int) ≤ 9223372036854775807) : l_FnNewMachine 1048577 l = some true := by
  have hf : 1048576 < 1048577 := by decide
  generalize hfl : 1048577 = fl at hf
  unfold l_FnNewMachine
  by_cases hl : (1048576 : Int) < (l.length : Int)
  · rw [decide_eq_true hl, cot]
  · rw [decide_eq_false hl, cof]
    have hd : ∃ a b c d, s_DrawNewMachine fl l = some (a, b, c, d) := by
      unfold s_DrawNewMachine
      have ht : (l.take 2000).length ≤ 2000 := by rw [List.length_take]; omega
      obtain ⟨a, _, e1⟩ := num_eq (fl := fl) (l := l.take 2000) (p := 0) (L := [4, 16, 1, 0]) (by omega) (by omega) ht (by simp)
      rw [e1]; simp only [obs]
      obtain ⟨b, _, e2⟩ := num_eq (fl := fl) (l := l.take 2000) (p := 0 + 1) (L := [4, 1, 16, 17]) (by omega) (by omega) ht (by simp)
      rw [e2]; simp only [obs]
      obtain ⟨c, _, e3⟩ := num_eq (fl := fl) (l := l.take 2000) (p := 0 + 1 + 1) (L := [4, 1, 8, 9]) (by omega) (by omega) ht (by simp)
      rw [e3]; simp only [obs]
      obtain ⟨d, _, e4⟩ := num_eq (fl := fl) (l := l.take 2000) (p := 0 + 1 + 1 + 1) (L := [2, 8, 1, 0]) (by omega) (by omega) ht (by simp)
      rw [e4]; simp only [obs]
      exact ⟨a, b, c, d, rfl⟩
    obtain ⟨a, b, c, d, e⟩ := hd
    rw [e]
    simp only [obs]
    rw [iNewMc_eq hf, sNewMc_eq hf]
    simp only [obs]
    unfold newMcR
    split
    · rename_i hc
      simp only [Bool.and_eq_true, decide_eq_true_eq] at hc
      obtain ⟨⟨⟨⟨⟨q1, q2⟩, q3⟩, q4⟩, q5, q6⟩, q7, q8⟩ := hc
      obtain ⟨a, rfl⟩ : ∃ n : Nat, a = n := ⟨a.toNat, by omega⟩
      obtain ⟨b, rfl⟩ : ∃ n : Nat, b = n := ⟨b.toNat, by omega⟩
      obtain ⟨c, rfl⟩ : ∃ n : Nat, c = n := ⟨c.toNat, by omega⟩
      simp only [Int.toNat_natCast]
      have hM := newM_ok (n := a) (m := b) (c := c) (g := d) (by omega) (by omega) (by omega) (by omega) (by omega) (by omega) q7 q8
      obtain ⟨s1, s2, s3, s4⟩ := hM.small
      have hN : mcN (newM a b c d) ≤ 1048576 := by unfold mcN; omega
      rw [sameMc (by omega) (by omega) (by omega) (by omega) hf]
      simp only [obs, Bool.not_true, cof, bne_self_eq_false]
      rw [iTouch_eq hN hf, iTouch_eq hN hf, touch_new (by omega) (by omega) (by omega) (by omega) (by omega) (by omega) q7 q8 rfl, touch_new (by omega) (by omega) (by omega) (by omega) (by omega) (by omega) q7 q8 rfl]
      simp only [obs]
      rw [iMachine_eq hN hf, machineOk_iff.2 hM]
      rfl
    · rw [sameMc (by simp [mc0]) (by simp [mc0]) (by simp [mc0]) (by simp [mc0]) hf]
      rfl
end Go.Proofs.YtbgodaeccgjdgaaDoor
