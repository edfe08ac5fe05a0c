/- Plain laws: the reference's KeysOf, and the draws of FnProtectPage. -/
import Derived.Test.YtbhpohopfbcfgaaDoorLs
set_option linter.unusedSimpArgs false
set_option linter.unusedVariables false
namespace Go.Proofs.YtbhpohopfbcfgaaDoor
open Go.RowKit
variable {fl : Nat}
theorem before_eq (a b : K) : s_KeyBefore fl a b = some (decide (a.s < b.s) || (a.s == b.s && decide (a.p < b.p))) := by
  unfold s_KeyBefore
  cases decide (a.s < b.s) <;> cases (a.s == b.s) <;> rfl
theorem keys_L1 : ∀ (fuel i : Nat) (v : List K), i < v.length → i < fuel → v.length ≤ 1048576 → ∃ v' j, s_KeysOf_L1 fl fuel v i = some (.out (v', j)) ∧ v'.length = v.length := by
  intro fuel
  induction fuel with
  | zero => intro i v _ h; omega
  | succ fuel ih =>
    intro i v hi hf hl
    rw [s_KeysOf_L1.eq_2]
    by_cases h0 : i = 0
    · subst h0
      simp only [show decide (0 < ((0 : Nat) : Int)) = false from rfl, cof, obs]
      exact ⟨_, _, rfl, rfl⟩
    · have hck : ck ((i : Int) - 1) = some ((i - 1 : Nat) : Int) := by rw [ck_in (by omega)]; congr 1; omega
      rw [decide_eq_true (by omega : 0 < (i : Int)), cot, idx_nat hi, hck]
      simp only [obs]
      rw [idx_nat (by omega : i - 1 < v.length)]
      simp only [obs, before_eq]
      cases (decide (v[i].s < v[i - 1].s) || (v[i].s == v[i - 1].s && decide (v[i].p < v[i - 1].p))) with
      | false => rw [cof]; exact ⟨_, _, rfl, rfl⟩
      | true =>
        rw [cot, idx_nat (by simp; omega)]
        simp only [obs]
        obtain ⟨v', j, e, hv⟩ := ih (i - 1) ((v.set (Int.toNat (i : Int)) v[i - 1]).set (Int.toNat ((i - 1 : Nat) : Int)) v[i]) (by simp; omega) (by omega) (by simpa using hl)
        exact ⟨v', j, e, by simpa using hv⟩
theorem keys_L0 {t : T} (hl : t.f.length ≤ 1000) (hf : 1048576 < fl) : ∀ (fuel i : Nat) (v : List K), i ≤ t.f.length → t.f.length - i < fuel → v.length ≤ i → ∃ v' j, s_KeysOf_L0 fl t fuel v i = some (.out (v', j)) := by
  intro fuel
  induction fuel with
  | zero => intro i v _ h; omega
  | succ fuel ih =>
    intro i v hi hfu hv
    rw [s_KeysOf_L0.eq_2]
    unfold s_TableValid
    by_cases h : i < t.f.length
    · rw [decide_eq_true (by omega : (i : Int) < (t.f.length : Int)), cot]
      simp only [obs]
      cases tableOk t with
      | false => rw [cof]; exact ⟨_, _, rfl⟩
      | true =>
        rw [cot, idx_nat h, ck_succ (by omega)]
        simp only [obs]
        cases t.f[i].u with
        | false =>
          simp only [Bool.not_false, cot]
          exact ih (i + 1) v (by omega) (by omega) (by omega)
        | true =>
          simp only [Bool.not_true, cof]
          rw [cnt_in (by simp; omega)]
          simp only [obs]
          have hck : ck (((v ++ [t.f[i].k]).length : Int) - 1) = some (v.length : Int) := by rw [ck_in (by simp; omega)]; congr 1; simp
          rw [hck]
          simp only [obs]
          obtain ⟨v', j, e, hv'⟩ := keys_L1 (fl := fl) fl v.length (v ++ [t.f[i].k]) (by simp) (by omega) (by simp; omega)
          rw [e]
          simp only [obs]
          exact ih (i + 1) v' (by omega) (by omega) (by rw [hv']; simp; omega)
    · rw [decide_eq_false (by omega : ¬ (i : Int) < (t.f.length : Int))]
      simp only [cof, obs]
      exact ⟨_, _, rfl⟩
theorem keys_some {t : T} (hl : t.f.length ≤ 1000) (hf : 1048576 < fl) : ∃ L, s_KeysOf fl t = some L := by
  unfold s_KeysOf
  obtain ⟨v', j, e⟩ := keys_L0 (fl := fl) hl hf fl 0 [] (by omega) (by omega) (by simp)
  rw [show ((0 : Nat) : Int) = 0 from rfl] at e
  rw [e]
  simp only [obs]
  exact ⟨_, rfl⟩
theorem at3_eq {l : List UInt8} (hl : l.length ≤ 2000) (hf : 1048576 < fl) : ∃ t k p', s_l3At fl l 0 = some (t, k, p') ∧ (t.b.length + t.f.length ≤ 100 ∧ t.f.length ≤ 12) ∧ 0 ≤ p' ∧ p' ≤ 2000000 := by
  unfold s_l3At
  obtain ⟨t, p1, e1, s1, a1, b1⟩ := draw3_eq (fl := fl) hl hf (p := 0) (by omega) (by omega)
  rw [e1]
  simp only [obs]
  obtain ⟨L, e2⟩ := keys_some (fl := fl) (t := t) (by have := s1.2.2.2; omega) hf
  rw [e2]
  simp only [obs]
  obtain ⟨k, p3, e3, a3, b3⟩ := case2_eq (fl := fl) a1 (by omega) hl
  rw [e3]
  simp only [obs]
  cases hL : decide (0 < (L.length : Int)) with
  | true =>
    obtain ⟨q, e4, _, _⟩ := pick_eq (fl := fl) (p := p3) (n := 3) (by omega) (by omega) hl
    simp only [cot, e4, obs]
    cases decide (0 < q) with
    | true =>
      rw [cot]
      have hL' := of_decide_eq_true hL
      obtain ⟨r, e5, hr, _⟩ := pick_eq (fl := fl) (p := p3 + 1) (n := (L.length : Int)) (by omega) (by omega) hl
      rw [e5]
      simp only [obs]
      obtain ⟨z, _, ez⟩ := idx_in (hr (by omega)).1 (hr (by omega)).2
      rw [ez]
      simp only [obs]
      obtain ⟨t', p5, e6, s6, a6, b6⟩ := wrong3_eq (fl := fl) hl (p := p3 + 1 + 1) (by omega) (by omega) s1
      rw [e6]
      simp only [obs]
      exact ⟨_, _, _, rfl, s6, a6, by omega⟩
    | false =>
      rw [cof]
      obtain ⟨t', p5, e6, s6, a6, b6⟩ := wrong3_eq (fl := fl) hl (p := p3 + 1) (by omega) (by omega) s1
      rw [e6]
      simp only [obs]
      exact ⟨_, _, _, rfl, s6, a6, by omega⟩
  | false =>
    simp only [cof, obs]
    obtain ⟨t', p5, e6, s6, a6, b6⟩ := wrong3_eq (fl := fl) hl (p := p3) (by omega) (by omega) s1
    rw [e6]
    simp only [obs]
    exact ⟨_, _, _, rfl, s6, a6, by omega⟩
theorem drawProt_eq (hf : 1048576 < fl) (l : List UInt8) : ∃ t k r, s_DrawProtectPage fl l = some (t, k, r) ∧ t.b.length + t.f.length ≤ 100 ∧ t.f.length ≤ 12 := by
  unfold s_DrawProtectPage
  have hl : (l.take 2000).length ≤ 2000 := by simp; omega
  obtain ⟨t, k, p', e, s, a, b⟩ := at3_eq (fl := fl) hl hf
  rw [e]
  simp only [obs]
  obtain ⟨x, _, e4⟩ := num_eq (fl := fl) (p := p') (L := [1, 0, 7, 4, 8]) (by omega) (by omega) hl (by simp)
  rw [e4]
  simp only [obs]
  exact ⟨_, _, _, rfl, s⟩
theorem drawUn_eq (hf : 1048576 < fl) (l : List UInt8) : ∃ t k, s_DrawUnmapPage fl l = some (t, k) ∧ t.b.length + t.f.length ≤ 100 ∧ t.f.length ≤ 12 := by
  unfold s_DrawUnmapPage
  have hl : (l.take 2000).length ≤ 2000 := by simp; omega
  obtain ⟨t, k, p', e, s, a, b⟩ := at3_eq (fl := fl) hl hf
  rw [e]
  simp only [obs]
  exact ⟨_, _, rfl, s⟩
end Go.Proofs.YtbhpohopfbcfgaaDoor
