/- Plain laws of the draws of tables. -/
import Derived.Test.YtbhpohopfbcfgaaDoorLp
import Derived.Test.YtbhpohopfbcfgaaDoorLg
set_option linter.unusedSimpArgs false
set_option linter.unusedVariables false
namespace Go.Proofs.YtbhpohopfbcfgaaDoor
open Go.RowKit
variable {fl : Nat}
theorem newB_L0 {n : Nat} (hn : n ≤ 1048576) : ∀ (fuel i : Nat), i ≤ n → n - i < fuel → s_NewTable_L0 fl (n : Int) fuel (List.replicate i (-1)) i = some (.out (List.replicate n (-1), (n : Int))) := by
  intro fuel
  induction fuel with
  | zero => intro i _ h; omega
  | succ fuel ih =>
    intro i hi hf
    rw [s_NewTable_L0.eq_2]
    by_cases h : i < n
    · rw [decide_eq_true (by omega : (i : Int) < (n : Int)), cot, cnt_in (by simp; omega), ck_succ (by omega)]
      simp only [obs]
      have := ih (i + 1) (by omega) (by omega)
      rw [List.replicate_succ'] at this
      exact this
    · have e : i = n := by omega
      subst e
      simp only [Int.lt_irrefl, decide_false, cof]
theorem newF_L1 {n : Nat} (hn : n ≤ 1048576) : ∀ (fuel i : Nat), i ≤ n → n - i < fuel → s_NewTable_L1 fl (n : Int) fuel (List.replicate i freeF) i = some (.out (List.replicate n freeF, (n : Int))) := by
  intro fuel
  induction fuel with
  | zero => intro i _ h; omega
  | succ fuel ih =>
    intro i hi hf
    rw [s_NewTable_L1.eq_2]
    by_cases h : i < n
    · rw [decide_eq_true (by omega : (i : Int) < (n : Int)), cot, cnt_in (by simp; omega), ck_succ (by omega)]
      simp only [obs]
      have := ih (i + 1) (by omega) (by omega)
      rw [List.replicate_succ'] at this
      exact this
    · have e : i = n := by omega
      subst e
      simp only [Int.lt_irrefl, decide_false, cof]
theorem sNewTable_eq {n m : Nat} (h1 : 1 ≤ n) (h2 : n ≤ 16) (h3 : 1 ≤ m) (h4 : m ≤ 16) (hf : 1048576 < fl) : s_NewTable fl n m = some (⟨List.replicate m (-1), List.replicate n freeF⟩, true) := by
  unfold s_NewTable s_l2Buckets
  rw [decide_eq_false (by omega : ¬ (n : Int) < 1), decide_eq_false (by omega : ¬ 16 < (n : Int)), decide_eq_true (by omega : 1 ≤ (m : Int)), decide_eq_true (by omega : (m : Int) ≤ 16)]
  simp only [cof, cot, obs, Bool.not_true]
  have e1 := newB_L0 (fl := fl) (n := m) (by omega) fl 0 (by omega) (by omega)
  have e2 := newF_L1 (fl := fl) (n := n) (by omega) fl 0 (by omega) (by omega)
  rw [show ((0 : Nat) : Int) = 0 from rfl, List.replicate_zero] at e1 e2
  rw [e1]
  simp only [obs]
  rw [e2]
  simp only [obs]
/-- the sizes of what is drawn -/
def Sz (t : T) : Prop := 1 ≤ t.b.length ∧ t.b.length ≤ 16 ∧ 1 ≤ t.f.length ∧ t.f.length ≤ 8
theorem mapR_sz {t : T} {k : K} {fr r : Int} (h : Sz t) (hy : (mapR t k fr r).2 = true) : Sz (mapR t k fr r).1 := by
  unfold mapR at hy ⊢
  split
  · obtain ⟨a, b, c, d⟩ := h; unfold Sz mapT; simp; omega
  · rename_i hn; rw [if_neg hn] at hy; cases hy
theorem unmapR_sz {t : T} {k : K} (h : Sz t) (hy : (unmapR t k).2 = true) : Sz (unmapR t k).1 := by
  unfold unmapR at hy ⊢
  split
  · obtain ⟨a, b, c, d⟩ := h
    unfold Sz unmapT
    simp only []
    split <;> simp [unl_len] <;> omega
  · rename_i hn; rw [if_neg hn] at hy; cases hy
theorem draw3_L0 {l : List UInt8} (hl : l.length ≤ 2000) (hf : 1048576 < fl) : ∀ (fuel n : Nat) (p : Int) (b : List Int) (f : List F), n < fuel → n ≤ 100 → Sz ⟨b, f⟩ → 0 ≤ p → p ≤ 1000000 - 10 * (n : Int) →
    ∃ p' b' f' m, s_l3Draw_L0 fl l fuel p b f n = some (.out (p', b', f', m)) ∧ Sz ⟨b', f'⟩ ∧ 0 ≤ p' ∧ p' ≤ 1000000 := by
  intro fuel
  induction fuel with
  | zero => intro n p b f h; omega
  | succ fuel ih =>
    intro n p b f hn hn2 hsz hp hp2
    rw [s_l3Draw_L0.eq_2]
    by_cases h0 : n = 0
    · subst h0
      simp only [show decide (0 < ((0 : Nat) : Int)) = false from rfl, cof]
      exact ⟨_, _, _, _, rfl, hsz, hp, by omega⟩
    · rw [decide_eq_true (by omega : 0 < (n : Int)), cot]
      have hck : ck ((n : Int) - 1) = some ((n - 1 : Nat) : Int) := by rw [ck_in (by omega)]; congr 1; omega
      rw [hck]
      obtain ⟨k, e1⟩ := draw2_eq (fl := fl) hp (by omega) hl
      rw [e1]
      simp only [obs]
      obtain ⟨r, e2, _, _⟩ := pick_eq (fl := fl) (p := p + 2) (n := (f.length : Int)) (by omega) (by omega) hl
      rw [e2]
      simp only [obs]
      obtain ⟨x, _, e3⟩ := num_eq (fl := fl) (p := p + 2 + 1) (L := [3, 1, 7, 5, 0]) (by omega) (by omega) hl (by simp)
      rw [e3]
      simp only [obs]
      rw [sMap_eq hf]
      simp only [obs]
      obtain ⟨q, e4, _, _⟩ := pick_eq (fl := fl) (p := p + 2 + 1 + 1) (n := 8) (by omega) (by omega) hl
      rw [e4]
      simp only [obs]
      have hstep : ∀ (t : T), Sz t → ∃ p' b' f' m, (cond (q == 0)
          (Option.bind (s_l2Draw fl l (p + 2 + 1 + 1 + 1)) fun x52 => Option.bind (s_UnmapPage fl t x52.1) fun x53 =>
            cond x53.2 (s_l3Draw_L0 fl l fuel x52.2 x53.1.b x53.1.f ((n - 1 : Nat) : Int)) (s_l3Draw_L0 fl l fuel x52.2 t.b t.f ((n - 1 : Nat) : Int)))
          (s_l3Draw_L0 fl l fuel (p + 2 + 1 + 1 + 1) t.b t.f ((n - 1 : Nat) : Int))) = some (.out (p', b', f', m)) ∧ Sz ⟨b', f'⟩ ∧ 0 ≤ p' ∧ p' ≤ 1000000 := by
        intro t ht
        cases (q == 0) with
        | true =>
          rw [cot]
          obtain ⟨k2, e5⟩ := draw2_eq (fl := fl) (p := p + 2 + 1 + 1 + 1) (by omega) (by omega) hl
          rw [e5]
          simp only [obs]
          rw [sUnmap_eq hf]
          simp only [obs]
          cases hu : (unmapR t k2).2 with
          | true =>
            rw [cot]
            exact ih (n - 1) _ _ _ (by omega) (by omega) (unmapR_sz ht hu) (by omega) (by omega)
          | false =>
            rw [cof]
            exact ih (n - 1) _ _ _ (by omega) (by omega) ht (by omega) (by omega)
        | false =>
          rw [cof]
          exact ih (n - 1) _ _ _ (by omega) (by omega) ht (by omega) (by omega)
      cases hm : (mapR ⟨b, f⟩ k r x).2 with
      | true => rw [cot]; exact hstep _ (mapR_sz hsz hm)
      | false => rw [cof]; exact hstep ⟨b, f⟩ hsz
theorem draw3_eq {l : List UInt8} (hl : l.length ≤ 2000) (hf : 1048576 < fl) {p : Int} (hp : 0 ≤ p) (hp2 : p ≤ 1000) : ∃ t p', s_l3Draw fl l p = some (t, p') ∧ Sz t ∧ 0 ≤ p' ∧ p' ≤ 1000000 := by
  unfold s_l3Draw
  obtain ⟨x, hx, e1⟩ := num_eq (fl := fl) (L := [6, 4, 8, 2, 1]) hp (by omega) hl (by simp)
  rw [e1]
  simp only [obs]
  obtain ⟨y, hy, e2⟩ := num_eq (fl := fl) (p := p + 1) (L := [4, 2, 8, 1, 3]) (by omega) (by omega) hl (by simp)
  rw [e2]
  simp only [obs]
  have hx' : 1 ≤ x ∧ x ≤ 8 := by simp at hx; omega
  have hy' : 1 ≤ y ∧ y ≤ 8 := by simp at hy; omega
  obtain ⟨a, rfl⟩ : ∃ a : Nat, x = a := ⟨x.toNat, by omega⟩
  obtain ⟨b, rfl⟩ : ∃ b : Nat, y = b := ⟨y.toNat, by omega⟩
  rw [sNewTable_eq (by omega) (by omega) (by omega) (by omega) hf]
  simp only [obs]
  obtain ⟨z, hz, e3⟩ := num_eq (fl := fl) (p := p + 1 + 1) (L := [4, 3, 6, 1, 0]) (by omega) (by omega) hl (by simp)
  rw [e3]
  simp only [obs]
  have hz' : 0 ≤ z ∧ z ≤ 6 := by simp at hz; omega
  obtain ⟨c, rfl⟩ : ∃ c : Nat, z = c := ⟨z.toNat, by omega⟩
  obtain ⟨p', b', f', m, e, s1, s2, s3⟩ := draw3_L0 (fl := fl) hl hf fl c (p + 1 + 1 + 1) (List.replicate b (-1)) (List.replicate a freeF) (by omega) (by omega) ⟨by simp; omega, by simp; omega, by simp; omega, by simp; omega⟩ (by omega) (by omega)
  rw [e]
  simp only [obs]
  exact ⟨_, _, rfl, s1, s2, s3⟩
theorem wrong3_eq {l : List UInt8} (hl : l.length ≤ 2000) {p : Int} (hp : 0 ≤ p) (hp2 : p ≤ 1001000) {t : T} (ht : Sz t) : ∃ t' p', s_l3Wrong fl l p t = some (t', p') ∧ (t'.b.length + t'.f.length ≤ 100 ∧ t'.f.length ≤ 12) ∧ 0 ≤ p' ∧ p' ≤ 1002000 := by
  obtain ⟨s1, s2, s3, s4⟩ := ht
  unfold s_l3Wrong
  rw [copy_eq (by omega)]
  simp only [obs]
  rw [show ((t.f.length : Int) == 0) = false from by rw [beq_eq_false_iff_ne]; omega, cof]
  obtain ⟨r, e1, hr, _⟩ := pick_eq (fl := fl) (n := (t.f.length : Int)) hp (by omega) hl
  rw [e1]
  simp only [obs]
  obtain ⟨q, e2, _, _⟩ := pick_eq (fl := fl) (p := p + 1) (n := 24) (by omega) (by omega) hl
  rw [e2]
  simp only [obs]
  obtain ⟨r0, r1⟩ := hr (by omega)
  obtain ⟨g, _, hg⟩ := idx_in r0 r1
  obtain ⟨hb, _, hhb⟩ := idx_in (l := t.b) (i := (0 : Int)) (Int.le_refl 0) (by omega : (0 : Int) < (t.b.length : Int))
  rw [hg, hhb]
  simp only [obs]
  cases (q == 0) with
  | true =>
    rw [cot]
    obtain ⟨y, _, e3⟩ := num_eq (fl := fl) (p := p + 1 + 1) (L := [0, r, 16, (-1)]) (by omega) (by omega) hl (by simp)
    rw [e3]
    simp only [obs]
    exact ⟨_, _, rfl, by simp; omega, by omega, by omega⟩
  | false =>
  rw [cof]
  cases (q == 1) with
  | true => rw [cot]; exact ⟨_, _, rfl, by simp; omega, by omega, by omega⟩
  | false =>
  rw [cof]
  cases (q == 2) with
  | true =>
    rw [cot]
    obtain ⟨y, _, e3⟩ := num_eq (fl := fl) (p := p + 1 + 1) (L := [0, (-1), 16, (-2)]) (by omega) (by omega) hl (by simp)
    rw [e3]
    simp only [obs]
    exact ⟨_, _, rfl, by simp; omega, by omega, by omega⟩
  | false =>
  rw [cof]
  cases (q == 3) with
  | true =>
    rw [cot]
    obtain ⟨k, e3⟩ := draw2_eq (fl := fl) (p := p + 1 + 1) (by omega) (by omega) hl
    rw [e3]
    simp only [obs]
    exact ⟨_, _, rfl, by simp; omega, by omega, by omega⟩
  | false =>
  rw [cof]
  cases (q == 4) with
  | true =>
    rw [cot, cnt_in (by simp; omega)]
    simp only [obs]
    exact ⟨_, _, rfl, by simp; omega, by omega, by omega⟩
  | false =>
  rw [cof]
  cases (q == 5) with
  | true => rw [cot]; exact ⟨_, _, rfl, by simp; omega, by omega, by omega⟩
  | false => rw [cof]; exact ⟨_, _, rfl, by omega, by omega, by omega⟩
theorem drawMap_eq (hf : 1048576 < fl) (l : List UInt8) : ∃ t k fr r, s_DrawMapPage fl l = some (t, k, fr, r) ∧ t.b.length + t.f.length ≤ 100 ∧ t.f.length ≤ 12 := by
  unfold s_DrawMapPage
  have hl : (l.take 2000).length ≤ 2000 := by simp; omega
  obtain ⟨t, p1, e1, s1, a1, b1⟩ := draw3_eq (fl := fl) hl hf (p := 0) (by omega) (by omega)
  rw [e1]
  simp only [obs]
  obtain ⟨t', p2, e2, s2, a2, b2⟩ := wrong3_eq (fl := fl) hl a1 (by omega) s1
  rw [e2]
  simp only [obs]
  obtain ⟨k, p3, e3, a3, b3⟩ := case2_eq (fl := fl) a2 (by omega) hl
  rw [e3]
  simp only [obs]
  obtain ⟨x, _, e4⟩ := num_eq (fl := fl) (p := p3) (L := [0, 1, 2, 3, 4, 5, (-1), 16]) (by omega) (by omega) hl (by simp)
  rw [e4]
  simp only [obs]
  obtain ⟨y, _, e5⟩ := num_eq (fl := fl) (p := p3 + 1) (L := [3, 7, 1, 8]) (by omega) (by omega) hl (by simp)
  rw [e5]
  simp only [obs]
  exact ⟨_, _, _, _, rfl, s2⟩
end Go.Proofs.YtbhpohopfbcfgaaDoor
