/- Plain facts on caches and tags. -/
import Derived.Test.YtbgodaeccgjdgaaGreatDoorMd
set_option linter.unusedSimpArgs false
set_option linter.unusedVariables false
namespace Go.Proofs.YtbgodaeccgjdgaaGreatDoor
open Go.RowKit
structure CO (c : Ca) : Prop where
  n1 : 1 ≤ c.l.length
  n2 : c.l.length ≤ 8
  h0 : 0 ≤ c.h
  h1 : c.h < (c.l.length : Int)
  ok : ∀ i, i < c.l.length → lineOk (lnAt c.l i) = true
  cl : ∀ i, i < c.l.length → ∀ j, j < i → clash (lnAt c.l i) (lnAt c.l j) = false
  un : ∃ i, i < c.l.length ∧ (lnAt c.l i).wi = false
theorem cacheOk_iff {c : Ca} : cacheOk c = true ↔ CO c := by
  unfold cacheOk
  simp only [Bool.and_eq_true, decide_eq_true_eq, within_iff, Bool.not_eq_true', upto_iff, Nat.zero_add, lineGood]
  constructor
  · rintro ⟨⟨⟨⟨a, b⟩, d, e⟩, f⟩, g⟩
    refine ⟨a, b, d, e, fun i hi => (f i (by omega) hi).1, fun i hi j hj => ?_, ?_⟩
    · have := (f i (by omega) hi).2 j (by omega) hj
      simpa using this
    · have g' : ¬ upto (fun i => (lnAt c.l i).wi) 0 c.l.length = true := by rw [g]; simp
      rw [upto_iff] at g'
      apply Classical.byContradiction
      intro hn
      apply g'
      intro j _ hj
      have : ¬ (lnAt c.l j).wi = false := fun e => hn ⟨j, by omega, e⟩
      simpa using this
  · rintro ⟨a, b, d, e, f, g, i, hi, hw⟩
    refine ⟨⟨⟨⟨a, b⟩, d, e⟩, fun i _ hi => ⟨f i hi, fun j _ hj => by rw [g i hi j hj]⟩⟩, ?_⟩
    apply Bool.eq_false_iff.2
    intro hu
    rw [upto_iff] at hu
    have := hu i (by omega) (by omega)
    rw [hw] at this
    cases this

/-! ### the victim -/
def clk (l : List Ln) (i : Nat) : Nat → Nat
  | 0 => i
  | k + 1 => cond (lnAt l i).wi (clk l ((i + 1) % l.length) k) i
theorem clk_lt {l : List Ln} (hn : 0 < l.length) : ∀ {k i : Nat}, i < l.length → clk l i k < l.length
  | 0, i, h => h
  | k + 1, i, h => by
    rw [clk]
    cases (lnAt l i).wi with
    | true => rw [cot]; exact clk_lt hn (Nat.mod_lt _ hn)
    | false => rw [cof]; exact h
def vict (c : Ca) : Nat := if 0 ≤ fx (fun x : Ln => !x.va) c.l 0 then (fx (fun x : Ln => !x.va) c.l 0).toNat else clk c.l c.h.toNat c.l.length
theorem vict_lt {c : Ca} (h : CO c) : vict c < c.l.length := by
  have hb := fx_bd (p := fun x : Ln => !x.va) (l := c.l)
  have h0 := h.h0
  have h1 := h.h1
  have h2 := h.n1
  unfold vict
  split
  · omega
  · exact clk_lt (by omega) (by omega)
theorem reach_ex {n i j : Nat} (hi : i < n) (hj : j < n) : ∃ d, d < n ∧ (i + d) % n = j := by
  by_cases h : i ≤ j
  · exact ⟨j - i, by omega, by rw [show i + (j - i) = j by omega]; exact Nat.mod_eq_of_lt hj⟩
  · exact ⟨j + n - i, by omega, by rw [show i + (j + n - i) = j + n by omega, Nat.add_mod_right]; exact Nat.mod_eq_of_lt hj⟩

def fillC (c : Ca) (x : Ln) : Ca := ⟨c.l.set (vict c) x, cond (lnAt c.l (vict c)).va (((vict c + 1) % c.l.length : Nat) : Int) c.h⟩
theorem lnAt_set {l : List Ln} {i j : Nat} {x : Ln} (h : j < l.length) : lnAt (l.set i x) j = if i = j then x else lnAt l j := by
  rw [lnAt_lt (by simpa using h), lnAt_lt h, List.getElem_set]
theorem clash_symm {x y : Ln} : clash x y = clash y x := by
  unfold clash
  rw [Bool.eq_iff_iff]
  simp only [Bool.and_eq_true, Bool.or_eq_true, beq_iff_eq]
  constructor <;> rintro ⟨⟨⟨a, b⟩, d⟩, (e | e) | e⟩ <;> refine ⟨⟨⟨b, a⟩, d.symm⟩, ?_⟩ <;> simp [e]
theorem fill_ok {c : Ca} {x : Ln} (h : CO c) (hx : lineOk x = true) (hw : x.wi = false) (hn : fx (fits x.tg x.pg) c.l 0 < 0) (hs : ∀ i, i < c.l.length → (lnAt c.l i).va = true → (lnAt c.l i).pg = x.pg → x.tg = -1 → (lnAt c.l i).tg = -1) : CO (fillC c x) := by
  have hv := vict_lt h
  have hno := fx_none hn
  have hcl : ∀ i, i < c.l.length → clash x (lnAt c.l i) = false := by
    intro i hi
    have h1 := hno _ (List.getElem_mem hi)
    rw [← lnAt_lt hi] at h1
    apply Bool.eq_false_iff.2
    intro hc
    unfold clash at hc
    unfold fits at h1
    simp only [Bool.and_eq_true, Bool.or_eq_true, beq_iff_eq] at hc
    obtain ⟨⟨⟨a, b⟩, d⟩, e⟩ := hc
    have hq : ((lnAt c.l i).tg == x.tg || (lnAt c.l i).tg == -1) = true := by
      rcases e with (e | e) | e
      · simp [e]
      · simp [hs i hi b d.symm e]
      · simp [e]
    rw [b, hq, d] at h1
    simp at h1
  refine ⟨by simpa [fillC] using h.n1, by simpa [fillC] using h.n2, ?_, ?_, fun i hi => ?_, fun i hi j hj => ?_, ?_⟩
  · simp only [fillC]
    cases (lnAt c.l (vict c)).va with
    | true => rw [cot]; omega
    | false => rw [cof]; exact h.h0
  · simp only [fillC, List.length_set]
    cases (lnAt c.l (vict c)).va with
    | true =>
      rw [cot]
      have := Nat.mod_lt (vict c + 1) (show 0 < c.l.length from h.n1)
      omega
    | false => rw [cof]; exact h.h1
  · simp only [fillC, List.length_set] at hi ⊢
    rw [lnAt_set hi]
    split
    · exact hx
    · exact h.ok i hi
  · simp only [fillC, List.length_set] at hi ⊢
    rw [lnAt_set hi, lnAt_set (by omega)]
    split
    · split
      · omega
      · exact hcl j (by omega)
    · split
      · rw [clash_symm]; exact hcl i hi
      · exact h.cl i hi j hj
  · refine ⟨vict c, by simpa [fillC] using hv, ?_⟩
    simp only [fillC]
    rw [lnAt_set hv, if_pos rfl, hw]

/-! ### tags -/
structure GO (t : Tg) : Prop where
  c1 : 1 ≤ t.c
  c2 : t.c ≤ 8
  n1 : 0 ≤ t.n
  n2 : t.n ≤ t.c
  r1 : 0 ≤ t.r
  r2 : t.r ≤ 1000000
  pt : ∀ i, i < t.o.length → prevTag t.o i < (owAt t.o i).tg
  tn : ∀ i, i < t.o.length → (owAt t.o i).tg < t.n
  s1 : ∀ i, i < t.o.length → 0 ≤ (owAt t.o i).sp ∧ (owAt t.o i).sp < 16
  sd : ∀ i, i < t.o.length → ∀ j, j < i → (owAt t.o j).sp ≠ (owAt t.o i).sp
theorem tagsOk_iff {t : Tg} : tagsOk t = true ↔ GO t := by
  unfold tagsOk
  simp only [Bool.and_eq_true, decide_eq_true_eq, within_iff, upto_iff, Nat.zero_add, ownGood]
  constructor
  · rintro ⟨⟨⟨⟨⟨⟨a, b⟩, d⟩, e⟩, f⟩, g⟩, h⟩
    refine ⟨a, b, d, e, f, g, fun i hi => (h i (by omega) hi).1.1.1, fun i hi => (h i (by omega) hi).1.1.2, fun i hi => (h i (by omega) hi).1.2, fun i hi j hj => ?_⟩
    have := (h i (by omega) hi).2 j (by omega) hj
    simpa using this
  · rintro ⟨a, b, d, e, f, g, h1, h2, h3, h4⟩
    refine ⟨⟨⟨⟨⟨⟨a, b⟩, d⟩, e⟩, f⟩, g⟩, fun i _ hi => ⟨⟨⟨h1 i hi, h2 i hi⟩, h3 i hi⟩, fun j _ hj => ?_⟩⟩
    have := h4 i hi j hj
    simpa using this
theorem GO.ge {t : Tg} (h : GO t) : ∀ i, i < t.o.length → (i : Int) ≤ (owAt t.o i).tg
  | 0, hi => by have := h.pt 0 hi; simp only [prevTag] at this; omega
  | i + 1, hi => by
    have h1 := h.pt (i + 1) hi
    have h2 := h.ge i (by omega)
    simp only [prevTag] at h1
    omega
theorem GO.len {t : Tg} (h : GO t) : (t.o.length : Int) ≤ t.n := by
  rcases Nat.eq_zero_or_pos t.o.length with e | e
  · rw [e]; exact h.n1
  · have h1 := h.ge (t.o.length - 1) (by omega)
    have h2 := h.tn (t.o.length - 1) (by omega)
    omega
end Go.Proofs.YtbgodaeccgjdgaaGreatDoor
