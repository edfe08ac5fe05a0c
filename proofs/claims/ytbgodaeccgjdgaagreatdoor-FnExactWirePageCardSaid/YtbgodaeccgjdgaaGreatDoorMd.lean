/- Plain words for caches, tags, machines and memories: what is valid, what is found, what each step yields. -/
import Derived.Test.YtbgodaeccgjdgaaGreatDoorLm
import Derived.Test.YtbgodaeccgjdgaaGreatDoorLd
set_option linter.unusedSimpArgs false
set_option linter.unusedVariables false
namespace Go.Proofs.YtbgodaeccgjdgaaGreatDoor
open Go.RowKit
/-- each of k places from i on -/
def upto (p : Nat → Bool) (i : Nat) : Nat → Bool
  | 0 => true
  | k + 1 => p i && upto p (i + 1) k
theorem upto_iff {p : Nat → Bool} : ∀ {k i : Nat}, upto p i k = true ↔ ∀ j, i ≤ j → j < i + k → p j = true
  | 0, i => ⟨fun _ j h1 h2 => by omega, fun _ => rfl⟩
  | k + 1, i => by
    rw [upto, Bool.and_eq_true, upto_iff]
    constructor
    · rintro ⟨h0, h1⟩ j hj hk
      by_cases e : j = i
      · subst e; exact h0
      · exact h1 j (by omega) (by omega)
    · intro h
      exact ⟨h i (by omega) (by omega), fun j hj hk => h j (by omega) (by omega)⟩
/-- the first place from i on -/
def fx {α : Type} (p : α → Bool) : List α → Nat → Int
  | [], _ => -1
  | x :: l, i => if p x then (i : Int) else fx p l (i + 1)
theorem fx_drop {α : Type} {p : α → Bool} {l : List α} {i : Nat} (h : i < l.length) : fx p (l.drop i) i = if p l[i] then (i : Int) else fx p (l.drop (i + 1)) (i + 1) := by
  rw [List.drop_eq_getElem_cons h, fx]
theorem fx_end {α : Type} {p : α → Bool} {l : List α} {i : Nat} (h : l.length ≤ i) : fx p (l.drop i) i = -1 := by
  rw [List.drop_eq_nil_of_le h, fx]
theorem fx_spec {α : Type} {p : α → Bool} : ∀ {l : List α} {i : Nat}, (fx p l i = -1 ∧ ∀ x ∈ l, p x = false) ∨ ∃ j, ∃ h : j < l.length, fx p l i = ((i + j : Nat) : Int) ∧ p l[j] = true ∧ ∀ m, (hm : m < j) → p (l[m]'(by omega)) = false
  | [], i => .inl ⟨rfl, by simp⟩
  | x :: l, i => by
    by_cases hx : p x = true
    · right
      exact ⟨0, by simp, by rw [fx, if_pos hx]; simp, hx, fun m hm => by omega⟩
    · have hx' : p x = false := by simpa using hx
      rcases fx_spec (p := p) (l := l) (i := i + 1) with ⟨h, h'⟩ | ⟨j, hj, h, h1, h2⟩
      · left
        refine ⟨by rw [fx, if_neg hx]; exact h, fun y hy => ?_⟩
        rcases List.mem_cons.1 hy with e | e
        · rw [e]; exact hx'
        · exact h' y e
      · right
        refine ⟨j + 1, by simpa using hj, by rw [fx, if_neg hx, h]; congr 1; omega, by simpa using h1, fun m hm => ?_⟩
        rcases m with _ | m
        · exact hx'
        · exact h2 m (by omega)
theorem fx_bd {α : Type} {p : α → Bool} {l : List α} : -1 ≤ fx p l 0 ∧ fx p l 0 < (l.length : Int) := by
  rcases fx_spec (p := p) (l := l) (i := 0) with ⟨h, _⟩ | ⟨j, hj, h, _⟩ <;> rw [h] <;> omega
theorem fx_none {α : Type} {p : α → Bool} {l : List α} (h : fx p l 0 < 0) : ∀ x ∈ l, p x = false := by
  rcases fx_spec (p := p) (l := l) (i := 0) with ⟨_, h'⟩ | ⟨j, hj, h', _⟩
  · exact h'
  · rw [h'] at h; omega
theorem fx_at {α : Type} {p : α → Bool} {l : List α} (h : 0 ≤ fx p l 0) : ∃ j, ∃ hj : j < l.length, fx p l 0 = (j : Int) ∧ p l[j] = true := by
  rcases fx_spec (p := p) (l := l) (i := 0) with ⟨e, _⟩ | ⟨j, hj, h', h1, _⟩
  · rw [e] at h; omega
  · exact ⟨j, hj, by rw [h']; congr 1; omega, h1⟩

/-! ### lines and caches -/
def lnZ : Ln := ⟨false, 0, 0, 0, 0, false⟩
def tagIn (t : Int) : Bool := decide (-1 ≤ t) && decide (t < 8)
def lineOk (x : Ln) : Bool := cond x.va (tagIn x.tg && within x.pg 256 && within x.fr 16 && rightsOk x.ri) (x == lnZ)
def clash (x y : Ln) : Bool := x.va && y.va && (x.pg == y.pg) && (x.tg == y.tg || x.tg == -1 || y.tg == -1)
def lnAt (l : List Ln) (i : Nat) : Ln := l.getD i lnZ
theorem lnAt_lt {l : List Ln} {i : Nat} (h : i < l.length) : lnAt l i = l[i] := by simp [lnAt, h]
def lineGood (l : List Ln) (i : Nat) : Bool := lineOk (lnAt l i) && upto (fun j => !clash (lnAt l i) (lnAt l j)) 0 i
def cacheOk (c : Ca) : Bool := decide (1 ≤ c.l.length) && decide (c.l.length ≤ 8) && within c.h c.l.length && upto (lineGood c.l) 0 c.l.length && !upto (fun i => (lnAt c.l i).wi) 0 c.l.length
def fits (tag page : Int) (x : Ln) : Bool := x.va && (x.pg == page) && (x.tg == tag || x.tg == -1)

/-! ### tags -/
def owZ : Ow := ⟨0, 0⟩
def owAt (l : List Ow) (i : Nat) : Ow := l.getD i owZ
theorem owAt_lt {l : List Ow} {i : Nat} (h : i < l.length) : owAt l i = l[i] := by simp [owAt, h]
def prevTag (l : List Ow) : Nat → Int
  | 0 => -1
  | i + 1 => (owAt l i).tg
def ownGood (t : Tg) (i : Nat) : Bool := decide (prevTag t.o i < (owAt t.o i).tg) && decide ((owAt t.o i).tg < t.n) && within (owAt t.o i).sp 16 && upto (fun j => !((owAt t.o j).sp == (owAt t.o i).sp)) 0 i
def tagsOk (t : Tg) : Bool := decide (1 ≤ t.c) && decide (t.c ≤ 8) && decide (0 ≤ t.n) && decide (t.n ≤ t.c) && decide (0 ≤ t.r) && decide (t.r ≤ 1000000) && upto (ownGood t) 0 t.o.length
def ownF (t : Tg) (sp : Int) : Int := fx (fun o : Ow => o.sp == sp) t.o 0
def spF (t : Tg) (tag : Int) : Int := fx (fun o : Ow => o.tg == tag) t.o 0

/-! ### machines -/
def keyFor (sp pg : Int) : K := cond (decide (128 ≤ pg)) ⟨0, pg⟩ ⟨sp, pg⟩
def frameFits (f : F) : Bool := !(f.u && decide (128 ≤ f.k.p) && !(f.k.s == 0))
def lineSpace (m : Mc) (x : Ln) : Int := cond (x.tg == -1) 0 (owAt m.g.o (spF m.g x.tg).toNat).sp
noncomputable def lineHas (m : Mc) (x : Ln) : Bool :=
  (decide (128 ≤ x.pg) == (x.tg == -1)) && (!x.wi || x.tg == -1) && (x.tg == -1 || decide (0 ≤ spF m.g x.tg)) &&
  decide (0 ≤ findF m.t.f (keyFor (lineSpace m x) x.pg)) && (findF m.t.f (keyFor (lineSpace m x) x.pg) == x.fr) && ((m.t.f.getD (findF m.t.f (keyFor (lineSpace m x) x.pg)).toNat freeF).r == x.ri)
noncomputable def machineOk (m : Mc) : Bool := tableOk m.t && cacheOk m.c && tagsOk m.g && decide (0 ≤ ownF m.g m.s) && upto (fun i => frameFits (m.t.f.getD i freeF)) 0 m.t.f.length && upto (fun i => !(lnAt m.c.l i).va || lineHas m (lnAt m.c.l i)) 0 m.c.l.length
def mc0 : Mc := ⟨⟨[], []⟩, ⟨[], 0⟩, ⟨0, 0, 0, []⟩, 0⟩
end Go.Proofs.YtbgodaeccgjdgaaGreatDoor
