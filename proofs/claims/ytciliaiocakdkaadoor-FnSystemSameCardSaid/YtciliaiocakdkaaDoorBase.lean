/- Words for values in memory that every later text uses: data types of the program as Lean structures, how they lie in cells, what it means that a slice value reads as a list, and that it owns new memory. -/
import Derived.WalkKit
import Derived.WalkSpells
import Derived.Lib.Hide
import Derived.Deep.QuietTactic
import Derived.BigQuiet
namespace Go.Proofs.YtciliaiocakdkaaDoor
open Go.RowKit

/-! ### data -/
structure K where
  s : Int
  p : Int
deriving DecidableEq, Inhabited

structure F where
  u : Bool
  k : K
  r : Int
  nx : Int
deriving DecidableEq, Inhabited

structure Ln where
  va : Bool
  tg : Int
  pg : Int
  fr : Int
  ri : Int
  wi : Bool
deriving DecidableEq, Inhabited

structure Ow where
  sp : Int
  tg : Int
deriving DecidableEq, Inhabited

structure Nt where
  k : K
  fr : Int
deriving DecidableEq, Inhabited

structure T where
  b : List Int
  f : List F
deriving DecidableEq, Inhabited

/-! ### how data lies in cells -/
class Enc (α : Type) where
  sz : Nat
  cells : α → List Value
  len : ∀ a, (cells a).length = sz
  one : ∀ a, ∀ u ∈ cells a, u.oneCell' = true

instance encInt : Enc Int := ⟨1, fun n => [.int .i64 n], fun _ => rfl, by intro a u hu; simp at hu; subst hu; rfl⟩
instance encBool : Enc Bool := ⟨1, fun n => [.bool n], fun _ => rfl, by intro a u hu; simp at hu; subst hu; rfl⟩
instance encK : Enc K := ⟨2, fun k => [.int .i64 k.s, .int .i64 k.p], fun _ => rfl, by intro a u hu; simp at hu; rcases hu with rfl | rfl <;> rfl⟩
instance encF : Enc F := ⟨5, fun f => [.bool f.u, .int .i64 f.k.s, .int .i64 f.k.p, .int .i64 f.r, .int .i64 f.nx], fun _ => rfl, by
  intro a u hu; simp at hu; rcases hu with rfl | rfl | rfl | rfl | rfl <;> rfl⟩

instance encLn : Enc Ln := ⟨6, fun x => [.bool x.va, .int .i64 x.tg, .int .i64 x.pg, .int .i64 x.fr, .int .i64 x.ri, .bool x.wi], fun _ => rfl, by
  intro a u hu; simp at hu; rcases hu with rfl | rfl | rfl | rfl | rfl | rfl <;> rfl⟩
instance encOw : Enc Ow := ⟨2, fun x => [.int .i64 x.sp, .int .i64 x.tg], fun _ => rfl, by intro a u hu; simp at hu; rcases hu with rfl | rfl <;> rfl⟩
instance encNt : Enc Nt := ⟨3, fun x => [.int .i64 x.k.s, .int .i64 x.k.p, .int .i64 x.fr], fun _ => rfl, by intro a u hu; simp at hu; rcases hu with rfl | rfl | rfl <;> rfl⟩

def Ln.v (x : Ln) : Value := .agg #[.bool x.va, .int .i64 x.tg, .int .i64 x.pg, .int .i64 x.fr, .int .i64 x.ri, .bool x.wi]
def Ow.v (x : Ow) : Value := .agg #[.int .i64 x.sp, .int .i64 x.tg]
def Nt.v (x : Nt) : Value := .agg #[.int .i64 x.k.s, .int .i64 x.k.p, .int .i64 x.fr]
def K.v (k : K) : Value := .agg #[.int .i64 k.s, .int .i64 k.p]
def F.v (f : F) : Value := .agg #[.bool f.u, .int .i64 f.k.s, .int .i64 f.k.p, .int .i64 f.r, .int .i64 f.nx]

def cellsL {α : Type} [Enc α] (l : List α) : List Value := l.flatMap Enc.cells

theorem cellsL_length {α : Type} [Enc α] (l : List α) : (cellsL l).length = l.length * Enc.sz α := by
  induction l with
  | nil => simp [cellsL]
  | cons a l ih => simp only [cellsL, List.flatMap_cons, List.length_append, Enc.len, List.length_cons] at *; rw [ih]; rw [Nat.add_mul]; omega

theorem cellsL_append {α : Type} [Enc α] (l m : List α) : cellsL (l ++ m) = cellsL l ++ cellsL m := by simp [cellsL]

theorem cellsL_at {α : Type} [Enc α] (l : List α) (k i : Nat) (hi : i < Enc.sz α) : (cellsL l)[k * Enc.sz α + i]? = (l[k]?).bind fun a => (Enc.cells a)[i]? := by
  induction l generalizing k with
  | nil => simp [cellsL]
  | cons a l ih =>
    cases k with
    | zero =>
      simp only [cellsL, List.flatMap_cons, Nat.zero_mul, Nat.zero_add, List.getElem?_cons_zero, Option.bind_some]
      rw [List.getElem?_append_left (by rw [Enc.len]; exact hi)]
    | succ k =>
      simp only [cellsL, List.flatMap_cons, List.getElem?_cons_succ]
      rw [List.getElem?_append_right (by rw [Enc.len, Nat.add_mul]; omega), Enc.len]
      rw [show (k + 1) * Enc.sz α + i - Enc.sz α = k * Enc.sz α + i from by rw [Nat.add_mul]; omega]
      exact ih k

/-! ### a slice that reads as a list -/
def Rd {α : Type} [Enc α] (w : World) (v : Value) (l : List α) : Prop :=
  ∃ ao cap, v = .slice ao l.length cap ∧ l.length ≤ cap ∧ cap ≤ maxLen ∧ (ao = none → cap = 0) ∧
    ∀ j u, (cellsL l)[j]? = some u → ∃ b o, ao = some ⟨b, o, none⟩ ∧ w.cell? ⟨b, o + j, none⟩ = some u

theorem Rd.below {α : Type} [Enc α] {w w' : World} {v : Value} {l : List α} (h : Rd w v l) (hb : Below w.heap.size w w') : Rd w' v l := by
  obtain ⟨ao, cap, rfl, h1, h2, h3, h4⟩ := h
  refine ⟨ao, cap, rfl, h1, h2, h3, fun j u hu => ?_⟩
  obtain ⟨b, o, rfl, hc⟩ := h4 j u hu
  exact ⟨b, o, rfl, (hb.cell (World.block_lt_of_cell? _ _ hc)).trans hc⟩

/-- the cells of element k, opened -/
theorem Rd.elem {α : Type} [Enc α] {w : World} {ao : Option Addr} {n cap : Nat} {l : List α} (h : Rd w (.slice ao n cap) l) (k : Nat) (hk : k < l.length) (hs : 0 < Enc.sz α) :
    ∃ b o, ao = some ⟨b, o, none⟩ ∧ ∀ i, i < Enc.sz α → w.cell? ⟨b, o + (k * Enc.sz α + i), none⟩ = (Enc.cells l[k])[i]? := by
  obtain ⟨ao', cap', he, h1, h2, h3, h4⟩ := h
  simp only [Value.slice.injEq] at he
  obtain ⟨rfl, rfl, rfl⟩ := he
  have g : ∀ i, i < Enc.sz α → (cellsL l)[k * Enc.sz α + i]? = (Enc.cells l[k])[i]? := fun i hi => by
    rw [cellsL_at l k i hi]; simp [hk]
  have g2 : ∀ i, (hi : i < Enc.sz α) → (Enc.cells l[k])[i]? = some ((Enc.cells l[k])[i]'(by rw [Enc.len]; exact hi)) := fun i hi => List.getElem?_eq_getElem _
  obtain ⟨b, o, rfl, _⟩ := h4 _ _ ((g 0 hs).trans (g2 0 hs))
  refine ⟨b, o, rfl, fun i hi => ?_⟩
  obtain ⟨b', o', he', hc⟩ := h4 _ _ ((g i hi).trans (g2 i hi))
  simp only [Option.some.injEq, Addr.mk.injEq, and_true] at he'
  obtain ⟨rfl, rfl⟩ := he'
  rw [hc, g2 i hi]

theorem Rd.len {α : Type} [Enc α] {w : World} {ao : Option Addr} {n cap : Nat} {l : List α} (h : Rd w (.slice ao n cap) l) : n = l.length := by
  obtain ⟨ao', cap', he, _⟩ := h
  simp only [Value.slice.injEq] at he
  exact he.2.1

theorem Rd.le {α : Type} [Enc α] {w : World} {v : Value} {l : List α} (h : Rd w v l) : l.length ≤ 9223372036854775807 := by
  obtain ⟨ao', cap', he, h1, h2, _⟩ := h
  simp only [maxLen] at h2
  omega

theorem Rd.intAt {w : World} {ao : Option Addr} {n cap : Nat} {l : List Int} (h : Rd w (.slice ao n cap) l) (k : Nat) (hk : k < l.length) :
    ∃ b o, ao = some ⟨b, o, none⟩ ∧ w.cell? ⟨b, o + k, none⟩ = some (.int .i64 l[k]) := by
  obtain ⟨b, o, e, hc⟩ := h.elem k hk (by decide)
  refine ⟨b, o, e, ?_⟩
  have := hc 0 (by decide)
  simpa [Enc.sz, Enc.cells] using this

theorem Rd.frameAt {w : World} {ao : Option Addr} {n cap : Nat} {l : List F} (h : Rd w (.slice ao n cap) l) (k : Nat) (hk : k < l.length) :
    ∃ b o, ao = some ⟨b, o, none⟩ ∧ w.cell? ⟨b, o + k * 5, none⟩ = some (.bool l[k].u) ∧ w.cell? ⟨b, o + k * 5 + 1, none⟩ = some (.int .i64 l[k].k.s) ∧
      w.cell? ⟨b, o + k * 5 + 2, none⟩ = some (.int .i64 l[k].k.p) ∧ w.cell? ⟨b, o + k * 5 + 3, none⟩ = some (.int .i64 l[k].r) ∧ w.cell? ⟨b, o + k * 5 + 4, none⟩ = some (.int .i64 l[k].nx) := by
  obtain ⟨b, o, e, hc⟩ := h.elem k hk (by decide)
  refine ⟨b, o, e, ?_⟩
  have h0 := hc 0 (by decide)
  have h1 := hc 1 (by decide)
  have h2 := hc 2 (by decide)
  have h3 := hc 3 (by decide)
  have h4 := hc 4 (by decide)
  simp only [Enc.sz, Enc.cells, ← Nat.add_assoc, Nat.add_zero, List.getElem?_cons_zero, List.getElem?_cons_succ] at h0 h1 h2 h3 h4
  exact ⟨h0, h1, h2, h3, h4⟩

theorem bcell {W w1 : World} (hb : Below W.heap.size W w1) : (∀ b o, b < W.heap.size → w1.cell? ⟨b, o, none⟩ = W.cell? ⟨b, o, none⟩) ∧ (∀ b o, b < W.heap.size → w1.frozen? ⟨b, o, none⟩ = W.frozen? ⟨b, o, none⟩) :=
  ⟨fun b o h => hb.cell (p := ⟨b, o, none⟩) h, fun b o h => hb.frozen (p := ⟨b, o, none⟩) h⟩
theorem below_drewN {B : Nat} {a w : World} (h : Below B a w) (n : Nat) : Below B a (w.drewN n) := ⟨h.os, h.tape, h.output, h.size, h.block⟩

theorem ret_bool {a b : Bool} (h : a = b) : Ending.returned (.bool a) = .returned (.bool b) := by rw [h]
theorem ret_int {k : IntKind} {a b : Int} (h : a = b) : Ending.returned (.int k a) = .returned (.int k b) := by rw [h]

theorem take_all_eq {α : Type} {l m : List α} (hl : l.length = m.length) {k : Nat} (hk : l.length ≤ k) (h : l.take k = m.take k) : l = m := by
  rwa [List.take_of_length_le hk, List.take_of_length_le (by omega)] at h
theorem take_succ_eq {α : Type} {l m : List α} {k : Nat} (h1 : k < l.length) (h2 : k < m.length) (h : l.take k = m.take k) (e : l[k] = m[k]) : l.take (k + 1) = m.take (k + 1) := by
  rw [List.take_succ_eq_append_getElem h1, List.take_succ_eq_append_getElem h2, h, e]
end Go.Proofs.YtciliaiocakdkaaDoor
