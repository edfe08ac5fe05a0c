/- The data types of the printed pure functions. -/
import Derived.Test.YtciliaiocakdkaaDoorE6
namespace Go.Proofs.YtciliaiocakdkaaDoor
structure Ca where
  l : List Ln
  h : Int
deriving DecidableEq, Inhabited
structure Tg where
  c : Int
  n : Int
  r : Int
  o : List Ow
deriving DecidableEq, Inhabited
structure Mc where
  t : T
  c : Ca
  g : Tg
  s : Int
deriving DecidableEq, Inhabited
structure Mm where
  m : Mc
  k : List Bool
  h : Int
deriving DecidableEq, Inhabited
structure Cp where
  n : List Nt
  w : List Nt
deriving DecidableEq, Inhabited
structure Sy where
  t : T
  c : List Cp
deriving DecidableEq, Inhabited
theorem beqK (x y : K) : (x == y) = (x.s == y.s && x.p == y.p) := by
  rw [Bool.eq_iff_iff]; cases x; cases y; simp
theorem beqF (x y : F) : (x == y) = (x.u == y.u && (x.k.s == y.k.s && x.k.p == y.k.p) && x.r == y.r && x.nx == y.nx) := by
  rw [Bool.eq_iff_iff]; rcases x with ⟨_, ⟨_, _⟩, _, _⟩; rcases y with ⟨_, ⟨_, _⟩, _, _⟩; simp [and_assoc]
theorem beqLn (x y : Ln) : (x == y) = (x.va == y.va && x.tg == y.tg && x.pg == y.pg && x.fr == y.fr && x.ri == y.ri && x.wi == y.wi) := by
  rw [Bool.eq_iff_iff]; cases x; cases y; simp [and_assoc]
theorem beqOw (x y : Ow) : (x == y) = (x.sp == y.sp && x.tg == y.tg) := by
  rw [Bool.eq_iff_iff]; cases x; cases y; simp
theorem beqNt (x y : Nt) : (x == y) = ((x.k.s == y.k.s && x.k.p == y.k.p) && x.fr == y.fr) := by
  rw [Bool.eq_iff_iff]; rcases x with ⟨⟨_, _⟩, _⟩; rcases y with ⟨⟨_, _⟩, _⟩; simp [and_assoc]
end Go.Proofs.YtciliaiocakdkaaDoor
