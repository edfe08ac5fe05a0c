/- Plain laws of the law's own helpers: copies, equality, marks. -/
import Derived.Test.YtbhpohopfbcfgaaDoorGp
set_option linter.unusedSimpArgs false
set_option linter.unusedVariables false
namespace Go.Proofs.YtbhpohopfbcfgaaDoor
open Go.RowKit
theorem obs {α β : Type} {x : α} {f : α → Option β} : Option.bind (some x) f = f x := by rw [Option.bind_some]
theorem cof {α : Type} {x y : α} : cond false x y = y := by rw [cond_false]
theorem cot {α : Type} {x y : α} : cond true x y = x := by rw [cond_true]
theorem idx_set_nat {α : Type} {l : List α} {i : Nat} {x : α} (h : i < l.length) : idx (l.set i x) (i : Int) = some x := by
  rw [idx_nat (by simpa using h)]; simp
theorem ck_nat {n : Nat} (h : n ≤ 2097152) : ck ((n : Int)) = some (n : Int) := ck_in (by omega)
theorem c1 (n : Nat) (h : n ≤ 16777216) : ck ((n : Int) + 1) = some ((n + 1 : Nat) : Int) := by rw [ck_in (by omega)]; rfl
theorem ck_succ {n : Nat} (h : n ≤ 2097152) : ck ((n : Int) + 1) = some ((n + 1 : Nat) : Int) := by rw [ck_in (by omega)]; rfl

theorem mkO_nat {n : Nat} (h : n ≤ 1048576) : mkO (n : Int) = some n := by
  unfold mkO; rw [if_pos (by simp [maxLen]; omega)]; simp
def mkF (c : Nat) : F := ⟨((c : Int).tmod 3 == 0), ⟨((c + 1 : Nat) : Int), ((c + 1 + 1 : Nat) : Int)⟩, ((c + 1 + 1 + 1 : Nat) : Int), ((c + 1 + 1 + 1 + 1 : Nat) : Int)⟩
theorem mkF_u (c : Nat) : (mkF c).u = ((c : Int).tmod 3 == 0) := by rw [mkF]
theorem mkF_s (c : Nat) : (mkF c).k.s = ((c + 1 : Nat) : Int) := by rw [mkF]
theorem mkF_p (c : Nat) : (mkF c).k.p = ((c + 1 + 1 : Nat) : Int) := by rw [mkF]
theorem mkF_r (c : Nat) : (mkF c).r = ((c + 1 + 1 + 1 : Nat) : Int) := by rw [mkF]
theorem mkF_n (c : Nat) : (mkF c).nx = ((c + 1 + 1 + 1 + 1 : Nat) : Int) := by rw [mkF]
theorem remO3 (c : Int) : remO c 3 = some (c.tmod 3) := by simp [remO]
end Go.Proofs.YtbhpohopfbcfgaaDoor
