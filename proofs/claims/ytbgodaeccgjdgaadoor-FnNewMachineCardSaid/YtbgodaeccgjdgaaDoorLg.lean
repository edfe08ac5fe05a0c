/- Plain laws of the tables' functions: unmapping a page. -/
import Derived.Test.YtbgodaeccgjdgaaDoorLd
set_option linter.unusedSimpArgs false
set_option linter.unusedVariables false
namespace Go.Proofs.YtbgodaeccgjdgaaDoor
open Go.RowKit
variable {fl : Nat}
def unlF (i nx : Int) (g : F) : F := if g.u && g.nx == i then ⟨g.u, g.k, g.r, nx⟩ else g
def unl (f : List F) (i nx : Int) : List F := f.map (unlF i nx)
theorem unl_len (f : List F) (i nx : Int) : (unl f i nx).length = f.length := by simp [unl]
def unmapT (t : T) (i : Nat) : T :=
  if t.b.getD (bucketT t (t.f.getD i freeF).k) (-1) == (i : Int) then ⟨t.b.set (bucketT t (t.f.getD i freeF).k) (t.f.getD i freeF).nx, t.f.set i freeF⟩
  else ⟨t.b, (unl t.f i (t.f.getD i freeF).nx).set i freeF⟩
noncomputable def unmapR (t : T) (k : K) : T × Bool :=
  if tableOk t && keyOk k && decide (0 ≤ findF t.f k) then (unmapT t (findF t.f k).toNat, true) else (⟨[], []⟩, false)
/-- no frame of a valid table follows itself -/
theorem TOk.noself {t : T} (h : TOk t) {i : Nat} (hi : i < t.f.length) (hu : t.f[i].u = true) : t.f[i].nx ≠ (i : Int) := by
  intro e
  obtain ⟨L, hL, hm⟩ := h.inChain hi hu
  obtain ⟨A, B, rfl⟩ := List.append_of_mem hm
  obtain ⟨m, hw⟩ := walk_from hL
  obtain ⟨_, hu', hh⟩ := walk_mem hw i (by simp)
  cases m with
  | zero => simp [walk] at hw
  | succ m =>
    have hw2 := hw
    rw [walk_step hi hu' hh, e] at hw2
    cases hq : walk t.f t.b.length (bucketT t t.f[i].k) m (i : Int) with
    | none => rw [hq] at hw2; cases hw2
    | some Q =>
      rw [hq] at hw2
      simp only [Option.map_some, Option.some.injEq, List.cons.injEq, true_and] at hw2
      have := walk_some hq hw
      rw [hw2] at this
      have := congrArg List.length this
      simp at this
theorem found_key {l : List F} {k : K} {i : Nat} (h : findF l k = (i : Int)) : ∃ hi : i < l.length, l[i].u = true ∧ l[i].k = k := by
  rcases findF_spec l k with ⟨e, _⟩ | ⟨j, hj, e, h2, _⟩
  · omega
  · have : i = j := by omega
    subst this
    simp only [hasKey, Bool.and_eq_true, decide_eq_true_eq] at h2
    exact ⟨hj, h2.1, h2.2⟩
theorem unmapR_len {t : T} {k : K} (h : t.b.length + t.f.length ≤ 1048576) : (unmapR t k).1.b.length + (unmapR t k).1.f.length ≤ 1048576 := by
  unfold unmapR unmapT; split
  · simp only []; split <;> simp [h, unl_len]
  · simp
end Go.Proofs.YtbgodaeccgjdgaaDoor
