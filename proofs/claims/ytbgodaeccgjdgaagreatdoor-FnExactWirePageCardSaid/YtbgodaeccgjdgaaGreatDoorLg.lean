/- Plain laws of the tables' functions: unmapping a page. -/
import Derived.Test.YtbgodaeccgjdgaaGreatDoorLd
set_option linter.unusedSimpArgs false
set_option linter.unusedVariables false
namespace Go.Proofs.YtbgodaeccgjdgaaGreatDoor
open Go.RowKit
variable {fl : Nat}
theorem found_key {l : List F} {k : K} {i : Nat} (h : findF l k = (i : Int)) : ∃ hi : i < l.length, l[i].u = true ∧ l[i].k = k := by
  rcases findF_spec l k with ⟨e, _⟩ | ⟨j, hj, e, h2, _⟩
  · omega
  · have : i = j := by omega
    subst this
    simp only [hasKey, Bool.and_eq_true, decide_eq_true_eq] at h2
    exact ⟨hj, h2.1, h2.2⟩
end Go.Proofs.YtbgodaeccgjdgaaGreatDoor
