/- Plain laws of the tables' functions, second part: finding, protecting, mapping. -/
import Derived.Test.YtbgodaeccgjdgaaDoorLb
set_option linter.unusedSimpArgs false
set_option linter.unusedVariables false
namespace Go.Proofs.YtbgodaeccgjdgaaDoor
open Go.RowKit
variable {fl : Nat}
theorem findF_bd {l : List F} {k : K} : findF l k < (l.length : Int) ∧ -1 ≤ findF l k := by
  rcases findF_spec l k with ⟨e, _⟩ | ⟨i, hi, e, _, _⟩ <;> rw [e] <;> omega
theorem protT_len {t : T} {k : K} {r : Int} (h : t.b.length + t.f.length ≤ 1048576) : (protT t k r).1.b.length + (protT t k r).1.f.length ≤ 1048576 := by
  unfold protT; split <;> simp [h]
end Go.Proofs.YtbgodaeccgjdgaaDoor
