/- Plain laws of the tables' functions: mapping a page. -/
import Derived.Test.YtbgodaeccgjdgaaDoorLc
set_option linter.unusedSimpArgs false
set_option linter.unusedVariables false
namespace Go.Proofs.YtbgodaeccgjdgaaDoor
open Go.RowKit
variable {fl : Nat}
noncomputable def mapR (t : T) (k : K) (fr r : Int) : T × Bool :=
  if tableOk t && keyOk k && decide (findF t.f k < 0) && within fr t.f.length && !(t.f.getD fr.toNat freeF).u && rightsOk r then (mapT t k fr.toNat r, true) else (⟨[], []⟩, false)
theorem mapR_no {t : T} {k : K} {fr r : Int} (h : (tableOk t && keyOk k && decide (findF t.f k < 0) && within fr t.f.length && !(t.f.getD fr.toNat freeF).u && rightsOk r) = false) : mapR t k fr r = (⟨[], []⟩, false) := by
  unfold mapR; rw [h]; rfl
theorem mapR_yes {t : T} {k : K} {fr r : Int} (h : (tableOk t && keyOk k && decide (findF t.f k < 0) && within fr t.f.length && !(t.f.getD fr.toNat freeF).u && rightsOk r) = true) : mapR t k fr r = (mapT t k fr.toNat r, true) := by
  unfold mapR; rw [h]; rfl
theorem mapR_len {t : T} {k : K} {fr r : Int} (h : t.b.length + t.f.length ≤ 1048576) : (mapR t k fr r).1.b.length + (mapR t k fr r).1.f.length ≤ 1048576 := by
  unfold mapR; split <;> simp [mapT, h]
end Go.Proofs.YtbgodaeccgjdgaaDoor
