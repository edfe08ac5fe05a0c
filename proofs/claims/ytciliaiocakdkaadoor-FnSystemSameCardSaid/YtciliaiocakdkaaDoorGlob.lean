/- The package's one variable, 'free', as it lies in memory. -/
import Derived.Test.YtciliaiocakdkaaDoorProg
import Derived.Test.YtciliaiocakdkaaDoorPure
set_option linter.unusedSimpArgs false
set_option linter.unusedVariables false
namespace Go.Proofs.YtciliaiocakdkaaDoor
open Go.RowKit
/-- block of the variable: the five cells of Frame{Next: -1} -/
def FreeG (w : World) : Prop :=
  w.cell? ⟨0, 0, none⟩ = some (.bool false) ∧ w.cell? ⟨0, 1, none⟩ = some (.int .i64 0) ∧ w.cell? ⟨0, 2, none⟩ = some (.int .i64 0) ∧ w.cell? ⟨0, 3, none⟩ = some (.int .i64 0) ∧ w.cell? ⟨0, 4, none⟩ = some (.int .i64 (-1))
theorem FreeG.below {w w' : World} (h : FreeG w) (hb : Below w.heap.size w w') : FreeG w' := by
  have h0 : (0 : Nat) < w.heap.size := World.block_lt_of_cell? _ _ h.1
  have hc := (bcell hb).1
  obtain ⟨h1, h2, h3, h4, h5⟩ := h
  exact ⟨(hc _ _ h0).trans h1, (hc _ _ h0).trans h2, (hc _ _ h0).trans h3, (hc _ _ h0).trans h4, (hc _ _ h0).trans h5⟩
end Go.Proofs.YtciliaiocakdkaaDoor
