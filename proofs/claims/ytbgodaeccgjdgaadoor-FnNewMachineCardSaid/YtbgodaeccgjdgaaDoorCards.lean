/-
  DERIVED. GIVEN WITH THE SEED: THE CARDS: each row of YtbgodaeccgjdgaaDoorRows.lean that lists a variable, with what it lists TIED to the program's text (the seventh form; the later family's looks); each row that meets fmt, with fmt's text TOLD by the authors' own Lean function (tested against real Go, not proved from fmt's source: count such statements apart). THE CARD IS WHAT COUNTS. Prove the row's statement (the work); the ties are given (YtbgodaeccgjdgaaDoorTie.lean); close each card by the builder's one call (the guide's Derived/Test/ToyasCard.lean, 'card_holds'). Laid BY PROGRAM, IN A SANDBOX (cutbox-door.mjs). By AI agents, Wed Nov 11 2026. No macro, syntax, notation, axiom, sorry.
-/
import Derived.Test.YtbgodaeccgjdgaaDoorRows
import GoSem.ClaimSeven
namespace Go.Proofs.YtbgodaeccgjdgaaDoor
namespace Rows

/-- THE TIED CARD OF 'laws.FnNewMachine'. -/
def fnNewMachineCard : Claim7 := { stood := { row := fnNewMachineRow, standIns := [], harness := (true, "d4c9ee4068f432d921acadbc96b38213a89c98348c81e8c28b01fdd39df7d167"), looks := false }, kinds := [], alts := [], laidByText := true, laidKinds := [.data], laidTests := true, laidLooks := .later }
def FnNewMachineCardSaid : Prop := Claim7.holds Tryd.pinned (.plain (OpenSpec.ofChange fnNewMachineSpec)) fnNewMachineCard

/-- THE SECOND FORM's CARD OF 'laws.FnNewMachine'. -/
def fnNewMachineUptoCard : Claim7 := { stood := { row := fnNewMachineUptoRow, standIns := [], harness := (true, "d4c9ee4068f432d921acadbc96b38213a89c98348c81e8c28b01fdd39df7d167"), looks := false }, kinds := [], alts := [], laidByText := true, laidKinds := [.data], laidTests := true, laidLooks := .later }
def FnNewMachineUptoCardSaid : Prop := Claim7.holds Tryd.pinned (.plain (OpenSpec.upto fnNewMachineSpec)) fnNewMachineUptoCard
end Rows
end Go.Proofs.YtbgodaeccgjdgaaDoor
