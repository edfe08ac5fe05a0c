/-
  DERIVED. GIVEN WITH THE SEED: THE CARDS: each row of YtcloffimpakmnaaGreatDoorRows.lean that lists a variable, with what it lists TIED to the program's text (the seventh form; the later family's looks); each row that meets fmt, with fmt's text TOLD by the authors' own Lean function (tested against real Go, not proved from fmt's source: count such statements apart). THE CARD IS WHAT COUNTS. Prove the row's statement (the work); the ties are given (YtcloffimpakmnaaGreatDoorTie.lean); close each card by the builder's one call (the guide's Derived/Test/ToyasCard.lean, 'card_holds'). Laid BY PROGRAM, IN A SANDBOX (cutbox-door.mjs). By AI agents, Wed Nov 11 2026. No macro, syntax, notation, axiom, sorry.
-/
import Derived.Test.YtcloffimpakmnaaGreatDoorRows
import GoSem.ClaimSeven
namespace Go.Proofs.YtcloffimpakmnaaGreatDoor
namespace Rows

/-- THE TIED CARD OF 'laws.FnGuardPage'. -/
def fnGuardPageCard : Claim7 := { stood := { row := fnGuardPageRow, standIns := [], harness := (true, "def1096033b14796be077bae776f1d5447c93343172e7358a5ad2a008d95f196"), looks := false }, kinds := [], alts := [], laidByText := true, laidKinds := [.data], laidTests := true, laidLooks := .later }
def FnGuardPageCardSaid : Prop := Claim7.holds Tryz.pinned (.plain (OpenSpec.ofChange fnGuardPageSpec)) fnGuardPageCard

/-- THE TIED CARD OF 'laws.FnWirePage'. -/
def fnWirePageCard : Claim7 := { stood := { row := fnWirePageRow, standIns := [], harness := (true, "def1096033b14796be077bae776f1d5447c93343172e7358a5ad2a008d95f196"), looks := false }, kinds := [], alts := [], laidByText := true, laidKinds := [.data], laidTests := true, laidLooks := .later }
def FnWirePageCardSaid : Prop := Claim7.holds Tryz.pinned (.plain (OpenSpec.ofChange fnWirePageSpec)) fnWirePageCard

/-- THE SECOND FORM's CARD OF 'laws.FnGuardPage'. -/
def fnGuardPageUptoCard : Claim7 := { stood := { row := fnGuardPageUptoRow, standIns := [], harness := (true, "def1096033b14796be077bae776f1d5447c93343172e7358a5ad2a008d95f196"), looks := false }, kinds := [], alts := [], laidByText := true, laidKinds := [.data], laidTests := true, laidLooks := .later }
def FnGuardPageUptoCardSaid : Prop := Claim7.holds Tryz.pinned (.plain (OpenSpec.upto fnGuardPageSpec)) fnGuardPageUptoCard

/-- THE SECOND FORM's CARD OF 'laws.FnWirePage'. -/
def fnWirePageUptoCard : Claim7 := { stood := { row := fnWirePageUptoRow, standIns := [], harness := (true, "def1096033b14796be077bae776f1d5447c93343172e7358a5ad2a008d95f196"), looks := false }, kinds := [], alts := [], laidByText := true, laidKinds := [.data], laidTests := true, laidLooks := .later }
def FnWirePageUptoCardSaid : Prop := Claim7.holds Tryz.pinned (.plain (OpenSpec.upto fnWirePageSpec)) fnWirePageUptoCard
end Rows
end Go.Proofs.YtcloffimpakmnaaGreatDoor
