/-
  DERIVED. GIVEN WITH THE SEED: THE CARDS: each row of YtbfbfkpcabkchaaGreatDoorRows.lean that lists a variable, with what it lists TIED to the program's text (the seventh form; the later family's looks); each row that meets fmt, with fmt's text TOLD by the authors' own Lean function (tested against real Go, not proved from fmt's source: count such statements apart). THE CARD IS WHAT COUNTS. Prove the row's statement (the work); the ties are given (YtbfbfkpcabkchaaGreatDoorTie.lean); close each card by the builder's one call (the guide's Derived/Test/ToyasCard.lean, 'card_holds'). Laid BY PROGRAM, IN A SANDBOX (cutbox-door.mjs). By AI agents, Wed Nov 11 2026. No macro, syntax, notation, axiom, sorry.
-/
import Derived.Test.YtbfbfkpcabkchaaGreatDoorRows
import GoSem.ClaimSeven
namespace Go.Proofs.YtbfbfkpcabkchaaGreatDoor
namespace Rows

/-- THE TIED CARD OF 'laws.FnUseMachine'. -/
def fnUseMachineCard : Claim7 := { stood := { row := fnUseMachineRow, standIns := [], harness := (true, "ab7d3ad6194974e1b544bc6cef724764a0307267cf19b5986cb71439e46c329a"), looks := false }, kinds := [], alts := [], laidByText := true, laidKinds := [.data], laidTests := true, laidLooks := .later }
def FnUseMachineCardSaid : Prop := Claim7.holds Tryz.pinned (.plain (OpenSpec.ofChange fnUseMachineSpec)) fnUseMachineCard

/-- THE TIED CARD OF 'laws.FnUsePages'. -/
def fnUsePagesCard : Claim7 := { stood := { row := fnUsePagesRow, standIns := [], harness := (true, "ab7d3ad6194974e1b544bc6cef724764a0307267cf19b5986cb71439e46c329a"), looks := false }, kinds := [], alts := [], laidByText := true, laidKinds := [.data], laidTests := true, laidLooks := .later }
def FnUsePagesCardSaid : Prop := Claim7.holds Tryz.pinned (.plain (OpenSpec.ofChange fnUsePagesSpec)) fnUsePagesCard

/-- THE TIED CARD OF 'laws.FnUseTrace'. -/
def fnUseTraceCard : Claim7 := { stood := { row := fnUseTraceRow, standIns := [], harness := (true, "ab7d3ad6194974e1b544bc6cef724764a0307267cf19b5986cb71439e46c329a"), looks := false }, kinds := [], alts := [], laidByText := true, laidKinds := [.data], laidTests := true, laidLooks := .later }
def FnUseTraceCardSaid : Prop := Claim7.holds Tryz.pinned (.plain (OpenSpec.ofChange fnUseTraceSpec)) fnUseTraceCard

/-- THE TIED CARD OF 'laws.FnUsePage'. -/
def fnUsePageCard : Claim7 := { stood := { row := fnUsePageRow, standIns := [], harness := (true, "ab7d3ad6194974e1b544bc6cef724764a0307267cf19b5986cb71439e46c329a"), looks := false }, kinds := [], alts := [], laidByText := true, laidKinds := [.data], laidTests := true, laidLooks := .later }
def FnUsePageCardSaid : Prop := Claim7.holds Tryz.pinned (.plain (OpenSpec.ofChange fnUsePageSpec)) fnUsePageCard

/-- THE TIED CARD OF 'laws.FnUseRights'. -/
def fnUseRightsCard : Claim7 := { stood := { row := fnUseRightsRow, standIns := [], harness := (true, "ab7d3ad6194974e1b544bc6cef724764a0307267cf19b5986cb71439e46c329a"), looks := false }, kinds := [], alts := [], laidByText := true, laidKinds := [.data], laidTests := true, laidLooks := .later }
def FnUseRightsCardSaid : Prop := Claim7.holds Tryz.pinned (.plain (OpenSpec.ofChange fnUseRightsSpec)) fnUseRightsCard

/-- THE SECOND FORM's CARD OF 'laws.FnUseMachine'. -/
def fnUseMachineUptoCard : Claim7 := { stood := { row := fnUseMachineUptoRow, standIns := [], harness := (true, "ab7d3ad6194974e1b544bc6cef724764a0307267cf19b5986cb71439e46c329a"), looks := false }, kinds := [], alts := [], laidByText := true, laidKinds := [.data], laidTests := true, laidLooks := .later }
def FnUseMachineUptoCardSaid : Prop := Claim7.holds Tryz.pinned (.plain (OpenSpec.upto fnUseMachineSpec)) fnUseMachineUptoCard

/-- THE SECOND FORM's CARD OF 'laws.FnUsePages'. -/
def fnUsePagesUptoCard : Claim7 := { stood := { row := fnUsePagesUptoRow, standIns := [], harness := (true, "ab7d3ad6194974e1b544bc6cef724764a0307267cf19b5986cb71439e46c329a"), looks := false }, kinds := [], alts := [], laidByText := true, laidKinds := [.data], laidTests := true, laidLooks := .later }
def FnUsePagesUptoCardSaid : Prop := Claim7.holds Tryz.pinned (.plain (OpenSpec.upto fnUsePagesSpec)) fnUsePagesUptoCard

/-- THE SECOND FORM's CARD OF 'laws.FnUseTrace'. -/
def fnUseTraceUptoCard : Claim7 := { stood := { row := fnUseTraceUptoRow, standIns := [], harness := (true, "ab7d3ad6194974e1b544bc6cef724764a0307267cf19b5986cb71439e46c329a"), looks := false }, kinds := [], alts := [], laidByText := true, laidKinds := [.data], laidTests := true, laidLooks := .later }
def FnUseTraceUptoCardSaid : Prop := Claim7.holds Tryz.pinned (.plain (OpenSpec.upto fnUseTraceSpec)) fnUseTraceUptoCard

/-- THE SECOND FORM's CARD OF 'laws.FnUsePage'. -/
def fnUsePageUptoCard : Claim7 := { stood := { row := fnUsePageUptoRow, standIns := [], harness := (true, "ab7d3ad6194974e1b544bc6cef724764a0307267cf19b5986cb71439e46c329a"), looks := false }, kinds := [], alts := [], laidByText := true, laidKinds := [.data], laidTests := true, laidLooks := .later }
def FnUsePageUptoCardSaid : Prop := Claim7.holds Tryz.pinned (.plain (OpenSpec.upto fnUsePageSpec)) fnUsePageUptoCard

/-- THE SECOND FORM's CARD OF 'laws.FnUseRights'. -/
def fnUseRightsUptoCard : Claim7 := { stood := { row := fnUseRightsUptoRow, standIns := [], harness := (true, "ab7d3ad6194974e1b544bc6cef724764a0307267cf19b5986cb71439e46c329a"), looks := false }, kinds := [], alts := [], laidByText := true, laidKinds := [.data], laidTests := true, laidLooks := .later }
def FnUseRightsUptoCardSaid : Prop := Claim7.holds Tryz.pinned (.plain (OpenSpec.upto fnUseRightsSpec)) fnUseRightsUptoCard
end Rows
end Go.Proofs.YtbfbfkpcabkchaaGreatDoor
