/-
  DERIVED. GIVEN WITH THE SEED: THE CARDS: each row of YtkohlcjdagckhaaGreatDoorRows.lean that lists a variable, with what it lists TIED to the program's text (the seventh form; the later family's looks); each row that meets fmt, with fmt's text TOLD by the authors' own Lean function (tested against real Go, not proved from fmt's source: count such statements apart). THE CARD IS WHAT COUNTS. Prove the row's statement (the work); the ties are given (YtkohlcjdagckhaaGreatDoorTie.lean); close each card by the builder's one call (the guide's Derived/Test/ToyasCard.lean, 'card_holds'). Laid BY PROGRAM, IN A SANDBOX (cutbox-door.mjs). By AI agents, Wed Nov 11 2026. No macro, syntax, notation, axiom, sorry.
-/
import Derived.Test.YtkohlcjdagckhaaGreatDoorRows
import GoSem.ClaimSeven
namespace Go.Proofs.YtkohlcjdagckhaaGreatDoor
namespace Rows

/-- THE TIED CARD OF 'laws.FnEnterRound'. -/
def fnEnterRoundCard : Claim7 := { stood := { row := fnEnterRoundRow, standIns := [], harness := (true, "458f171bad735eb757df45930535bb108576e227887cd508e2d6fd142ae3b7c2"), looks := false }, kinds := [], alts := [], laidByText := true, laidKinds := [.data], laidTests := true, laidLooks := .later }
def FnEnterRoundCardSaid : Prop := Claim7.holds Tryz.pinned (.plain (OpenSpec.ofChange fnEnterRoundSpec)) fnEnterRoundCard

/-- THE TIED CARD OF 'laws.FnEnterSpace'. -/
def fnEnterSpaceCard : Claim7 := { stood := { row := fnEnterSpaceRow, standIns := [], harness := (true, "458f171bad735eb757df45930535bb108576e227887cd508e2d6fd142ae3b7c2"), looks := false }, kinds := [], alts := [], laidByText := true, laidKinds := [.data], laidTests := true, laidLooks := .later }
def FnEnterSpaceCardSaid : Prop := Claim7.holds Tryz.pinned (.plain (OpenSpec.ofChange fnEnterSpaceSpec)) fnEnterSpaceCard

/-- THE TIED CARD OF 'laws.FnPutPage'. -/
def fnPutPageCard : Claim7 := { stood := { row := fnPutPageRow, standIns := [], harness := (true, "458f171bad735eb757df45930535bb108576e227887cd508e2d6fd142ae3b7c2"), looks := false }, kinds := [], alts := [], laidByText := true, laidKinds := [.data], laidTests := true, laidLooks := .later }
def FnPutPageCardSaid : Prop := Claim7.holds Tryz.pinned (.plain (OpenSpec.ofChange fnPutPageSpec)) fnPutPageCard

/-- THE TIED CARD OF 'laws.FnGuardBack'. -/
def fnGuardBackCard : Claim7 := { stood := { row := fnGuardBackRow, standIns := [], harness := (true, "458f171bad735eb757df45930535bb108576e227887cd508e2d6fd142ae3b7c2"), looks := false }, kinds := [], alts := [], laidByText := true, laidKinds := [.data], laidTests := true, laidLooks := .later }
def FnGuardBackCardSaid : Prop := Claim7.holds Tryz.pinned (.plain (OpenSpec.ofChange fnGuardBackSpec)) fnGuardBackCard

/-- THE TIED CARD OF 'laws.FnTouchTable'. -/
def fnTouchTableCard : Claim7 := { stood := { row := fnTouchTableRow, standIns := [], harness := (true, "458f171bad735eb757df45930535bb108576e227887cd508e2d6fd142ae3b7c2"), looks := false }, kinds := [], alts := [], laidByText := true, laidKinds := [.data], laidTests := true, laidLooks := .later }
def FnTouchTableCardSaid : Prop := Claim7.holds Tryz.pinned (.plain (OpenSpec.ofChange fnTouchTableSpec)) fnTouchTableCard

/-- THE TIED CARD OF 'laws.FnTouchTwice'. -/
def fnTouchTwiceCard : Claim7 := { stood := { row := fnTouchTwiceRow, standIns := [], harness := (true, "458f171bad735eb757df45930535bb108576e227887cd508e2d6fd142ae3b7c2"), looks := false }, kinds := [], alts := [], laidByText := true, laidKinds := [.data], laidTests := true, laidLooks := .later }
def FnTouchTwiceCardSaid : Prop := Claim7.holds Tryz.pinned (.plain (OpenSpec.ofChange fnTouchTwiceSpec)) fnTouchTwiceCard

/-- THE TIED CARD OF 'laws.FnTouchPage'. -/
def fnTouchPageCard : Claim7 := { stood := { row := fnTouchPageRow, standIns := [], harness := (true, "458f171bad735eb757df45930535bb108576e227887cd508e2d6fd142ae3b7c2"), looks := false }, kinds := [], alts := [], laidByText := true, laidKinds := [.data], laidTests := true, laidLooks := .later }
def FnTouchPageCardSaid : Prop := Claim7.holds Tryz.pinned (.plain (OpenSpec.ofChange fnTouchPageSpec)) fnTouchPageCard

/-- THE TIED CARD OF 'laws.FnWirePage'. -/
def fnWirePageCard : Claim7 := { stood := { row := fnWirePageRow, standIns := [], harness := (true, "458f171bad735eb757df45930535bb108576e227887cd508e2d6fd142ae3b7c2"), looks := false }, kinds := [], alts := [], laidByText := true, laidKinds := [.data], laidTests := true, laidLooks := .later }
def FnWirePageCardSaid : Prop := Claim7.holds Tryz.pinned (.plain (OpenSpec.ofChange fnWirePageSpec)) fnWirePageCard

/-- THE TIED CARD OF 'laws.FnPutFound'. -/
def fnPutFoundCard : Claim7 := { stood := { row := fnPutFoundRow, standIns := [], harness := (true, "458f171bad735eb757df45930535bb108576e227887cd508e2d6fd142ae3b7c2"), looks := false }, kinds := [], alts := [], laidByText := true, laidKinds := [.data], laidTests := true, laidLooks := .later }
def FnPutFoundCardSaid : Prop := Claim7.holds Tryz.pinned (.plain (OpenSpec.ofChange fnPutFoundSpec)) fnPutFoundCard

/-- THE TIED CARD OF 'laws.FnSharedTouch'. -/
def fnSharedTouchCard : Claim7 := { stood := { row := fnSharedTouchRow, standIns := [], harness := (true, "458f171bad735eb757df45930535bb108576e227887cd508e2d6fd142ae3b7c2"), looks := false }, kinds := [], alts := [], laidByText := true, laidKinds := [.data], laidTests := true, laidLooks := .later }
def FnSharedTouchCardSaid : Prop := Claim7.holds Tryz.pinned (.plain (OpenSpec.ofChange fnSharedTouchSpec)) fnSharedTouchCard

/-- THE TIED CARD OF 'laws.FnGuardPage'. -/
def fnGuardPageCard : Claim7 := { stood := { row := fnGuardPageRow, standIns := [], harness := (true, "458f171bad735eb757df45930535bb108576e227887cd508e2d6fd142ae3b7c2"), looks := false }, kinds := [], alts := [], laidByText := true, laidKinds := [.data], laidTests := true, laidLooks := .later }
def FnGuardPageCardSaid : Prop := Claim7.holds Tryz.pinned (.plain (OpenSpec.ofChange fnGuardPageSpec)) fnGuardPageCard

/-- THE TIED CARD OF 'laws.FnNewMemory'. -/
def fnNewMemoryCard : Claim7 := { stood := { row := fnNewMemoryRow, standIns := [], harness := (true, "458f171bad735eb757df45930535bb108576e227887cd508e2d6fd142ae3b7c2"), looks := false }, kinds := [], alts := [], laidByText := true, laidKinds := [.data], laidTests := true, laidLooks := .later }
def FnNewMemoryCardSaid : Prop := Claim7.holds Tryz.pinned (.plain (OpenSpec.ofChange fnNewMemorySpec)) fnNewMemoryCard

/-- THE SECOND FORM's CARD OF 'laws.FnEnterRound'. -/
def fnEnterRoundUptoCard : Claim7 := { stood := { row := fnEnterRoundUptoRow, standIns := [], harness := (true, "458f171bad735eb757df45930535bb108576e227887cd508e2d6fd142ae3b7c2"), looks := false }, kinds := [], alts := [], laidByText := true, laidKinds := [.data], laidTests := true, laidLooks := .later }
def FnEnterRoundUptoCardSaid : Prop := Claim7.holds Tryz.pinned (.plain (OpenSpec.upto fnEnterRoundSpec)) fnEnterRoundUptoCard

/-- THE SECOND FORM's CARD OF 'laws.FnEnterSpace'. -/
def fnEnterSpaceUptoCard : Claim7 := { stood := { row := fnEnterSpaceUptoRow, standIns := [], harness := (true, "458f171bad735eb757df45930535bb108576e227887cd508e2d6fd142ae3b7c2"), looks := false }, kinds := [], alts := [], laidByText := true, laidKinds := [.data], laidTests := true, laidLooks := .later }
def FnEnterSpaceUptoCardSaid : Prop := Claim7.holds Tryz.pinned (.plain (OpenSpec.upto fnEnterSpaceSpec)) fnEnterSpaceUptoCard

/-- THE SECOND FORM's CARD OF 'laws.FnPutPage'. -/
def fnPutPageUptoCard : Claim7 := { stood := { row := fnPutPageUptoRow, standIns := [], harness := (true, "458f171bad735eb757df45930535bb108576e227887cd508e2d6fd142ae3b7c2"), looks := false }, kinds := [], alts := [], laidByText := true, laidKinds := [.data], laidTests := true, laidLooks := .later }
def FnPutPageUptoCardSaid : Prop := Claim7.holds Tryz.pinned (.plain (OpenSpec.upto fnPutPageSpec)) fnPutPageUptoCard

/-- THE SECOND FORM's CARD OF 'laws.FnGuardBack'. -/
def fnGuardBackUptoCard : Claim7 := { stood := { row := fnGuardBackUptoRow, standIns := [], harness := (true, "458f171bad735eb757df45930535bb108576e227887cd508e2d6fd142ae3b7c2"), looks := false }, kinds := [], alts := [], laidByText := true, laidKinds := [.data], laidTests := true, laidLooks := .later }
def FnGuardBackUptoCardSaid : Prop := Claim7.holds Tryz.pinned (.plain (OpenSpec.upto fnGuardBackSpec)) fnGuardBackUptoCard

/-- THE SECOND FORM's CARD OF 'laws.FnTouchTable'. -/
def fnTouchTableUptoCard : Claim7 := { stood := { row := fnTouchTableUptoRow, standIns := [], harness := (true, "458f171bad735eb757df45930535bb108576e227887cd508e2d6fd142ae3b7c2"), looks := false }, kinds := [], alts := [], laidByText := true, laidKinds := [.data], laidTests := true, laidLooks := .later }
def FnTouchTableUptoCardSaid : Prop := Claim7.holds Tryz.pinned (.plain (OpenSpec.upto fnTouchTableSpec)) fnTouchTableUptoCard

/-- THE SECOND FORM's CARD OF 'laws.FnTouchTwice'. -/
def fnTouchTwiceUptoCard : Claim7 := { stood := { row := fnTouchTwiceUptoRow, standIns := [], harness := (true, "458f171bad735eb757df45930535bb108576e227887cd508e2d6fd142ae3b7c2"), looks := false }, kinds := [], alts := [], laidByText := true, laidKinds := [.data], laidTests := true, laidLooks := .later }
def FnTouchTwiceUptoCardSaid : Prop := Claim7.holds Tryz.pinned (.plain (OpenSpec.upto fnTouchTwiceSpec)) fnTouchTwiceUptoCard

/-- THE SECOND FORM's CARD OF 'laws.FnTouchPage'. -/
def fnTouchPageUptoCard : Claim7 := { stood := { row := fnTouchPageUptoRow, standIns := [], harness := (true, "458f171bad735eb757df45930535bb108576e227887cd508e2d6fd142ae3b7c2"), looks := false }, kinds := [], alts := [], laidByText := true, laidKinds := [.data], laidTests := true, laidLooks := .later }
def FnTouchPageUptoCardSaid : Prop := Claim7.holds Tryz.pinned (.plain (OpenSpec.upto fnTouchPageSpec)) fnTouchPageUptoCard

/-- THE SECOND FORM's CARD OF 'laws.FnWirePage'. -/
def fnWirePageUptoCard : Claim7 := { stood := { row := fnWirePageUptoRow, standIns := [], harness := (true, "458f171bad735eb757df45930535bb108576e227887cd508e2d6fd142ae3b7c2"), looks := false }, kinds := [], alts := [], laidByText := true, laidKinds := [.data], laidTests := true, laidLooks := .later }
def FnWirePageUptoCardSaid : Prop := Claim7.holds Tryz.pinned (.plain (OpenSpec.upto fnWirePageSpec)) fnWirePageUptoCard

/-- THE SECOND FORM's CARD OF 'laws.FnPutFound'. -/
def fnPutFoundUptoCard : Claim7 := { stood := { row := fnPutFoundUptoRow, standIns := [], harness := (true, "458f171bad735eb757df45930535bb108576e227887cd508e2d6fd142ae3b7c2"), looks := false }, kinds := [], alts := [], laidByText := true, laidKinds := [.data], laidTests := true, laidLooks := .later }
def FnPutFoundUptoCardSaid : Prop := Claim7.holds Tryz.pinned (.plain (OpenSpec.upto fnPutFoundSpec)) fnPutFoundUptoCard

/-- THE SECOND FORM's CARD OF 'laws.FnSharedTouch'. -/
def fnSharedTouchUptoCard : Claim7 := { stood := { row := fnSharedTouchUptoRow, standIns := [], harness := (true, "458f171bad735eb757df45930535bb108576e227887cd508e2d6fd142ae3b7c2"), looks := false }, kinds := [], alts := [], laidByText := true, laidKinds := [.data], laidTests := true, laidLooks := .later }
def FnSharedTouchUptoCardSaid : Prop := Claim7.holds Tryz.pinned (.plain (OpenSpec.upto fnSharedTouchSpec)) fnSharedTouchUptoCard

/-- THE SECOND FORM's CARD OF 'laws.FnGuardPage'. -/
def fnGuardPageUptoCard : Claim7 := { stood := { row := fnGuardPageUptoRow, standIns := [], harness := (true, "458f171bad735eb757df45930535bb108576e227887cd508e2d6fd142ae3b7c2"), looks := false }, kinds := [], alts := [], laidByText := true, laidKinds := [.data], laidTests := true, laidLooks := .later }
def FnGuardPageUptoCardSaid : Prop := Claim7.holds Tryz.pinned (.plain (OpenSpec.upto fnGuardPageSpec)) fnGuardPageUptoCard

/-- THE SECOND FORM's CARD OF 'laws.FnNewMemory'. -/
def fnNewMemoryUptoCard : Claim7 := { stood := { row := fnNewMemoryUptoRow, standIns := [], harness := (true, "458f171bad735eb757df45930535bb108576e227887cd508e2d6fd142ae3b7c2"), looks := false }, kinds := [], alts := [], laidByText := true, laidKinds := [.data], laidTests := true, laidLooks := .later }
def FnNewMemoryUptoCardSaid : Prop := Claim7.holds Tryz.pinned (.plain (OpenSpec.upto fnNewMemorySpec)) fnNewMemoryUptoCard
end Rows
end Go.Proofs.YtkohlcjdagckhaaGreatDoor
