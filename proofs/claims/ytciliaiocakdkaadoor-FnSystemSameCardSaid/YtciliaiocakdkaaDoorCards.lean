/-
  DERIVED. GIVEN WITH THE SEED: THE CARDS: each row of YtciliaiocakdkaaDoorRows.lean that lists a variable, with what it lists TIED to the program's text (the seventh form; the later family's looks); each row that meets fmt, with fmt's text TOLD by the authors' own Lean function (tested against real Go, not proved from fmt's source: count such statements apart). THE CARD IS WHAT COUNTS. Prove the row's statement (the work); the ties are given (YtciliaiocakdkaaDoorTie.lean); close each card by the builder's one call (the guide's Derived/Test/ToyasCard.lean, 'card_holds'). Laid BY PROGRAM, IN A SANDBOX (cutbox-door.mjs). By AI agents, Wed Nov 11 2026. No macro, syntax, notation, axiom, sorry.
-/
import Derived.Test.YtciliaiocakdkaaDoorRows
import GoSem.ClaimSeven
namespace Go.Proofs.YtciliaiocakdkaaDoor
namespace Rows

/-- THE TIED CARD OF 'laws.FnSystemSame'. -/
def fnSystemSameCard : Claim7 := { stood := { row := fnSystemSameRow, standIns := [], harness := (true, "132f81307d5060524f04f4c630a2c26d44777656e7038fd5686a422edef2656c"), looks := false }, kinds := [], alts := [], laidByText := true, laidKinds := [.data], laidTests := true, laidLooks := .later }
def FnSystemSameCardSaid : Prop := Claim7.holds Tryd.pinned (.plain (OpenSpec.ofChange fnSystemSameSpec)) fnSystemSameCard

/-- THE TIED CARD OF 'laws.FnLookOthers'. -/
def fnLookOthersCard : Claim7 := { stood := { row := fnLookOthersRow, standIns := [], harness := (true, "132f81307d5060524f04f4c630a2c26d44777656e7038fd5686a422edef2656c"), looks := false }, kinds := [], alts := [], laidByText := true, laidKinds := [.data], laidTests := true, laidLooks := .later }
def FnLookOthersCardSaid : Prop := Claim7.holds Tryd.pinned (.plain (OpenSpec.ofChange fnLookOthersSpec)) fnLookOthersCard

/-- THE SECOND FORM's CARD OF 'laws.FnSystemSame'. -/
def fnSystemSameUptoCard : Claim7 := { stood := { row := fnSystemSameUptoRow, standIns := [], harness := (true, "132f81307d5060524f04f4c630a2c26d44777656e7038fd5686a422edef2656c"), looks := false }, kinds := [], alts := [], laidByText := true, laidKinds := [.data], laidTests := true, laidLooks := .later }
def FnSystemSameUptoCardSaid : Prop := Claim7.holds Tryd.pinned (.plain (OpenSpec.upto fnSystemSameSpec)) fnSystemSameUptoCard

/-- THE SECOND FORM's CARD OF 'laws.FnLookOthers'. -/
def fnLookOthersUptoCard : Claim7 := { stood := { row := fnLookOthersUptoRow, standIns := [], harness := (true, "132f81307d5060524f04f4c630a2c26d44777656e7038fd5686a422edef2656c"), looks := false }, kinds := [], alts := [], laidByText := true, laidKinds := [.data], laidTests := true, laidLooks := .later }
def FnLookOthersUptoCardSaid : Prop := Claim7.holds Tryd.pinned (.plain (OpenSpec.upto fnLookOthersSpec)) fnLookOthersUptoCard
end Rows
end Go.Proofs.YtciliaiocakdkaaDoor
