/-
  DERIVED. GIVEN WITH THE SEED: THE CARDS: each row of YtciliaiocakdkaaGreatDoorRows.lean that lists a variable, with what it lists TIED to the program's text (the seventh form; the later family's looks); each row that meets fmt, with fmt's text TOLD by the authors' own Lean function (tested against real Go, not proved from fmt's source: count such statements apart). THE CARD IS WHAT COUNTS. Prove the row's statement (the work); the ties are given (YtciliaiocakdkaaGreatDoorTie.lean); close each card by the builder's one call (the guide's Derived/Test/ToyasCard.lean, 'card_holds'). Laid BY PROGRAM, IN A SANDBOX (cutbox-door.mjs). By AI agents, Wed Nov 11 2026. No macro, syntax, notation, axiom, sorry.
-/
import Derived.Test.YtciliaiocakdkaaGreatDoorRows
import GoSem.ClaimSeven
namespace Go.Proofs.YtciliaiocakdkaaGreatDoor
namespace Rows

/-- THE TIED CARD OF 'laws.FnAckTwice'. -/
def fnAckTwiceCard : Claim7 := { stood := { row := fnAckTwiceRow, standIns := [], harness := (true, "88d68513b1c94d173521c823a7f33e129d3cc9ff4a176f77eaaf13369cd0ee00"), looks := false }, kinds := [], alts := [], laidByText := true, laidKinds := [.data], laidTests := true, laidLooks := .later }
def FnAckTwiceCardSaid : Prop := Claim7.holds Tryz.pinned (.plain (OpenSpec.ofChange fnAckTwiceSpec)) fnAckTwiceCard

/-- THE SECOND FORM's CARD OF 'laws.FnAckTwice'. -/
def fnAckTwiceUptoCard : Claim7 := { stood := { row := fnAckTwiceUptoRow, standIns := [], harness := (true, "88d68513b1c94d173521c823a7f33e129d3cc9ff4a176f77eaaf13369cd0ee00"), looks := false }, kinds := [], alts := [], laidByText := true, laidKinds := [.data], laidTests := true, laidLooks := .later }
def FnAckTwiceUptoCardSaid : Prop := Claim7.holds Tryz.pinned (.plain (OpenSpec.upto fnAckTwiceSpec)) fnAckTwiceUptoCard
end Rows
end Go.Proofs.YtciliaiocakdkaaGreatDoor
