/-
  DERIVED. GIVEN WITH THE SEED: THE CARDS: each row of YtfnliecmagnkdabGreatDoorRows.lean that lists a variable, with what it lists TIED to the program's text (the seventh form; the later family's looks); each row that meets fmt, with fmt's text TOLD by the authors' own Lean function (tested against real Go, not proved from fmt's source: count such statements apart). THE CARD IS WHAT COUNTS. Prove the row's statement (the work); the ties are given (YtfnliecmagnkdabGreatDoorTie.lean); close each card by the builder's one call (the guide's Derived/Test/ToyasCard.lean, 'card_holds'). Laid BY PROGRAM, IN A SANDBOX (cutbox-door.mjs). By AI agents, Wed Nov 11 2026. No macro, syntax, notation, axiom, sorry.
-/
import Derived.Test.YtfnliecmagnkdabGreatDoorRows
import GoSem.ClaimSeven
namespace Go.Proofs.YtfnliecmagnkdabGreatDoor
namespace Rows

/-- THE TIED CARD OF 'laws.FnAckTwice'. -/
def fnAckTwiceCard : Claim7 := { stood := { row := fnAckTwiceRow, standIns := [], harness := (true, "8e27f329b2815218fa09dc53d27e5a099b76efb76e91beb196227fd8781bcfe4"), looks := false }, kinds := [], alts := [], laidByText := true, laidKinds := [.data], laidTests := true, laidLooks := .later }
def FnAckTwiceCardSaid : Prop := Claim7.holds Tryz.pinned (.plain (OpenSpec.ofChange fnAckTwiceSpec)) fnAckTwiceCard

/-- THE TIED CARD OF 'laws.FnSettleSystem'. -/
def fnSettleSystemCard : Claim7 := { stood := { row := fnSettleSystemRow, standIns := [], harness := (true, "8e27f329b2815218fa09dc53d27e5a099b76efb76e91beb196227fd8781bcfe4"), looks := false }, kinds := [], alts := [], laidByText := true, laidKinds := [.data], laidTests := true, laidLooks := .later }
def FnSettleSystemCardSaid : Prop := Claim7.holds Tryz.pinned (.plain (OpenSpec.ofChange fnSettleSystemSpec)) fnSettleSystemCard

/-- THE TIED CARD OF 'laws.FnUnmapOne'. -/
def fnUnmapOneCard : Claim7 := { stood := { row := fnUnmapOneRow, standIns := [], harness := (true, "8e27f329b2815218fa09dc53d27e5a099b76efb76e91beb196227fd8781bcfe4"), looks := false }, kinds := [], alts := [], laidByText := true, laidKinds := [.data], laidTests := true, laidLooks := .later }
def FnUnmapOneCardSaid : Prop := Claim7.holds Tryz.pinned (.plain (OpenSpec.ofChange fnUnmapOneSpec)) fnUnmapOneCard

/-- THE TIED CARD OF 'laws.FnUnmapSystem'. -/
def fnUnmapSystemCard : Claim7 := { stood := { row := fnUnmapSystemRow, standIns := [], harness := (true, "8e27f329b2815218fa09dc53d27e5a099b76efb76e91beb196227fd8781bcfe4"), looks := false }, kinds := [], alts := [], laidByText := true, laidKinds := [.data], laidTests := true, laidLooks := .later }
def FnUnmapSystemCardSaid : Prop := Claim7.holds Tryz.pinned (.plain (OpenSpec.ofChange fnUnmapSystemSpec)) fnUnmapSystemCard

/-- THE SECOND FORM's CARD OF 'laws.FnAckTwice'. -/
def fnAckTwiceUptoCard : Claim7 := { stood := { row := fnAckTwiceUptoRow, standIns := [], harness := (true, "8e27f329b2815218fa09dc53d27e5a099b76efb76e91beb196227fd8781bcfe4"), looks := false }, kinds := [], alts := [], laidByText := true, laidKinds := [.data], laidTests := true, laidLooks := .later }
def FnAckTwiceUptoCardSaid : Prop := Claim7.holds Tryz.pinned (.plain (OpenSpec.upto fnAckTwiceSpec)) fnAckTwiceUptoCard

/-- THE SECOND FORM's CARD OF 'laws.FnSettleSystem'. -/
def fnSettleSystemUptoCard : Claim7 := { stood := { row := fnSettleSystemUptoRow, standIns := [], harness := (true, "8e27f329b2815218fa09dc53d27e5a099b76efb76e91beb196227fd8781bcfe4"), looks := false }, kinds := [], alts := [], laidByText := true, laidKinds := [.data], laidTests := true, laidLooks := .later }
def FnSettleSystemUptoCardSaid : Prop := Claim7.holds Tryz.pinned (.plain (OpenSpec.upto fnSettleSystemSpec)) fnSettleSystemUptoCard

/-- THE SECOND FORM's CARD OF 'laws.FnUnmapOne'. -/
def fnUnmapOneUptoCard : Claim7 := { stood := { row := fnUnmapOneUptoRow, standIns := [], harness := (true, "8e27f329b2815218fa09dc53d27e5a099b76efb76e91beb196227fd8781bcfe4"), looks := false }, kinds := [], alts := [], laidByText := true, laidKinds := [.data], laidTests := true, laidLooks := .later }
def FnUnmapOneUptoCardSaid : Prop := Claim7.holds Tryz.pinned (.plain (OpenSpec.upto fnUnmapOneSpec)) fnUnmapOneUptoCard

/-- THE SECOND FORM's CARD OF 'laws.FnUnmapSystem'. -/
def fnUnmapSystemUptoCard : Claim7 := { stood := { row := fnUnmapSystemUptoRow, standIns := [], harness := (true, "8e27f329b2815218fa09dc53d27e5a099b76efb76e91beb196227fd8781bcfe4"), looks := false }, kinds := [], alts := [], laidByText := true, laidKinds := [.data], laidTests := true, laidLooks := .later }
def FnUnmapSystemUptoCardSaid : Prop := Claim7.holds Tryz.pinned (.plain (OpenSpec.upto fnUnmapSystemSpec)) fnUnmapSystemUptoCard
end Rows
end Go.Proofs.YtfnliecmagnkdabGreatDoor
