/-
  DERIVED. GIVEN WITH THE SEED: THE CARDS: each row of YtkccmjfhmkjnlaaGreatDoorRows.lean that lists a variable, with what it lists TIED to the program's text (the seventh form; the later family's looks); each row that meets fmt, with fmt's text TOLD by the authors' own Lean function (tested against real Go, not proved from fmt's source: count such statements apart). THE CARD IS WHAT COUNTS. Prove the row's statement (the work); the ties are given (YtkccmjfhmkjnlaaGreatDoorTie.lean); close each card by the builder's one call (the guide's Derived/Test/ToyasCard.lean, 'card_holds'). Laid BY PROGRAM, IN A SANDBOX (cutbox-door.mjs). By AI agents, Wed Nov 11 2026. No macro, syntax, notation, axiom, sorry.
-/
import Derived.Test.YtkccmjfhmkjnlaaGreatDoorRows
import GoSem.ClaimSeven
namespace Go.Proofs.YtkccmjfhmkjnlaaGreatDoor
namespace Rows

/-- THE TIED CARD OF 'laws.FnClearMarks'. -/
def fnClearMarksCard : Claim7 := { stood := { row := fnClearMarksRow, standIns := [], harness := (true, "4299e728bcf08530108d3965aaa0efb889becd87a7ac4a4cedf6a799acb25fe0"), looks := false }, kinds := [], alts := [], laidByText := true, laidKinds := [.data], laidTests := true, laidLooks := .later }
def FnClearMarksCardSaid : Prop := Claim7.holds Tryz.pinned (.plain (OpenSpec.ofChange fnClearMarksSpec)) fnClearMarksCard

/-- THE TIED CARD OF 'laws.FnFrameVictim'. -/
def fnFrameVictimCard : Claim7 := { stood := { row := fnFrameVictimRow, standIns := [], harness := (true, "4299e728bcf08530108d3965aaa0efb889becd87a7ac4a4cedf6a799acb25fe0"), looks := false }, kinds := [], alts := [], laidByText := true, laidKinds := [.data], laidTests := true, laidLooks := .later }
def FnFrameVictimCardSaid : Prop := Claim7.holds Tryz.pinned (.plain (OpenSpec.ofChange fnFrameVictimSpec)) fnFrameVictimCard

/-- THE TIED CARD OF 'laws.FnVictimSecond'. -/
def fnVictimSecondCard : Claim7 := { stood := { row := fnVictimSecondRow, standIns := [], harness := (true, "4299e728bcf08530108d3965aaa0efb889becd87a7ac4a4cedf6a799acb25fe0"), looks := false }, kinds := [], alts := [], laidByText := true, laidKinds := [.data], laidTests := true, laidLooks := .later }
def FnVictimSecondCardSaid : Prop := Claim7.holds Tryz.pinned (.plain (OpenSpec.ofChange fnVictimSecondSpec)) fnVictimSecondCard

/-- THE SECOND FORM's CARD OF 'laws.FnClearMarks'. -/
def fnClearMarksUptoCard : Claim7 := { stood := { row := fnClearMarksUptoRow, standIns := [], harness := (true, "4299e728bcf08530108d3965aaa0efb889becd87a7ac4a4cedf6a799acb25fe0"), looks := false }, kinds := [], alts := [], laidByText := true, laidKinds := [.data], laidTests := true, laidLooks := .later }
def FnClearMarksUptoCardSaid : Prop := Claim7.holds Tryz.pinned (.plain (OpenSpec.upto fnClearMarksSpec)) fnClearMarksUptoCard

/-- THE SECOND FORM's CARD OF 'laws.FnFrameVictim'. -/
def fnFrameVictimUptoCard : Claim7 := { stood := { row := fnFrameVictimUptoRow, standIns := [], harness := (true, "4299e728bcf08530108d3965aaa0efb889becd87a7ac4a4cedf6a799acb25fe0"), looks := false }, kinds := [], alts := [], laidByText := true, laidKinds := [.data], laidTests := true, laidLooks := .later }
def FnFrameVictimUptoCardSaid : Prop := Claim7.holds Tryz.pinned (.plain (OpenSpec.upto fnFrameVictimSpec)) fnFrameVictimUptoCard

/-- THE SECOND FORM's CARD OF 'laws.FnVictimSecond'. -/
def fnVictimSecondUptoCard : Claim7 := { stood := { row := fnVictimSecondUptoRow, standIns := [], harness := (true, "4299e728bcf08530108d3965aaa0efb889becd87a7ac4a4cedf6a799acb25fe0"), looks := false }, kinds := [], alts := [], laidByText := true, laidKinds := [.data], laidTests := true, laidLooks := .later }
def FnVictimSecondUptoCardSaid : Prop := Claim7.holds Tryz.pinned (.plain (OpenSpec.upto fnVictimSecondSpec)) fnVictimSecondUptoCard
end Rows
end Go.Proofs.YtkccmjfhmkjnlaaGreatDoor
