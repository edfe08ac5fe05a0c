/-
  DERIVED. GIVEN WITH THE SEED: THE CARDS: each row of YtbgodaeccgjdgaaGreatDoorRows.lean that lists a variable, with what it lists TIED to the program's text (the seventh form; the later family's looks); each row that meets fmt, with fmt's text TOLD by the authors' own Lean function (tested against real Go, not proved from fmt's source: count such statements apart). THE CARD IS WHAT COUNTS. Prove the row's statement (the work); the ties are given (YtbgodaeccgjdgaaGreatDoorTie.lean); close each card by the builder's one call (the guide's Derived/Test/ToyasCard.lean, 'card_holds'). Laid BY PROGRAM, IN A SANDBOX (cutbox-door.mjs). By AI agents, Wed Nov 11 2026. No macro, syntax, notation, axiom, sorry.
-/
import Derived.Test.YtbgodaeccgjdgaaGreatDoorRows
import GoSem.ClaimSeven
namespace Go.Proofs.YtbgodaeccgjdgaaGreatDoor
namespace Rows

/-- THE TIED CARD OF 'laws.FnExactPutPage'. -/
def fnExactPutPageCard : Claim7 := { stood := { row := fnExactPutPageRow, standIns := [], harness := (true, "9d551b6f677893710c2424772685f9075b98d1f09172052ffcd59db5a811be92"), looks := false }, kinds := [], alts := [], laidByText := true, laidKinds := [.data], laidTests := true, laidLooks := .later }
def FnExactPutPageCardSaid : Prop := Claim7.holds Tryz.pinned (.plain (OpenSpec.ofChange fnExactPutPageSpec)) fnExactPutPageCard

/-- THE TIED CARD OF 'laws.FnExactEnterSpace'. -/
def fnExactEnterSpaceCard : Claim7 := { stood := { row := fnExactEnterSpaceRow, standIns := [], harness := (true, "9d551b6f677893710c2424772685f9075b98d1f09172052ffcd59db5a811be92"), looks := false }, kinds := [], alts := [], laidByText := true, laidKinds := [.data], laidTests := true, laidLooks := .later }
def FnExactEnterSpaceCardSaid : Prop := Claim7.holds Tryz.pinned (.plain (OpenSpec.ofChange fnExactEnterSpaceSpec)) fnExactEnterSpaceCard

/-- THE TIED CARD OF 'laws.FnExactGuardPage'. -/
def fnExactGuardPageCard : Claim7 := { stood := { row := fnExactGuardPageRow, standIns := [], harness := (true, "9d551b6f677893710c2424772685f9075b98d1f09172052ffcd59db5a811be92"), looks := false }, kinds := [], alts := [], laidByText := true, laidKinds := [.data], laidTests := true, laidLooks := .later }
def FnExactGuardPageCardSaid : Prop := Claim7.holds Tryz.pinned (.plain (OpenSpec.ofChange fnExactGuardPageSpec)) fnExactGuardPageCard

/-- THE TIED CARD OF 'laws.FnExactTakePage'. -/
def fnExactTakePageCard : Claim7 := { stood := { row := fnExactTakePageRow, standIns := [], harness := (true, "9d551b6f677893710c2424772685f9075b98d1f09172052ffcd59db5a811be92"), looks := false }, kinds := [], alts := [], laidByText := true, laidKinds := [.data], laidTests := true, laidLooks := .later }
def FnExactTakePageCardSaid : Prop := Claim7.holds Tryz.pinned (.plain (OpenSpec.ofChange fnExactTakePageSpec)) fnExactTakePageCard

/-- THE TIED CARD OF 'laws.FnExactTouchPage'. -/
def fnExactTouchPageCard : Claim7 := { stood := { row := fnExactTouchPageRow, standIns := [], harness := (true, "9d551b6f677893710c2424772685f9075b98d1f09172052ffcd59db5a811be92"), looks := false }, kinds := [], alts := [], laidByText := true, laidKinds := [.data], laidTests := true, laidLooks := .later }
def FnExactTouchPageCardSaid : Prop := Claim7.holds Tryz.pinned (.plain (OpenSpec.ofChange fnExactTouchPageSpec)) fnExactTouchPageCard

/-- THE TIED CARD OF 'laws.FnExactWirePage'. -/
def fnExactWirePageCard : Claim7 := { stood := { row := fnExactWirePageRow, standIns := [], harness := (true, "9d551b6f677893710c2424772685f9075b98d1f09172052ffcd59db5a811be92"), looks := false }, kinds := [], alts := [], laidByText := true, laidKinds := [.data], laidTests := true, laidLooks := .later }
def FnExactWirePageCardSaid : Prop := Claim7.holds Tryz.pinned (.plain (OpenSpec.ofChange fnExactWirePageSpec)) fnExactWirePageCard

/-- THE TIED CARD OF 'laws.FnUseMachine'. -/
def fnUseMachineCard : Claim7 := { stood := { row := fnUseMachineRow, standIns := [], harness := (true, "9d551b6f677893710c2424772685f9075b98d1f09172052ffcd59db5a811be92"), looks := false }, kinds := [], alts := [], laidByText := true, laidKinds := [.data], laidTests := true, laidLooks := .later }
def FnUseMachineCardSaid : Prop := Claim7.holds Tryz.pinned (.plain (OpenSpec.ofChange fnUseMachineSpec)) fnUseMachineCard

/-- THE TIED CARD OF 'laws.FnUsePages'. -/
def fnUsePagesCard : Claim7 := { stood := { row := fnUsePagesRow, standIns := [], harness := (true, "9d551b6f677893710c2424772685f9075b98d1f09172052ffcd59db5a811be92"), looks := false }, kinds := [], alts := [], laidByText := true, laidKinds := [.data], laidTests := true, laidLooks := .later }
def FnUsePagesCardSaid : Prop := Claim7.holds Tryz.pinned (.plain (OpenSpec.ofChange fnUsePagesSpec)) fnUsePagesCard

/-- THE TIED CARD OF 'laws.FnExactNewMemory'. -/
def fnExactNewMemoryCard : Claim7 := { stood := { row := fnExactNewMemoryRow, standIns := [], harness := (true, "9d551b6f677893710c2424772685f9075b98d1f09172052ffcd59db5a811be92"), looks := false }, kinds := [], alts := [], laidByText := true, laidKinds := [.data], laidTests := true, laidLooks := .later }
def FnExactNewMemoryCardSaid : Prop := Claim7.holds Tryz.pinned (.plain (OpenSpec.ofChange fnExactNewMemorySpec)) fnExactNewMemoryCard

/-- THE TIED CARD OF 'laws.FnExactClearMarks'. -/
def fnExactClearMarksCard : Claim7 := { stood := { row := fnExactClearMarksRow, standIns := [], harness := (true, "9d551b6f677893710c2424772685f9075b98d1f09172052ffcd59db5a811be92"), looks := false }, kinds := [], alts := [], laidByText := true, laidKinds := [.data], laidTests := true, laidLooks := .later }
def FnExactClearMarksCardSaid : Prop := Claim7.holds Tryz.pinned (.plain (OpenSpec.ofChange fnExactClearMarksSpec)) fnExactClearMarksCard

/-- THE TIED CARD OF 'laws.FnExactFrameVictim'. -/
def fnExactFrameVictimCard : Claim7 := { stood := { row := fnExactFrameVictimRow, standIns := [], harness := (true, "9d551b6f677893710c2424772685f9075b98d1f09172052ffcd59db5a811be92"), looks := false }, kinds := [], alts := [], laidByText := true, laidKinds := [.data], laidTests := true, laidLooks := .later }
def FnExactFrameVictimCardSaid : Prop := Claim7.holds Tryz.pinned (.plain (OpenSpec.ofChange fnExactFrameVictimSpec)) fnExactFrameVictimCard

/-- THE SECOND FORM's CARD OF 'laws.FnExactPutPage'. -/
def fnExactPutPageUptoCard : Claim7 := { stood := { row := fnExactPutPageUptoRow, standIns := [], harness := (true, "9d551b6f677893710c2424772685f9075b98d1f09172052ffcd59db5a811be92"), looks := false }, kinds := [], alts := [], laidByText := true, laidKinds := [.data], laidTests := true, laidLooks := .later }
def FnExactPutPageUptoCardSaid : Prop := Claim7.holds Tryz.pinned (.plain (OpenSpec.upto fnExactPutPageSpec)) fnExactPutPageUptoCard

/-- THE SECOND FORM's CARD OF 'laws.FnExactEnterSpace'. -/
def fnExactEnterSpaceUptoCard : Claim7 := { stood := { row := fnExactEnterSpaceUptoRow, standIns := [], harness := (true, "9d551b6f677893710c2424772685f9075b98d1f09172052ffcd59db5a811be92"), looks := false }, kinds := [], alts := [], laidByText := true, laidKinds := [.data], laidTests := true, laidLooks := .later }
def FnExactEnterSpaceUptoCardSaid : Prop := Claim7.holds Tryz.pinned (.plain (OpenSpec.upto fnExactEnterSpaceSpec)) fnExactEnterSpaceUptoCard

/-- THE SECOND FORM's CARD OF 'laws.FnExactGuardPage'. -/
def fnExactGuardPageUptoCard : Claim7 := { stood := { row := fnExactGuardPageUptoRow, standIns := [], harness := (true, "9d551b6f677893710c2424772685f9075b98d1f09172052ffcd59db5a811be92"), looks := false }, kinds := [], alts := [], laidByText := true, laidKinds := [.data], laidTests := true, laidLooks := .later }
def FnExactGuardPageUptoCardSaid : Prop := Claim7.holds Tryz.pinned (.plain (OpenSpec.upto fnExactGuardPageSpec)) fnExactGuardPageUptoCard

/-- THE SECOND FORM's CARD OF 'laws.FnExactTakePage'. -/
def fnExactTakePageUptoCard : Claim7 := { stood := { row := fnExactTakePageUptoRow, standIns := [], harness := (true, "9d551b6f677893710c2424772685f9075b98d1f09172052ffcd59db5a811be92"), looks := false }, kinds := [], alts := [], laidByText := true, laidKinds := [.data], laidTests := true, laidLooks := .later }
def FnExactTakePageUptoCardSaid : Prop := Claim7.holds Tryz.pinned (.plain (OpenSpec.upto fnExactTakePageSpec)) fnExactTakePageUptoCard

/-- THE SECOND FORM's CARD OF 'laws.FnExactTouchPage'. -/
def fnExactTouchPageUptoCard : Claim7 := { stood := { row := fnExactTouchPageUptoRow, standIns := [], harness := (true, "9d551b6f677893710c2424772685f9075b98d1f09172052ffcd59db5a811be92"), looks := false }, kinds := [], alts := [], laidByText := true, laidKinds := [.data], laidTests := true, laidLooks := .later }
def FnExactTouchPageUptoCardSaid : Prop := Claim7.holds Tryz.pinned (.plain (OpenSpec.upto fnExactTouchPageSpec)) fnExactTouchPageUptoCard

/-- THE SECOND FORM's CARD OF 'laws.FnExactWirePage'. -/
def fnExactWirePageUptoCard : Claim7 := { stood := { row := fnExactWirePageUptoRow, standIns := [], harness := (true, "9d551b6f677893710c2424772685f9075b98d1f09172052ffcd59db5a811be92"), looks := false }, kinds := [], alts := [], laidByText := true, laidKinds := [.data], laidTests := true, laidLooks := .later }
def FnExactWirePageUptoCardSaid : Prop := Claim7.holds Tryz.pinned (.plain (OpenSpec.upto fnExactWirePageSpec)) fnExactWirePageUptoCard

/-- THE SECOND FORM's CARD OF 'laws.FnUseMachine'. -/
def fnUseMachineUptoCard : Claim7 := { stood := { row := fnUseMachineUptoRow, standIns := [], harness := (true, "9d551b6f677893710c2424772685f9075b98d1f09172052ffcd59db5a811be92"), looks := false }, kinds := [], alts := [], laidByText := true, laidKinds := [.data], laidTests := true, laidLooks := .later }
def FnUseMachineUptoCardSaid : Prop := Claim7.holds Tryz.pinned (.plain (OpenSpec.upto fnUseMachineSpec)) fnUseMachineUptoCard

/-- THE SECOND FORM's CARD OF 'laws.FnUsePages'. -/
def fnUsePagesUptoCard : Claim7 := { stood := { row := fnUsePagesUptoRow, standIns := [], harness := (true, "9d551b6f677893710c2424772685f9075b98d1f09172052ffcd59db5a811be92"), looks := false }, kinds := [], alts := [], laidByText := true, laidKinds := [.data], laidTests := true, laidLooks := .later }
def FnUsePagesUptoCardSaid : Prop := Claim7.holds Tryz.pinned (.plain (OpenSpec.upto fnUsePagesSpec)) fnUsePagesUptoCard

/-- THE SECOND FORM's CARD OF 'laws.FnExactNewMemory'. -/
def fnExactNewMemoryUptoCard : Claim7 := { stood := { row := fnExactNewMemoryUptoRow, standIns := [], harness := (true, "9d551b6f677893710c2424772685f9075b98d1f09172052ffcd59db5a811be92"), looks := false }, kinds := [], alts := [], laidByText := true, laidKinds := [.data], laidTests := true, laidLooks := .later }
def FnExactNewMemoryUptoCardSaid : Prop := Claim7.holds Tryz.pinned (.plain (OpenSpec.upto fnExactNewMemorySpec)) fnExactNewMemoryUptoCard

/-- THE SECOND FORM's CARD OF 'laws.FnExactClearMarks'. -/
def fnExactClearMarksUptoCard : Claim7 := { stood := { row := fnExactClearMarksUptoRow, standIns := [], harness := (true, "9d551b6f677893710c2424772685f9075b98d1f09172052ffcd59db5a811be92"), looks := false }, kinds := [], alts := [], laidByText := true, laidKinds := [.data], laidTests := true, laidLooks := .later }
def FnExactClearMarksUptoCardSaid : Prop := Claim7.holds Tryz.pinned (.plain (OpenSpec.upto fnExactClearMarksSpec)) fnExactClearMarksUptoCard

/-- THE SECOND FORM's CARD OF 'laws.FnExactFrameVictim'. -/
def fnExactFrameVictimUptoCard : Claim7 := { stood := { row := fnExactFrameVictimUptoRow, standIns := [], harness := (true, "9d551b6f677893710c2424772685f9075b98d1f09172052ffcd59db5a811be92"), looks := false }, kinds := [], alts := [], laidByText := true, laidKinds := [.data], laidTests := true, laidLooks := .later }
def FnExactFrameVictimUptoCardSaid : Prop := Claim7.holds Tryz.pinned (.plain (OpenSpec.upto fnExactFrameVictimSpec)) fnExactFrameVictimUptoCard
end Rows
end Go.Proofs.YtbgodaeccgjdgaaGreatDoor
