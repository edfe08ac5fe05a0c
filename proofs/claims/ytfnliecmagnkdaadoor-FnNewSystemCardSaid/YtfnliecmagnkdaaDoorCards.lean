/-
  DERIVED. GIVEN WITH THE SEED: THE CARDS: each row of YtfnliecmagnkdaaDoorRows.lean that lists a variable, with what it lists TIED to the program's text (the seventh form; the later family's looks); each row that meets fmt, with fmt's text TOLD by the authors' own Lean function (tested against real Go, not proved from fmt's source: count such statements apart). THE CARD IS WHAT COUNTS. Prove the row's statement (the work); the ties are given (YtfnliecmagnkdaaDoorTie.lean); close each card by the builder's one call (the guide's Derived/Test/ToyasCard.lean, 'card_holds'). Laid BY PROGRAM, IN A SANDBOX (cutbox-door.mjs). By AI agents, Wed Nov 11 2026. No macro, syntax, notation, axiom, sorry.
-/
import Derived.Test.YtfnliecmagnkdaaDoorRows
import GoSem.ClaimSeven
namespace Go.Proofs.YtfnliecmagnkdaaDoor
namespace Rows

/-- THE TIED CARD OF 'laws.FnExactSystemValid'. -/
def fnExactSystemValidCard : Claim7 := { stood := { row := fnExactSystemValidRow, standIns := [], harness := (true, "be702d8bef41ead58659c981e0e0debe3e27b9e1929ce3ae14d751a24d0f9b40"), looks := false }, kinds := [], alts := [], laidByText := true, laidKinds := [.data], laidTests := true, laidLooks := .later }
def FnExactSystemValidCardSaid : Prop := Claim7.holds Tryd.pinned (.plain (OpenSpec.ofChange fnExactSystemValidSpec)) fnExactSystemValidCard

/-- THE TIED CARD OF 'laws.FnSystemValid'. -/
def fnSystemValidCard : Claim7 := { stood := { row := fnSystemValidRow, standIns := [], harness := (true, "be702d8bef41ead58659c981e0e0debe3e27b9e1929ce3ae14d751a24d0f9b40"), looks := false }, kinds := [], alts := [], laidByText := true, laidKinds := [.data], laidTests := true, laidLooks := .later }
def FnSystemValidCardSaid : Prop := Claim7.holds Tryd.pinned (.plain (OpenSpec.ofChange fnSystemValidSpec)) fnSystemValidCard

/-- THE TIED CARD OF 'laws.FnSystemSame'. -/
def fnSystemSameCard : Claim7 := { stood := { row := fnSystemSameRow, standIns := [], harness := (true, "be702d8bef41ead58659c981e0e0debe3e27b9e1929ce3ae14d751a24d0f9b40"), looks := false }, kinds := [], alts := [], laidByText := true, laidKinds := [.data], laidTests := true, laidLooks := .later }
def FnSystemSameCardSaid : Prop := Claim7.holds Tryd.pinned (.plain (OpenSpec.ofChange fnSystemSameSpec)) fnSystemSameCard

/-- THE TIED CARD OF 'laws.FnLookOthers'. -/
def fnLookOthersCard : Claim7 := { stood := { row := fnLookOthersRow, standIns := [], harness := (true, "be702d8bef41ead58659c981e0e0debe3e27b9e1929ce3ae14d751a24d0f9b40"), looks := false }, kinds := [], alts := [], laidByText := true, laidKinds := [.data], laidTests := true, laidLooks := .later }
def FnLookOthersCardSaid : Prop := Claim7.holds Tryd.pinned (.plain (OpenSpec.ofChange fnLookOthersSpec)) fnLookOthersCard

/-- THE TIED CARD OF 'laws.FnLookTwice'. -/
def fnLookTwiceCard : Claim7 := { stood := { row := fnLookTwiceRow, standIns := [], harness := (true, "be702d8bef41ead58659c981e0e0debe3e27b9e1929ce3ae14d751a24d0f9b40"), looks := false }, kinds := [], alts := [], laidByText := true, laidKinds := [.data], laidTests := true, laidLooks := .later }
def FnLookTwiceCardSaid : Prop := Claim7.holds Tryd.pinned (.plain (OpenSpec.ofChange fnLookTwiceSpec)) fnLookTwiceCard

/-- THE TIED CARD OF 'laws.FnAckCpu'. -/
def fnAckCpuCard : Claim7 := { stood := { row := fnAckCpuRow, standIns := [], harness := (true, "be702d8bef41ead58659c981e0e0debe3e27b9e1929ce3ae14d751a24d0f9b40"), looks := false }, kinds := [], alts := [], laidByText := true, laidKinds := [.data], laidTests := true, laidLooks := .later }
def FnAckCpuCardSaid : Prop := Claim7.holds Tryd.pinned (.plain (OpenSpec.ofChange fnAckCpuSpec)) fnAckCpuCard

/-- THE TIED CARD OF 'laws.FnLookCpu'. -/
def fnLookCpuCard : Claim7 := { stood := { row := fnLookCpuRow, standIns := [], harness := (true, "be702d8bef41ead58659c981e0e0debe3e27b9e1929ce3ae14d751a24d0f9b40"), looks := false }, kinds := [], alts := [], laidByText := true, laidKinds := [.data], laidTests := true, laidLooks := .later }
def FnLookCpuCardSaid : Prop := Claim7.holds Tryd.pinned (.plain (OpenSpec.ofChange fnLookCpuSpec)) fnLookCpuCard

/-- THE TIED CARD OF 'laws.FnNewSystem'. -/
def fnNewSystemCard : Claim7 := { stood := { row := fnNewSystemRow, standIns := [], harness := (true, "be702d8bef41ead58659c981e0e0debe3e27b9e1929ce3ae14d751a24d0f9b40"), looks := false }, kinds := [], alts := [], laidByText := true, laidKinds := [.data], laidTests := true, laidLooks := .later }
def FnNewSystemCardSaid : Prop := Claim7.holds Tryd.pinned (.plain (OpenSpec.ofChange fnNewSystemSpec)) fnNewSystemCard

/-- THE TIED CARD OF 'laws.FnExactSettleSystem'. -/
def fnExactSettleSystemCard : Claim7 := { stood := { row := fnExactSettleSystemRow, standIns := [], harness := (true, "be702d8bef41ead58659c981e0e0debe3e27b9e1929ce3ae14d751a24d0f9b40"), looks := false }, kinds := [], alts := [], laidByText := true, laidKinds := [.data], laidTests := true, laidLooks := .later }
def FnExactSettleSystemCardSaid : Prop := Claim7.holds Tryd.pinned (.plain (OpenSpec.ofChange fnExactSettleSystemSpec)) fnExactSettleSystemCard

/-- THE TIED CARD OF 'laws.FnExactAckCpu'. -/
def fnExactAckCpuCard : Claim7 := { stood := { row := fnExactAckCpuRow, standIns := [], harness := (true, "be702d8bef41ead58659c981e0e0debe3e27b9e1929ce3ae14d751a24d0f9b40"), looks := false }, kinds := [], alts := [], laidByText := true, laidKinds := [.data], laidTests := true, laidLooks := .later }
def FnExactAckCpuCardSaid : Prop := Claim7.holds Tryd.pinned (.plain (OpenSpec.ofChange fnExactAckCpuSpec)) fnExactAckCpuCard

/-- THE TIED CARD OF 'laws.FnSettleLook'. -/
def fnSettleLookCard : Claim7 := { stood := { row := fnSettleLookRow, standIns := [], harness := (true, "be702d8bef41ead58659c981e0e0debe3e27b9e1929ce3ae14d751a24d0f9b40"), looks := false }, kinds := [], alts := [], laidByText := true, laidKinds := [.data], laidTests := true, laidLooks := .later }
def FnSettleLookCardSaid : Prop := Claim7.holds Tryd.pinned (.plain (OpenSpec.ofChange fnSettleLookSpec)) fnSettleLookCard

/-- THE TIED CARD OF 'laws.FnExactMapSystem'. -/
def fnExactMapSystemCard : Claim7 := { stood := { row := fnExactMapSystemRow, standIns := [], harness := (true, "be702d8bef41ead58659c981e0e0debe3e27b9e1929ce3ae14d751a24d0f9b40"), looks := false }, kinds := [], alts := [], laidByText := true, laidKinds := [.data], laidTests := true, laidLooks := .later }
def FnExactMapSystemCardSaid : Prop := Claim7.holds Tryd.pinned (.plain (OpenSpec.ofChange fnExactMapSystemSpec)) fnExactMapSystemCard

/-- THE SECOND FORM's CARD OF 'laws.FnExactSystemValid'. -/
def fnExactSystemValidUptoCard : Claim7 := { stood := { row := fnExactSystemValidUptoRow, standIns := [], harness := (true, "be702d8bef41ead58659c981e0e0debe3e27b9e1929ce3ae14d751a24d0f9b40"), looks := false }, kinds := [], alts := [], laidByText := true, laidKinds := [.data], laidTests := true, laidLooks := .later }
def FnExactSystemValidUptoCardSaid : Prop := Claim7.holds Tryd.pinned (.plain (OpenSpec.upto fnExactSystemValidSpec)) fnExactSystemValidUptoCard

/-- THE SECOND FORM's CARD OF 'laws.FnSystemValid'. -/
def fnSystemValidUptoCard : Claim7 := { stood := { row := fnSystemValidUptoRow, standIns := [], harness := (true, "be702d8bef41ead58659c981e0e0debe3e27b9e1929ce3ae14d751a24d0f9b40"), looks := false }, kinds := [], alts := [], laidByText := true, laidKinds := [.data], laidTests := true, laidLooks := .later }
def FnSystemValidUptoCardSaid : Prop := Claim7.holds Tryd.pinned (.plain (OpenSpec.upto fnSystemValidSpec)) fnSystemValidUptoCard

/-- THE SECOND FORM's CARD OF 'laws.FnSystemSame'. -/
def fnSystemSameUptoCard : Claim7 := { stood := { row := fnSystemSameUptoRow, standIns := [], harness := (true, "be702d8bef41ead58659c981e0e0debe3e27b9e1929ce3ae14d751a24d0f9b40"), looks := false }, kinds := [], alts := [], laidByText := true, laidKinds := [.data], laidTests := true, laidLooks := .later }
def FnSystemSameUptoCardSaid : Prop := Claim7.holds Tryd.pinned (.plain (OpenSpec.upto fnSystemSameSpec)) fnSystemSameUptoCard

/-- THE SECOND FORM's CARD OF 'laws.FnLookOthers'. -/
def fnLookOthersUptoCard : Claim7 := { stood := { row := fnLookOthersUptoRow, standIns := [], harness := (true, "be702d8bef41ead58659c981e0e0debe3e27b9e1929ce3ae14d751a24d0f9b40"), looks := false }, kinds := [], alts := [], laidByText := true, laidKinds := [.data], laidTests := true, laidLooks := .later }
def FnLookOthersUptoCardSaid : Prop := Claim7.holds Tryd.pinned (.plain (OpenSpec.upto fnLookOthersSpec)) fnLookOthersUptoCard

/-- THE SECOND FORM's CARD OF 'laws.FnLookTwice'. -/
def fnLookTwiceUptoCard : Claim7 := { stood := { row := fnLookTwiceUptoRow, standIns := [], harness := (true, "be702d8bef41ead58659c981e0e0debe3e27b9e1929ce3ae14d751a24d0f9b40"), looks := false }, kinds := [], alts := [], laidByText := true, laidKinds := [.data], laidTests := true, laidLooks := .later }
def FnLookTwiceUptoCardSaid : Prop := Claim7.holds Tryd.pinned (.plain (OpenSpec.upto fnLookTwiceSpec)) fnLookTwiceUptoCard

/-- THE SECOND FORM's CARD OF 'laws.FnAckCpu'. -/
def fnAckCpuUptoCard : Claim7 := { stood := { row := fnAckCpuUptoRow, standIns := [], harness := (true, "be702d8bef41ead58659c981e0e0debe3e27b9e1929ce3ae14d751a24d0f9b40"), looks := false }, kinds := [], alts := [], laidByText := true, laidKinds := [.data], laidTests := true, laidLooks := .later }
def FnAckCpuUptoCardSaid : Prop := Claim7.holds Tryd.pinned (.plain (OpenSpec.upto fnAckCpuSpec)) fnAckCpuUptoCard

/-- THE SECOND FORM's CARD OF 'laws.FnLookCpu'. -/
def fnLookCpuUptoCard : Claim7 := { stood := { row := fnLookCpuUptoRow, standIns := [], harness := (true, "be702d8bef41ead58659c981e0e0debe3e27b9e1929ce3ae14d751a24d0f9b40"), looks := false }, kinds := [], alts := [], laidByText := true, laidKinds := [.data], laidTests := true, laidLooks := .later }
def FnLookCpuUptoCardSaid : Prop := Claim7.holds Tryd.pinned (.plain (OpenSpec.upto fnLookCpuSpec)) fnLookCpuUptoCard

/-- THE SECOND FORM's CARD OF 'laws.FnNewSystem'. -/
def fnNewSystemUptoCard : Claim7 := { stood := { row := fnNewSystemUptoRow, standIns := [], harness := (true, "be702d8bef41ead58659c981e0e0debe3e27b9e1929ce3ae14d751a24d0f9b40"), looks := false }, kinds := [], alts := [], laidByText := true, laidKinds := [.data], laidTests := true, laidLooks := .later }
def FnNewSystemUptoCardSaid : Prop := Claim7.holds Tryd.pinned (.plain (OpenSpec.upto fnNewSystemSpec)) fnNewSystemUptoCard

/-- THE SECOND FORM's CARD OF 'laws.FnExactSettleSystem'. -/
def fnExactSettleSystemUptoCard : Claim7 := { stood := { row := fnExactSettleSystemUptoRow, standIns := [], harness := (true, "be702d8bef41ead58659c981e0e0debe3e27b9e1929ce3ae14d751a24d0f9b40"), looks := false }, kinds := [], alts := [], laidByText := true, laidKinds := [.data], laidTests := true, laidLooks := .later }
def FnExactSettleSystemUptoCardSaid : Prop := Claim7.holds Tryd.pinned (.plain (OpenSpec.upto fnExactSettleSystemSpec)) fnExactSettleSystemUptoCard

/-- THE SECOND FORM's CARD OF 'laws.FnExactAckCpu'. -/
def fnExactAckCpuUptoCard : Claim7 := { stood := { row := fnExactAckCpuUptoRow, standIns := [], harness := (true, "be702d8bef41ead58659c981e0e0debe3e27b9e1929ce3ae14d751a24d0f9b40"), looks := false }, kinds := [], alts := [], laidByText := true, laidKinds := [.data], laidTests := true, laidLooks := .later }
def FnExactAckCpuUptoCardSaid : Prop := Claim7.holds Tryd.pinned (.plain (OpenSpec.upto fnExactAckCpuSpec)) fnExactAckCpuUptoCard

/-- THE SECOND FORM's CARD OF 'laws.FnSettleLook'. -/
def fnSettleLookUptoCard : Claim7 := { stood := { row := fnSettleLookUptoRow, standIns := [], harness := (true, "be702d8bef41ead58659c981e0e0debe3e27b9e1929ce3ae14d751a24d0f9b40"), looks := false }, kinds := [], alts := [], laidByText := true, laidKinds := [.data], laidTests := true, laidLooks := .later }
def FnSettleLookUptoCardSaid : Prop := Claim7.holds Tryd.pinned (.plain (OpenSpec.upto fnSettleLookSpec)) fnSettleLookUptoCard

/-- THE SECOND FORM's CARD OF 'laws.FnExactMapSystem'. -/
def fnExactMapSystemUptoCard : Claim7 := { stood := { row := fnExactMapSystemUptoRow, standIns := [], harness := (true, "be702d8bef41ead58659c981e0e0debe3e27b9e1929ce3ae14d751a24d0f9b40"), looks := false }, kinds := [], alts := [], laidByText := true, laidKinds := [.data], laidTests := true, laidLooks := .later }
def FnExactMapSystemUptoCardSaid : Prop := Claim7.holds Tryd.pinned (.plain (OpenSpec.upto fnExactMapSystemSpec)) fnExactMapSystemUptoCard
end Rows
end Go.Proofs.YtfnliecmagnkdaaDoor
