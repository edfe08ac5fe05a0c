/-
  DERIVED. GIVEN WITH THE SEED: THE CARDS: each row of YtfnliecmagnkdabDoorRows.lean that lists a variable, with what it lists TIED to the program's text (the seventh form; the later family's looks); each row that meets fmt, with fmt's text TOLD by the authors' own Lean function (tested against real Go, not proved from fmt's source: count such statements apart). THE CARD IS WHAT COUNTS. Prove the row's statement (the work); the ties are given (YtfnliecmagnkdabDoorTie.lean); close each card by the builder's one call (the guide's Derived/Test/ToyasCard.lean, 'card_holds'). Laid BY PROGRAM, IN A SANDBOX (cutbox-door.mjs). By AI agents, Wed Nov 11 2026. No macro, syntax, notation, axiom, sorry.
-/
import Derived.Test.YtfnliecmagnkdabDoorRows
import GoSem.ClaimSeven
namespace Go.Proofs.YtfnliecmagnkdabDoor
namespace Rows

/-- THE TIED CARD OF 'laws.FnExactLookCpu'. -/
def fnExactLookCpuCard : Claim7 := { stood := { row := fnExactLookCpuRow, standIns := [], harness := (true, "2d28977fdb78241312853c5bdf15aecc0730e180a79ef3e0149fd7bb0eecceec"), looks := false }, kinds := [], alts := [], laidByText := true, laidKinds := [.data], laidTests := true, laidLooks := .later }
def FnExactLookCpuCardSaid : Prop := Claim7.holds Tryd.pinned (.plain (OpenSpec.ofChange fnExactLookCpuSpec)) fnExactLookCpuCard

/-- THE TIED CARD OF 'laws.FnMapSystem'. -/
def fnMapSystemCard : Claim7 := { stood := { row := fnMapSystemRow, standIns := [], harness := (true, "2d28977fdb78241312853c5bdf15aecc0730e180a79ef3e0149fd7bb0eecceec"), looks := false }, kinds := [], alts := [], laidByText := true, laidKinds := [.data], laidTests := true, laidLooks := .later }
def FnMapSystemCardSaid : Prop := Claim7.holds Tryd.pinned (.plain (OpenSpec.ofChange fnMapSystemSpec)) fnMapSystemCard

/-- THE TIED CARD OF 'laws.FnUnmapSettle'. -/
def fnUnmapSettleCard : Claim7 := { stood := { row := fnUnmapSettleRow, standIns := [], harness := (true, "2d28977fdb78241312853c5bdf15aecc0730e180a79ef3e0149fd7bb0eecceec"), looks := false }, kinds := [], alts := [], laidByText := true, laidKinds := [.data], laidTests := true, laidLooks := .later }
def FnUnmapSettleCardSaid : Prop := Claim7.holds Tryd.pinned (.plain (OpenSpec.ofChange fnUnmapSettleSpec)) fnUnmapSettleCard

/-- THE TIED CARD OF 'laws.FnExactUnmapSystem'. -/
def fnExactUnmapSystemCard : Claim7 := { stood := { row := fnExactUnmapSystemRow, standIns := [], harness := (true, "2d28977fdb78241312853c5bdf15aecc0730e180a79ef3e0149fd7bb0eecceec"), looks := false }, kinds := [], alts := [], laidByText := true, laidKinds := [.data], laidTests := true, laidLooks := .later }
def FnExactUnmapSystemCardSaid : Prop := Claim7.holds Tryd.pinned (.plain (OpenSpec.ofChange fnExactUnmapSystemSpec)) fnExactUnmapSystemCard

/-- THE TIED CARD OF 'laws.FnExactHeldFrames'. -/
def fnExactHeldFramesCard : Claim7 := { stood := { row := fnExactHeldFramesRow, standIns := [], harness := (true, "2d28977fdb78241312853c5bdf15aecc0730e180a79ef3e0149fd7bb0eecceec"), looks := false }, kinds := [], alts := [], laidByText := true, laidKinds := [.data], laidTests := true, laidLooks := .later }
def FnExactHeldFramesCardSaid : Prop := Claim7.holds Tryd.pinned (.plain (OpenSpec.ofChange fnExactHeldFramesSpec)) fnExactHeldFramesCard

/-- THE TIED CARD OF 'laws.FnHeldWaits'. -/
def fnHeldWaitsCard : Claim7 := { stood := { row := fnHeldWaitsRow, standIns := [], harness := (true, "2d28977fdb78241312853c5bdf15aecc0730e180a79ef3e0149fd7bb0eecceec"), looks := false }, kinds := [], alts := [], laidByText := true, laidKinds := [.data], laidTests := true, laidLooks := .later }
def FnHeldWaitsCardSaid : Prop := Claim7.holds Tryd.pinned (.plain (OpenSpec.ofChange fnHeldWaitsSpec)) fnHeldWaitsCard

/-- THE TIED CARD OF 'laws.FnHeldFrames'. -/
def fnHeldFramesCard : Claim7 := { stood := { row := fnHeldFramesRow, standIns := [], harness := (true, "2d28977fdb78241312853c5bdf15aecc0730e180a79ef3e0149fd7bb0eecceec"), looks := false }, kinds := [], alts := [], laidByText := true, laidKinds := [.data], laidTests := true, laidLooks := .later }
def FnHeldFramesCardSaid : Prop := Claim7.holds Tryd.pinned (.plain (OpenSpec.ofChange fnHeldFramesSpec)) fnHeldFramesCard

/-- THE SECOND FORM's CARD OF 'laws.FnExactLookCpu'. -/
def fnExactLookCpuUptoCard : Claim7 := { stood := { row := fnExactLookCpuUptoRow, standIns := [], harness := (true, "2d28977fdb78241312853c5bdf15aecc0730e180a79ef3e0149fd7bb0eecceec"), looks := false }, kinds := [], alts := [], laidByText := true, laidKinds := [.data], laidTests := true, laidLooks := .later }
def FnExactLookCpuUptoCardSaid : Prop := Claim7.holds Tryd.pinned (.plain (OpenSpec.upto fnExactLookCpuSpec)) fnExactLookCpuUptoCard

/-- THE SECOND FORM's CARD OF 'laws.FnMapSystem'. -/
def fnMapSystemUptoCard : Claim7 := { stood := { row := fnMapSystemUptoRow, standIns := [], harness := (true, "2d28977fdb78241312853c5bdf15aecc0730e180a79ef3e0149fd7bb0eecceec"), looks := false }, kinds := [], alts := [], laidByText := true, laidKinds := [.data], laidTests := true, laidLooks := .later }
def FnMapSystemUptoCardSaid : Prop := Claim7.holds Tryd.pinned (.plain (OpenSpec.upto fnMapSystemSpec)) fnMapSystemUptoCard

/-- THE SECOND FORM's CARD OF 'laws.FnUnmapSettle'. -/
def fnUnmapSettleUptoCard : Claim7 := { stood := { row := fnUnmapSettleUptoRow, standIns := [], harness := (true, "2d28977fdb78241312853c5bdf15aecc0730e180a79ef3e0149fd7bb0eecceec"), looks := false }, kinds := [], alts := [], laidByText := true, laidKinds := [.data], laidTests := true, laidLooks := .later }
def FnUnmapSettleUptoCardSaid : Prop := Claim7.holds Tryd.pinned (.plain (OpenSpec.upto fnUnmapSettleSpec)) fnUnmapSettleUptoCard

/-- THE SECOND FORM's CARD OF 'laws.FnExactUnmapSystem'. -/
def fnExactUnmapSystemUptoCard : Claim7 := { stood := { row := fnExactUnmapSystemUptoRow, standIns := [], harness := (true, "2d28977fdb78241312853c5bdf15aecc0730e180a79ef3e0149fd7bb0eecceec"), looks := false }, kinds := [], alts := [], laidByText := true, laidKinds := [.data], laidTests := true, laidLooks := .later }
def FnExactUnmapSystemUptoCardSaid : Prop := Claim7.holds Tryd.pinned (.plain (OpenSpec.upto fnExactUnmapSystemSpec)) fnExactUnmapSystemUptoCard

/-- THE SECOND FORM's CARD OF 'laws.FnExactHeldFrames'. -/
def fnExactHeldFramesUptoCard : Claim7 := { stood := { row := fnExactHeldFramesUptoRow, standIns := [], harness := (true, "2d28977fdb78241312853c5bdf15aecc0730e180a79ef3e0149fd7bb0eecceec"), looks := false }, kinds := [], alts := [], laidByText := true, laidKinds := [.data], laidTests := true, laidLooks := .later }
def FnExactHeldFramesUptoCardSaid : Prop := Claim7.holds Tryd.pinned (.plain (OpenSpec.upto fnExactHeldFramesSpec)) fnExactHeldFramesUptoCard

/-- THE SECOND FORM's CARD OF 'laws.FnHeldWaits'. -/
def fnHeldWaitsUptoCard : Claim7 := { stood := { row := fnHeldWaitsUptoRow, standIns := [], harness := (true, "2d28977fdb78241312853c5bdf15aecc0730e180a79ef3e0149fd7bb0eecceec"), looks := false }, kinds := [], alts := [], laidByText := true, laidKinds := [.data], laidTests := true, laidLooks := .later }
def FnHeldWaitsUptoCardSaid : Prop := Claim7.holds Tryd.pinned (.plain (OpenSpec.upto fnHeldWaitsSpec)) fnHeldWaitsUptoCard

/-- THE SECOND FORM's CARD OF 'laws.FnHeldFrames'. -/
def fnHeldFramesUptoCard : Claim7 := { stood := { row := fnHeldFramesUptoRow, standIns := [], harness := (true, "2d28977fdb78241312853c5bdf15aecc0730e180a79ef3e0149fd7bb0eecceec"), looks := false }, kinds := [], alts := [], laidByText := true, laidKinds := [.data], laidTests := true, laidLooks := .later }
def FnHeldFramesUptoCardSaid : Prop := Claim7.holds Tryd.pinned (.plain (OpenSpec.upto fnHeldFramesSpec)) fnHeldFramesUptoCard
end Rows
end Go.Proofs.YtfnliecmagnkdabDoor
