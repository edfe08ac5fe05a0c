/-
  DERIVED. GIVEN WITH THE SEED: THE CARDS: each row of YtkocamaoeojfhaaDoorRows.lean that lists a variable, with what it lists TIED to the program's text (the seventh form; the later family's looks); each row that meets fmt, with fmt's text TOLD by the authors' own Lean function (tested against real Go, not proved from fmt's source: count such statements apart). THE CARD IS WHAT COUNTS. Prove the row's statement (the work); the ties are given (YtkocamaoeojfhaaDoorTie.lean); close each card by the builder's one call (the guide's Derived/Test/ToyasCard.lean, 'card_holds'). Laid BY PROGRAM, IN A SANDBOX (cutbox-door.mjs). By AI agents, Wed Nov 11 2026. No macro, syntax, notation, axiom, sorry.
-/
import Derived.Test.YtkocamaoeojfhaaDoorRows
import GoSem.ClaimSeven
namespace Go.Proofs.YtkocamaoeojfhaaDoor
namespace Rows

/-- THE TIED CARD OF 'laws.FnMapPage'. -/
def fnMapPageCard : Claim7 := { stood := { row := fnMapPageRow, standIns := [], harness := (true, "0f4dbe95b59a5921e2218e398f2967b390a57e7d574936f3f8cd26c2002eed01"), looks := false }, kinds := [], alts := [], laidByText := true, laidKinds := [.data], laidTests := true, laidLooks := .later }
def FnMapPageCardSaid : Prop := Claim7.holds Tryd.pinned (.plain (OpenSpec.ofChange fnMapPageSpec)) fnMapPageCard

/-- THE TIED CARD OF 'laws.FnExactProtectPage'. -/
def fnExactProtectPageCard : Claim7 := { stood := { row := fnExactProtectPageRow, standIns := [], harness := (true, "0f4dbe95b59a5921e2218e398f2967b390a57e7d574936f3f8cd26c2002eed01"), looks := false }, kinds := [], alts := [], laidByText := true, laidKinds := [.data], laidTests := true, laidLooks := .later }
def FnExactProtectPageCardSaid : Prop := Claim7.holds Tryd.pinned (.plain (OpenSpec.ofChange fnExactProtectPageSpec)) fnExactProtectPageCard

/-- THE TIED CARD OF 'laws.FnExactMapPage'. -/
def fnExactMapPageCard : Claim7 := { stood := { row := fnExactMapPageRow, standIns := [], harness := (true, "0f4dbe95b59a5921e2218e398f2967b390a57e7d574936f3f8cd26c2002eed01"), looks := false }, kinds := [], alts := [], laidByText := true, laidKinds := [.data], laidTests := true, laidLooks := .later }
def FnExactMapPageCardSaid : Prop := Claim7.holds Tryd.pinned (.plain (OpenSpec.ofChange fnExactMapPageSpec)) fnExactMapPageCard

/-- THE TIED CARD OF 'laws.FnProtectPage'. -/
def fnProtectPageCard : Claim7 := { stood := { row := fnProtectPageRow, standIns := [], harness := (true, "0f4dbe95b59a5921e2218e398f2967b390a57e7d574936f3f8cd26c2002eed01"), looks := false }, kinds := [], alts := [], laidByText := true, laidKinds := [.data], laidTests := true, laidLooks := .later }
def FnProtectPageCardSaid : Prop := Claim7.holds Tryd.pinned (.plain (OpenSpec.ofChange fnProtectPageSpec)) fnProtectPageCard

/-- THE TIED CARD OF 'laws.FnExactUnmapPage'. -/
def fnExactUnmapPageCard : Claim7 := { stood := { row := fnExactUnmapPageRow, standIns := [], harness := (true, "0f4dbe95b59a5921e2218e398f2967b390a57e7d574936f3f8cd26c2002eed01"), looks := false }, kinds := [], alts := [], laidByText := true, laidKinds := [.data], laidTests := true, laidLooks := .later }
def FnExactUnmapPageCardSaid : Prop := Claim7.holds Tryd.pinned (.plain (OpenSpec.ofChange fnExactUnmapPageSpec)) fnExactUnmapPageCard

/-- THE TIED CARD OF 'laws.FnMapOrder'. -/
def fnMapOrderCard : Claim7 := { stood := { row := fnMapOrderRow, standIns := [], harness := (true, "0f4dbe95b59a5921e2218e398f2967b390a57e7d574936f3f8cd26c2002eed01"), looks := false }, kinds := [], alts := [], laidByText := true, laidKinds := [.data], laidTests := true, laidLooks := .later }
def FnMapOrderCardSaid : Prop := Claim7.holds Tryd.pinned (.plain (OpenSpec.ofChange fnMapOrderSpec)) fnMapOrderCard

/-- THE TIED CARD OF 'laws.FnProtectTwice'. -/
def fnProtectTwiceCard : Claim7 := { stood := { row := fnProtectTwiceRow, standIns := [], harness := (true, "0f4dbe95b59a5921e2218e398f2967b390a57e7d574936f3f8cd26c2002eed01"), looks := false }, kinds := [], alts := [], laidByText := true, laidKinds := [.data], laidTests := true, laidLooks := .later }
def FnProtectTwiceCardSaid : Prop := Claim7.holds Tryd.pinned (.plain (OpenSpec.ofChange fnProtectTwiceSpec)) fnProtectTwiceCard

/-- THE TIED CARD OF 'laws.FnUnmapPage'. -/
def fnUnmapPageCard : Claim7 := { stood := { row := fnUnmapPageRow, standIns := [], harness := (true, "0f4dbe95b59a5921e2218e398f2967b390a57e7d574936f3f8cd26c2002eed01"), looks := false }, kinds := [], alts := [], laidByText := true, laidKinds := [.data], laidTests := true, laidLooks := .later }
def FnUnmapPageCardSaid : Prop := Claim7.holds Tryd.pinned (.plain (OpenSpec.ofChange fnUnmapPageSpec)) fnUnmapPageCard

/-- THE TIED CARD OF 'laws.FnUnmapAll'. -/
def fnUnmapAllCard : Claim7 := { stood := { row := fnUnmapAllRow, standIns := [], harness := (true, "0f4dbe95b59a5921e2218e398f2967b390a57e7d574936f3f8cd26c2002eed01"), looks := false }, kinds := [], alts := [], laidByText := true, laidKinds := [.data], laidTests := true, laidLooks := .later }
def FnUnmapAllCardSaid : Prop := Claim7.holds Tryd.pinned (.plain (OpenSpec.ofChange fnUnmapAllSpec)) fnUnmapAllCard

/-- THE SECOND FORM's CARD OF 'laws.FnMapPage'. -/
def fnMapPageUptoCard : Claim7 := { stood := { row := fnMapPageUptoRow, standIns := [], harness := (true, "0f4dbe95b59a5921e2218e398f2967b390a57e7d574936f3f8cd26c2002eed01"), looks := false }, kinds := [], alts := [], laidByText := true, laidKinds := [.data], laidTests := true, laidLooks := .later }
def FnMapPageUptoCardSaid : Prop := Claim7.holds Tryd.pinned (.plain (OpenSpec.upto fnMapPageSpec)) fnMapPageUptoCard

/-- THE SECOND FORM's CARD OF 'laws.FnExactProtectPage'. -/
def fnExactProtectPageUptoCard : Claim7 := { stood := { row := fnExactProtectPageUptoRow, standIns := [], harness := (true, "0f4dbe95b59a5921e2218e398f2967b390a57e7d574936f3f8cd26c2002eed01"), looks := false }, kinds := [], alts := [], laidByText := true, laidKinds := [.data], laidTests := true, laidLooks := .later }
def FnExactProtectPageUptoCardSaid : Prop := Claim7.holds Tryd.pinned (.plain (OpenSpec.upto fnExactProtectPageSpec)) fnExactProtectPageUptoCard

/-- THE SECOND FORM's CARD OF 'laws.FnExactMapPage'. -/
def fnExactMapPageUptoCard : Claim7 := { stood := { row := fnExactMapPageUptoRow, standIns := [], harness := (true, "0f4dbe95b59a5921e2218e398f2967b390a57e7d574936f3f8cd26c2002eed01"), looks := false }, kinds := [], alts := [], laidByText := true, laidKinds := [.data], laidTests := true, laidLooks := .later }
def FnExactMapPageUptoCardSaid : Prop := Claim7.holds Tryd.pinned (.plain (OpenSpec.upto fnExactMapPageSpec)) fnExactMapPageUptoCard

/-- THE SECOND FORM's CARD OF 'laws.FnProtectPage'. -/
def fnProtectPageUptoCard : Claim7 := { stood := { row := fnProtectPageUptoRow, standIns := [], harness := (true, "0f4dbe95b59a5921e2218e398f2967b390a57e7d574936f3f8cd26c2002eed01"), looks := false }, kinds := [], alts := [], laidByText := true, laidKinds := [.data], laidTests := true, laidLooks := .later }
def FnProtectPageUptoCardSaid : Prop := Claim7.holds Tryd.pinned (.plain (OpenSpec.upto fnProtectPageSpec)) fnProtectPageUptoCard

/-- THE SECOND FORM's CARD OF 'laws.FnExactUnmapPage'. -/
def fnExactUnmapPageUptoCard : Claim7 := { stood := { row := fnExactUnmapPageUptoRow, standIns := [], harness := (true, "0f4dbe95b59a5921e2218e398f2967b390a57e7d574936f3f8cd26c2002eed01"), looks := false }, kinds := [], alts := [], laidByText := true, laidKinds := [.data], laidTests := true, laidLooks := .later }
def FnExactUnmapPageUptoCardSaid : Prop := Claim7.holds Tryd.pinned (.plain (OpenSpec.upto fnExactUnmapPageSpec)) fnExactUnmapPageUptoCard

/-- THE SECOND FORM's CARD OF 'laws.FnMapOrder'. -/
def fnMapOrderUptoCard : Claim7 := { stood := { row := fnMapOrderUptoRow, standIns := [], harness := (true, "0f4dbe95b59a5921e2218e398f2967b390a57e7d574936f3f8cd26c2002eed01"), looks := false }, kinds := [], alts := [], laidByText := true, laidKinds := [.data], laidTests := true, laidLooks := .later }
def FnMapOrderUptoCardSaid : Prop := Claim7.holds Tryd.pinned (.plain (OpenSpec.upto fnMapOrderSpec)) fnMapOrderUptoCard

/-- THE SECOND FORM's CARD OF 'laws.FnProtectTwice'. -/
def fnProtectTwiceUptoCard : Claim7 := { stood := { row := fnProtectTwiceUptoRow, standIns := [], harness := (true, "0f4dbe95b59a5921e2218e398f2967b390a57e7d574936f3f8cd26c2002eed01"), looks := false }, kinds := [], alts := [], laidByText := true, laidKinds := [.data], laidTests := true, laidLooks := .later }
def FnProtectTwiceUptoCardSaid : Prop := Claim7.holds Tryd.pinned (.plain (OpenSpec.upto fnProtectTwiceSpec)) fnProtectTwiceUptoCard

/-- THE SECOND FORM's CARD OF 'laws.FnUnmapPage'. -/
def fnUnmapPageUptoCard : Claim7 := { stood := { row := fnUnmapPageUptoRow, standIns := [], harness := (true, "0f4dbe95b59a5921e2218e398f2967b390a57e7d574936f3f8cd26c2002eed01"), looks := false }, kinds := [], alts := [], laidByText := true, laidKinds := [.data], laidTests := true, laidLooks := .later }
def FnUnmapPageUptoCardSaid : Prop := Claim7.holds Tryd.pinned (.plain (OpenSpec.upto fnUnmapPageSpec)) fnUnmapPageUptoCard

/-- THE SECOND FORM's CARD OF 'laws.FnUnmapAll'. -/
def fnUnmapAllUptoCard : Claim7 := { stood := { row := fnUnmapAllUptoRow, standIns := [], harness := (true, "0f4dbe95b59a5921e2218e398f2967b390a57e7d574936f3f8cd26c2002eed01"), looks := false }, kinds := [], alts := [], laidByText := true, laidKinds := [.data], laidTests := true, laidLooks := .later }
def FnUnmapAllUptoCardSaid : Prop := Claim7.holds Tryd.pinned (.plain (OpenSpec.upto fnUnmapAllSpec)) fnUnmapAllUptoCard
end Rows
end Go.Proofs.YtkocamaoeojfhaaDoor
