/-
  DERIVED. GIVEN WITH THE SEED: THE CARDS: each row of YtbhpohopfbcfgaaDoorRows.lean that lists a variable, with what it lists TIED to the program's text (the seventh form; the later family's looks); each row that meets fmt, with fmt's text TOLD by the authors' own Lean function (tested against real Go, not proved from fmt's source: count such statements apart). THE CARD IS WHAT COUNTS. Prove the row's statement (the work); the ties are given (YtbhpohopfbcfgaaDoorTie.lean); close each card by the builder's one call (the guide's Derived/Test/ToyasCard.lean, 'card_holds'). Laid BY PROGRAM, IN A SANDBOX (cutbox-door.mjs). By AI agents, Wed Nov 11 2026. No macro, syntax, notation, axiom, sorry.
-/
import Derived.Test.YtbhpohopfbcfgaaDoorRows
import GoSem.ClaimSeven
namespace Go.Proofs.YtbhpohopfbcfgaaDoor
namespace Rows

/-- THE TIED CARD OF 'laws.FnMapOrder'. -/
def fnMapOrderCard : Claim7 := { stood := { row := fnMapOrderRow, standIns := [], harness := (true, "b7f149ce709b60d9335b9edc51cbc1a23d8b9b371f84557abf9b04745d7c43ab"), looks := false }, kinds := [], alts := [], laidByText := true, laidKinds := [.data], laidTests := true, laidLooks := .later }
def FnMapOrderCardSaid : Prop := Claim7.holds Tryd.pinned (.plain (OpenSpec.ofChange fnMapOrderSpec)) fnMapOrderCard

/-- THE TIED CARD OF 'laws.FnProtectTwice'. -/
def fnProtectTwiceCard : Claim7 := { stood := { row := fnProtectTwiceRow, standIns := [], harness := (true, "b7f149ce709b60d9335b9edc51cbc1a23d8b9b371f84557abf9b04745d7c43ab"), looks := false }, kinds := [], alts := [], laidByText := true, laidKinds := [.data], laidTests := true, laidLooks := .later }
def FnProtectTwiceCardSaid : Prop := Claim7.holds Tryd.pinned (.plain (OpenSpec.ofChange fnProtectTwiceSpec)) fnProtectTwiceCard

/-- THE TIED CARD OF 'laws.FnUnmapPage'. -/
def fnUnmapPageCard : Claim7 := { stood := { row := fnUnmapPageRow, standIns := [], harness := (true, "b7f149ce709b60d9335b9edc51cbc1a23d8b9b371f84557abf9b04745d7c43ab"), looks := false }, kinds := [], alts := [], laidByText := true, laidKinds := [.data], laidTests := true, laidLooks := .later }
def FnUnmapPageCardSaid : Prop := Claim7.holds Tryd.pinned (.plain (OpenSpec.ofChange fnUnmapPageSpec)) fnUnmapPageCard

/-- THE TIED CARD OF 'laws.FnUnmapAll'. -/
def fnUnmapAllCard : Claim7 := { stood := { row := fnUnmapAllRow, standIns := [], harness := (true, "b7f149ce709b60d9335b9edc51cbc1a23d8b9b371f84557abf9b04745d7c43ab"), looks := false }, kinds := [], alts := [], laidByText := true, laidKinds := [.data], laidTests := true, laidLooks := .later }
def FnUnmapAllCardSaid : Prop := Claim7.holds Tryd.pinned (.plain (OpenSpec.ofChange fnUnmapAllSpec)) fnUnmapAllCard

/-- THE SECOND FORM's CARD OF 'laws.FnMapOrder'. -/
def fnMapOrderUptoCard : Claim7 := { stood := { row := fnMapOrderUptoRow, standIns := [], harness := (true, "b7f149ce709b60d9335b9edc51cbc1a23d8b9b371f84557abf9b04745d7c43ab"), looks := false }, kinds := [], alts := [], laidByText := true, laidKinds := [.data], laidTests := true, laidLooks := .later }
def FnMapOrderUptoCardSaid : Prop := Claim7.holds Tryd.pinned (.plain (OpenSpec.upto fnMapOrderSpec)) fnMapOrderUptoCard

/-- THE SECOND FORM's CARD OF 'laws.FnProtectTwice'. -/
def fnProtectTwiceUptoCard : Claim7 := { stood := { row := fnProtectTwiceUptoRow, standIns := [], harness := (true, "b7f149ce709b60d9335b9edc51cbc1a23d8b9b371f84557abf9b04745d7c43ab"), looks := false }, kinds := [], alts := [], laidByText := true, laidKinds := [.data], laidTests := true, laidLooks := .later }
def FnProtectTwiceUptoCardSaid : Prop := Claim7.holds Tryd.pinned (.plain (OpenSpec.upto fnProtectTwiceSpec)) fnProtectTwiceUptoCard

/-- THE SECOND FORM's CARD OF 'laws.FnUnmapPage'. -/
def fnUnmapPageUptoCard : Claim7 := { stood := { row := fnUnmapPageUptoRow, standIns := [], harness := (true, "b7f149ce709b60d9335b9edc51cbc1a23d8b9b371f84557abf9b04745d7c43ab"), looks := false }, kinds := [], alts := [], laidByText := true, laidKinds := [.data], laidTests := true, laidLooks := .later }
def FnUnmapPageUptoCardSaid : Prop := Claim7.holds Tryd.pinned (.plain (OpenSpec.upto fnUnmapPageSpec)) fnUnmapPageUptoCard

/-- THE SECOND FORM's CARD OF 'laws.FnUnmapAll'. -/
def fnUnmapAllUptoCard : Claim7 := { stood := { row := fnUnmapAllUptoRow, standIns := [], harness := (true, "b7f149ce709b60d9335b9edc51cbc1a23d8b9b371f84557abf9b04745d7c43ab"), looks := false }, kinds := [], alts := [], laidByText := true, laidKinds := [.data], laidTests := true, laidLooks := .later }
def FnUnmapAllUptoCardSaid : Prop := Claim7.holds Tryd.pinned (.plain (OpenSpec.upto fnUnmapAllSpec)) fnUnmapAllUptoCard
end Rows
end Go.Proofs.YtbhpohopfbcfgaaDoor
