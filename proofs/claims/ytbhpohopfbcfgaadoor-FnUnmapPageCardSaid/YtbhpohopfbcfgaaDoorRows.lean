/-
  NARROWER THAN 'FOR EVERY INPUT', by the rows' own cells (each row's printed sentence says how): FnMapOrder: laid · FnProtectTwice: laid · FnUnmapPage: laid · FnUnmapAll: laid.
  DERIVED. THE GIVEN ROWS OF THIS SEAT. 4 by the template 'for every input the law returns true; each argument reads behind the call as it read before'; 0 by the template 'total and deterministic' (their statements: YtbhpohopfbcfgaaDoorTotals.lean).
  GIVEN WITH THE SEED: the statements are not yours to turn. If you find one false, say at which input.
  Laid BY PROGRAM, IN A SANDBOX (cutbox-rows.mjs): the forced cells as the released guide's own fill.sh prints them over the translation e83088930c66283a… (all of the seat's roots in one cut). By AI agents, Wed Nov 11 2026. No macro, syntax, notation, axiom, sorry.
-/
import Derived.Test.YtbhpohopfbcfgaaDoorChecked
import GoSem.Claim
import GoSem.ClaimJoined
import GoSem.ClaimMapViews
import Derived.JoinedTies
import Derived.KernelRfl
namespace Go.Proofs.YtbhpohopfbcfgaaDoor
/- THE CELL 'sum', in the pinned program and in every row, IS THE sha256 OF THE DUMP (.gsa) THAT YtbhpohopfbcfgaaDoorProg.lean LOADS. Nothing in Lean hashes anything: it is a label: what it is worth is what the hold of that sum in a sandbox is worth. -/
noncomputable def Tryd.pinned : Pinned := { name := "ytbhpohopfbcfgaadoor", sum := "e83088930c66283a4e8bb51abc33042b9ccb7288f23af9b00190d68494be7c11", checked := Tryd.checked }
namespace Rows
def none {H : Type} : Left H := { results := [], args := [] }

/- WHAT THE LISTED PACKAGE-LEVEL VARIABLES READ AS WHEN THE CALL BEGINS. Each datum BY PROGRAM (the guide's laid-datum.mjs) off the statement by which the dump's own 'gosem.cut.vars' lays the variable. In a bare row this is a premise. The card (YtbhpohopfbcfgaaDoorCards.lean) ties it to the program's text. -/
def laid_loop_example_invertedpages_impl_free {H : Type} : DataW H := .agg [.lit (.bool false), .agg [.lit (.int .i64 0), .lit (.int .i64 0)], .lit (.int .i64 0), .lit (.int .i64 (-1))]

/-- 'laws.FnMapOrder': WHATEVER THE INPUT: true; the input reads as it did. -/
def fnMapOrderSpec : ChangeSpec := { name := "fnMapOrder", vars := ["loop.example/invertedpages/impl.free"], fn := fun _ => fun
  | [d, g1] => { results := [.lit (.bool true)], args := [d], vars := [g1] }
  | _ => none }
def fnMapOrderRow : OpenClaim := { program := "ytbhpohopfbcfgaadoor", sum := "e83088930c66283a4e8bb51abc33042b9ccb7288f23af9b00190d68494be7c11", func := "loop.example/invertedpages/laws.FnMapOrder", spec := "fnMapOrder", unfollowed := true, recurses := true, named := ["loop.example/invertedpages/impl.free"], plainKeys := false, apart := false, laid := [("loop.example/invertedpages/impl.free", laid_loop_example_invertedpages_impl_free)] }
def FnMapOrderSaid : Prop := fnMapOrderRow.holds Tryd.pinned (OpenSpec.ofChange fnMapOrderSpec)

/-- ITS FALSE NEIGHBOUR: 'it returns false'. Refute it at one input. -/
def fnMapOrderWrong : ChangeSpec := { name := "fnMapOrder", vars := ["loop.example/invertedpages/impl.free"], fn := fun _ => fun
  | [d, g1] => { results := [.lit (.bool false)], args := [d], vars := [g1] }
  | _ => none }
def FnMapOrderWrongFalsely : Prop := fnMapOrderRow.holds Tryd.pinned (OpenSpec.ofChange fnMapOrderWrong)

/-- 'laws.FnProtectTwice': WHATEVER THE INPUT: true; the input reads as it did. -/
def fnProtectTwiceSpec : ChangeSpec := { name := "fnProtectTwice", vars := ["loop.example/invertedpages/impl.free"], fn := fun _ => fun
  | [d, g1] => { results := [.lit (.bool true)], args := [d], vars := [g1] }
  | _ => none }
def fnProtectTwiceRow : OpenClaim := { program := "ytbhpohopfbcfgaadoor", sum := "e83088930c66283a4e8bb51abc33042b9ccb7288f23af9b00190d68494be7c11", func := "loop.example/invertedpages/laws.FnProtectTwice", spec := "fnProtectTwice", unfollowed := true, recurses := true, named := ["loop.example/invertedpages/impl.free"], plainKeys := false, apart := false, laid := [("loop.example/invertedpages/impl.free", laid_loop_example_invertedpages_impl_free)] }
def FnProtectTwiceSaid : Prop := fnProtectTwiceRow.holds Tryd.pinned (OpenSpec.ofChange fnProtectTwiceSpec)

/-- ITS FALSE NEIGHBOUR: 'it returns false'. Refute it at one input. -/
def fnProtectTwiceWrong : ChangeSpec := { name := "fnProtectTwice", vars := ["loop.example/invertedpages/impl.free"], fn := fun _ => fun
  | [d, g1] => { results := [.lit (.bool false)], args := [d], vars := [g1] }
  | _ => none }
def FnProtectTwiceWrongFalsely : Prop := fnProtectTwiceRow.holds Tryd.pinned (OpenSpec.ofChange fnProtectTwiceWrong)

/-- 'laws.FnUnmapPage': WHATEVER THE INPUT: true; the input reads as it did. -/
def fnUnmapPageSpec : ChangeSpec := { name := "fnUnmapPage", vars := ["loop.example/invertedpages/impl.free"], fn := fun _ => fun
  | [d, g1] => { results := [.lit (.bool true)], args := [d], vars := [g1] }
  | _ => none }
def fnUnmapPageRow : OpenClaim := { program := "ytbhpohopfbcfgaadoor", sum := "e83088930c66283a4e8bb51abc33042b9ccb7288f23af9b00190d68494be7c11", func := "loop.example/invertedpages/laws.FnUnmapPage", spec := "fnUnmapPage", unfollowed := true, recurses := true, named := ["loop.example/invertedpages/impl.free"], plainKeys := false, apart := false, laid := [("loop.example/invertedpages/impl.free", laid_loop_example_invertedpages_impl_free)] }
def FnUnmapPageSaid : Prop := fnUnmapPageRow.holds Tryd.pinned (OpenSpec.ofChange fnUnmapPageSpec)

/-- ITS FALSE NEIGHBOUR: 'it returns false'. Refute it at one input. -/
def fnUnmapPageWrong : ChangeSpec := { name := "fnUnmapPage", vars := ["loop.example/invertedpages/impl.free"], fn := fun _ => fun
  | [d, g1] => { results := [.lit (.bool false)], args := [d], vars := [g1] }
  | _ => none }
def FnUnmapPageWrongFalsely : Prop := fnUnmapPageRow.holds Tryd.pinned (OpenSpec.ofChange fnUnmapPageWrong)

/-- 'laws.FnUnmapAll': WHATEVER THE INPUT: true; the input reads as it did. -/
def fnUnmapAllSpec : ChangeSpec := { name := "fnUnmapAll", vars := ["loop.example/invertedpages/impl.free"], fn := fun _ => fun
  | [d, g1] => { results := [.lit (.bool true)], args := [d], vars := [g1] }
  | _ => none }
def fnUnmapAllRow : OpenClaim := { program := "ytbhpohopfbcfgaadoor", sum := "e83088930c66283a4e8bb51abc33042b9ccb7288f23af9b00190d68494be7c11", func := "loop.example/invertedpages/laws.FnUnmapAll", spec := "fnUnmapAll", unfollowed := true, recurses := true, named := ["loop.example/invertedpages/impl.free"], plainKeys := false, apart := false, laid := [("loop.example/invertedpages/impl.free", laid_loop_example_invertedpages_impl_free)] }
def FnUnmapAllSaid : Prop := fnUnmapAllRow.holds Tryd.pinned (OpenSpec.ofChange fnUnmapAllSpec)

/-- ITS FALSE NEIGHBOUR: 'it returns false'. Refute it at one input. -/
def fnUnmapAllWrong : ChangeSpec := { name := "fnUnmapAll", vars := ["loop.example/invertedpages/impl.free"], fn := fun _ => fun
  | [d, g1] => { results := [.lit (.bool false)], args := [d], vars := [g1] }
  | _ => none }
def FnUnmapAllWrongFalsely : Prop := fnUnmapAllRow.holds Tryd.pinned (OpenSpec.ofChange fnUnmapAllWrong)

/- THE SECOND FORM. 'bulk': how many values and letters a reading holds, each counted each time it is reached (what is shared counts as often as it is met; a slice's spare places count too). A statement '..UptoSaid' is the law's where the arguments, and the package variables that the reading takes, are together of bulk at most 1048576: NARROWER than '..Said'. Prove '..Said' where nothing that the law and all that it calls make is longer than what came in: it says more and counts as full. Else prove '..UptoSaid'. A law counts once. -/
mutual
def uptoBulk {H : Type} : DataW H → Nat
  | .lit (.string bytes) => bytes.length + 1
  | .lit _ => 1
  | .nil => 1
  | .ptr d => uptoBulk d + 1
  | .slice elems spare => uptoBulkAll elems + uptoBulkAll spare + 1
  | .agg parts => uptoBulkAll parts + 1
  | .iface _ d => uptoBulk d + 1
  | .map entries => uptoBulkEntries entries + 1
  | .held _ => 1
def uptoBulkAll {H : Type} : List (DataW H) → Nat
  | [] => 0
  | d :: r => uptoBulk d + uptoBulkAll r
def uptoBulkEntries {H : Type} : List (Lit × DataW H) → Nat
  | [] => 0
  | x :: r => uptoBulkEntry x + uptoBulkEntries r
def uptoBulkEntry {H : Type} : Lit × DataW H → Nat
  | (.string bytes, d) => bytes.length + uptoBulk d + 1
  | (_, d) => uptoBulk d + 1
 end
def uptoSmall : (H : Type) → List (DataW H) → Bool := fun _ ds => decide (uptoBulkAll ds ≤ 1048576)
def OpenSpec.upto (s : _root_.Go.ChangeSpec) : _root_.Go.OpenSpec := { _root_.Go.OpenSpec.ofChange s with cond := some uptoSmall }

/-- 'laws.FnMapOrder', WHERE WHAT IT READS IS OF BULK AT MOST 1048576: true; the input reads as it did. -/
def fnMapOrderUptoRow : OpenClaim := { program := "ytbhpohopfbcfgaadoor", sum := "e83088930c66283a4e8bb51abc33042b9ccb7288f23af9b00190d68494be7c11", func := "loop.example/invertedpages/laws.FnMapOrder", spec := "fnMapOrder", unfollowed := true, recurses := true, named := ["loop.example/invertedpages/impl.free"], plainKeys := false, apart := false, laid := [("loop.example/invertedpages/impl.free", laid_loop_example_invertedpages_impl_free)], narrowed := true }
def FnMapOrderUptoSaid : Prop := fnMapOrderUptoRow.holds Tryd.pinned (OpenSpec.upto fnMapOrderSpec)

/-- 'laws.FnProtectTwice', WHERE WHAT IT READS IS OF BULK AT MOST 1048576: true; the input reads as it did. -/
def fnProtectTwiceUptoRow : OpenClaim := { program := "ytbhpohopfbcfgaadoor", sum := "e83088930c66283a4e8bb51abc33042b9ccb7288f23af9b00190d68494be7c11", func := "loop.example/invertedpages/laws.FnProtectTwice", spec := "fnProtectTwice", unfollowed := true, recurses := true, named := ["loop.example/invertedpages/impl.free"], plainKeys := false, apart := false, laid := [("loop.example/invertedpages/impl.free", laid_loop_example_invertedpages_impl_free)], narrowed := true }
def FnProtectTwiceUptoSaid : Prop := fnProtectTwiceUptoRow.holds Tryd.pinned (OpenSpec.upto fnProtectTwiceSpec)

/-- 'laws.FnUnmapPage', WHERE WHAT IT READS IS OF BULK AT MOST 1048576: true; the input reads as it did. -/
def fnUnmapPageUptoRow : OpenClaim := { program := "ytbhpohopfbcfgaadoor", sum := "e83088930c66283a4e8bb51abc33042b9ccb7288f23af9b00190d68494be7c11", func := "loop.example/invertedpages/laws.FnUnmapPage", spec := "fnUnmapPage", unfollowed := true, recurses := true, named := ["loop.example/invertedpages/impl.free"], plainKeys := false, apart := false, laid := [("loop.example/invertedpages/impl.free", laid_loop_example_invertedpages_impl_free)], narrowed := true }
def FnUnmapPageUptoSaid : Prop := fnUnmapPageUptoRow.holds Tryd.pinned (OpenSpec.upto fnUnmapPageSpec)

/-- 'laws.FnUnmapAll', WHERE WHAT IT READS IS OF BULK AT MOST 1048576: true; the input reads as it did. -/
def fnUnmapAllUptoRow : OpenClaim := { program := "ytbhpohopfbcfgaadoor", sum := "e83088930c66283a4e8bb51abc33042b9ccb7288f23af9b00190d68494be7c11", func := "loop.example/invertedpages/laws.FnUnmapAll", spec := "fnUnmapAll", unfollowed := true, recurses := true, named := ["loop.example/invertedpages/impl.free"], plainKeys := false, apart := false, laid := [("loop.example/invertedpages/impl.free", laid_loop_example_invertedpages_impl_free)], narrowed := true }
def FnUnmapAllUptoSaid : Prop := fnUnmapAllUptoRow.holds Tryd.pinned (OpenSpec.upto fnUnmapAllSpec)

end Rows
end Go.Proofs.YtbhpohopfbcfgaaDoor
