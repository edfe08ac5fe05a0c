/-
  NARROWER THAN 'FOR EVERY INPUT', by the rows' own cells (each row's printed sentence says how): FnExactLookCpu: laid · FnMapSystem: laid · FnUnmapSettle: laid · FnExactUnmapSystem: laid · FnExactHeldFrames: laid · FnHeldWaits: laid · FnHeldFrames: laid.
  DERIVED. THE GIVEN ROWS OF THIS SEAT. 7 by the template 'for every input the law returns true; each argument reads behind the call as it read before'; 0 by the template 'total and deterministic' (their statements: YtfnliecmagnkdabDoorTotals.lean).
  GIVEN WITH THE SEED: the statements are not yours to turn. If you find one false, say at which input.
  Laid BY PROGRAM, IN A SANDBOX (cutbox-rows.mjs): the forced cells as the released guide's own fill.sh prints them over the translation 6194ce291887b863… (all of the seat's roots in one cut). By AI agents, Wed Nov 11 2026. No macro, syntax, notation, axiom, sorry.
-/
import Derived.Test.YtfnliecmagnkdabDoorChecked
import GoSem.Claim
import GoSem.ClaimJoined
import GoSem.ClaimMapViews
import Derived.JoinedTies
import Derived.KernelRfl
namespace Go.Proofs.YtfnliecmagnkdabDoor
/- THE CELL 'sum', in the pinned program and in every row, IS THE sha256 OF THE DUMP (.gsa) THAT YtfnliecmagnkdabDoorProg.lean LOADS. Nothing in Lean hashes anything: it is a label: what it is worth is what the hold of that sum in a sandbox is worth. -/
noncomputable def Tryd.pinned : Pinned := { name := "ytfnliecmagnkdabdoor", sum := "6194ce291887b863170988fdfef837780b627a824a4f5ee6a1f3a698fae117f4", checked := Tryd.checked }
namespace Rows
def none {H : Type} : Left H := { results := [], args := [] }

/- WHAT THE LISTED PACKAGE-LEVEL VARIABLES READ AS WHEN THE CALL BEGINS. Each datum BY PROGRAM (the guide's laid-datum.mjs) off the statement by which the dump's own 'gosem.cut.vars' lays the variable. In a bare row this is a premise. The card (YtfnliecmagnkdabDoorCards.lean) ties it to the program's text. -/
def laid_loop_example_invertedpages_impl_free {H : Type} : DataW H := .agg [.lit (.bool false), .agg [.lit (.int .i64 0), .lit (.int .i64 0)], .lit (.int .i64 0), .lit (.int .i64 (-1))]

/-- 'laws.FnExactLookCpu': WHATEVER THE INPUT: true; the input reads as it did. -/
def fnExactLookCpuSpec : ChangeSpec := { name := "fnExactLookCpu", vars := ["loop.example/invertedpages/impl.free"], fn := fun _ => fun
  | [d1, d2, d3, g1] => { results := [.lit (.bool true)], args := [d1, d2, d3], vars := [g1] }
  | _ => none }
def fnExactLookCpuRow : OpenClaim := { program := "ytfnliecmagnkdabdoor", sum := "6194ce291887b863170988fdfef837780b627a824a4f5ee6a1f3a698fae117f4", func := "loop.example/invertedpages/laws.FnExactLookCpu", spec := "fnExactLookCpu", unfollowed := true, recurses := true, named := ["loop.example/invertedpages/impl.free"], plainKeys := false, apart := false, laid := [("loop.example/invertedpages/impl.free", laid_loop_example_invertedpages_impl_free)] }
def FnExactLookCpuSaid : Prop := fnExactLookCpuRow.holds Tryd.pinned (OpenSpec.ofChange fnExactLookCpuSpec)

/-- ITS FALSE NEIGHBOUR: 'it returns false'. Refute it at one input. -/
def fnExactLookCpuWrong : ChangeSpec := { name := "fnExactLookCpu", vars := ["loop.example/invertedpages/impl.free"], fn := fun _ => fun
  | [d1, d2, d3, g1] => { results := [.lit (.bool false)], args := [d1, d2, d3], vars := [g1] }
  | _ => none }
def FnExactLookCpuWrongFalsely : Prop := fnExactLookCpuRow.holds Tryd.pinned (OpenSpec.ofChange fnExactLookCpuWrong)

/-- 'laws.FnMapSystem': WHATEVER THE INPUT: true; the input reads as it did. -/
def fnMapSystemSpec : ChangeSpec := { name := "fnMapSystem", vars := ["loop.example/invertedpages/impl.free"], fn := fun _ => fun
  | [d, g1] => { results := [.lit (.bool true)], args := [d], vars := [g1] }
  | _ => none }
def fnMapSystemRow : OpenClaim := { program := "ytfnliecmagnkdabdoor", sum := "6194ce291887b863170988fdfef837780b627a824a4f5ee6a1f3a698fae117f4", func := "loop.example/invertedpages/laws.FnMapSystem", spec := "fnMapSystem", unfollowed := true, recurses := true, named := ["loop.example/invertedpages/impl.free"], plainKeys := false, apart := false, laid := [("loop.example/invertedpages/impl.free", laid_loop_example_invertedpages_impl_free)] }
def FnMapSystemSaid : Prop := fnMapSystemRow.holds Tryd.pinned (OpenSpec.ofChange fnMapSystemSpec)

/-- ITS FALSE NEIGHBOUR: 'it returns false'. Refute it at one input. -/
def fnMapSystemWrong : ChangeSpec := { name := "fnMapSystem", vars := ["loop.example/invertedpages/impl.free"], fn := fun _ => fun
  | [d, g1] => { results := [.lit (.bool false)], args := [d], vars := [g1] }
  | _ => none }
def FnMapSystemWrongFalsely : Prop := fnMapSystemRow.holds Tryd.pinned (OpenSpec.ofChange fnMapSystemWrong)

/-- 'laws.FnUnmapSettle': WHATEVER THE INPUT: true; the input reads as it did. -/
def fnUnmapSettleSpec : ChangeSpec := { name := "fnUnmapSettle", vars := ["loop.example/invertedpages/impl.free"], fn := fun _ => fun
  | [d, g1] => { results := [.lit (.bool true)], args := [d], vars := [g1] }
  | _ => none }
def fnUnmapSettleRow : OpenClaim := { program := "ytfnliecmagnkdabdoor", sum := "6194ce291887b863170988fdfef837780b627a824a4f5ee6a1f3a698fae117f4", func := "loop.example/invertedpages/laws.FnUnmapSettle", spec := "fnUnmapSettle", unfollowed := true, recurses := true, named := ["loop.example/invertedpages/impl.free"], plainKeys := false, apart := false, laid := [("loop.example/invertedpages/impl.free", laid_loop_example_invertedpages_impl_free)] }
def FnUnmapSettleSaid : Prop := fnUnmapSettleRow.holds Tryd.pinned (OpenSpec.ofChange fnUnmapSettleSpec)

/-- ITS FALSE NEIGHBOUR: 'it returns false'. Refute it at one input. -/
def fnUnmapSettleWrong : ChangeSpec := { name := "fnUnmapSettle", vars := ["loop.example/invertedpages/impl.free"], fn := fun _ => fun
  | [d, g1] => { results := [.lit (.bool false)], args := [d], vars := [g1] }
  | _ => none }
def FnUnmapSettleWrongFalsely : Prop := fnUnmapSettleRow.holds Tryd.pinned (OpenSpec.ofChange fnUnmapSettleWrong)

/-- 'laws.FnExactUnmapSystem': WHATEVER THE INPUT: true; the input reads as it did. -/
def fnExactUnmapSystemSpec : ChangeSpec := { name := "fnExactUnmapSystem", vars := ["loop.example/invertedpages/impl.free"], fn := fun _ => fun
  | [d1, d2, d3, g1] => { results := [.lit (.bool true)], args := [d1, d2, d3], vars := [g1] }
  | _ => none }
def fnExactUnmapSystemRow : OpenClaim := { program := "ytfnliecmagnkdabdoor", sum := "6194ce291887b863170988fdfef837780b627a824a4f5ee6a1f3a698fae117f4", func := "loop.example/invertedpages/laws.FnExactUnmapSystem", spec := "fnExactUnmapSystem", unfollowed := true, recurses := true, named := ["loop.example/invertedpages/impl.free"], plainKeys := false, apart := false, laid := [("loop.example/invertedpages/impl.free", laid_loop_example_invertedpages_impl_free)] }
def FnExactUnmapSystemSaid : Prop := fnExactUnmapSystemRow.holds Tryd.pinned (OpenSpec.ofChange fnExactUnmapSystemSpec)

/-- ITS FALSE NEIGHBOUR: 'it returns false'. Refute it at one input. -/
def fnExactUnmapSystemWrong : ChangeSpec := { name := "fnExactUnmapSystem", vars := ["loop.example/invertedpages/impl.free"], fn := fun _ => fun
  | [d1, d2, d3, g1] => { results := [.lit (.bool false)], args := [d1, d2, d3], vars := [g1] }
  | _ => none }
def FnExactUnmapSystemWrongFalsely : Prop := fnExactUnmapSystemRow.holds Tryd.pinned (OpenSpec.ofChange fnExactUnmapSystemWrong)

/-- 'laws.FnExactHeldFrames': WHATEVER THE INPUT: true; the input reads as it did. -/
def fnExactHeldFramesSpec : ChangeSpec := { name := "fnExactHeldFrames", vars := ["loop.example/invertedpages/impl.free"], fn := fun _ => fun
  | [d, g1] => { results := [.lit (.bool true)], args := [d], vars := [g1] }
  | _ => none }
def fnExactHeldFramesRow : OpenClaim := { program := "ytfnliecmagnkdabdoor", sum := "6194ce291887b863170988fdfef837780b627a824a4f5ee6a1f3a698fae117f4", func := "loop.example/invertedpages/laws.FnExactHeldFrames", spec := "fnExactHeldFrames", unfollowed := true, recurses := true, named := ["loop.example/invertedpages/impl.free"], plainKeys := false, apart := false, laid := [("loop.example/invertedpages/impl.free", laid_loop_example_invertedpages_impl_free)] }
def FnExactHeldFramesSaid : Prop := fnExactHeldFramesRow.holds Tryd.pinned (OpenSpec.ofChange fnExactHeldFramesSpec)

/-- ITS FALSE NEIGHBOUR: 'it returns false'. Refute it at one input. -/
def fnExactHeldFramesWrong : ChangeSpec := { name := "fnExactHeldFrames", vars := ["loop.example/invertedpages/impl.free"], fn := fun _ => fun
  | [d, g1] => { results := [.lit (.bool false)], args := [d], vars := [g1] }
  | _ => none }
def FnExactHeldFramesWrongFalsely : Prop := fnExactHeldFramesRow.holds Tryd.pinned (OpenSpec.ofChange fnExactHeldFramesWrong)

/-- 'laws.FnHeldWaits': WHATEVER THE INPUT: true; the input reads as it did. -/
def fnHeldWaitsSpec : ChangeSpec := { name := "fnHeldWaits", vars := ["loop.example/invertedpages/impl.free"], fn := fun _ => fun
  | [d, g1] => { results := [.lit (.bool true)], args := [d], vars := [g1] }
  | _ => none }
def fnHeldWaitsRow : OpenClaim := { program := "ytfnliecmagnkdabdoor", sum := "6194ce291887b863170988fdfef837780b627a824a4f5ee6a1f3a698fae117f4", func := "loop.example/invertedpages/laws.FnHeldWaits", spec := "fnHeldWaits", unfollowed := true, recurses := true, named := ["loop.example/invertedpages/impl.free"], plainKeys := false, apart := false, laid := [("loop.example/invertedpages/impl.free", laid_loop_example_invertedpages_impl_free)] }
def FnHeldWaitsSaid : Prop := fnHeldWaitsRow.holds Tryd.pinned (OpenSpec.ofChange fnHeldWaitsSpec)

/-- ITS FALSE NEIGHBOUR: 'it returns false'. Refute it at one input. -/
def fnHeldWaitsWrong : ChangeSpec := { name := "fnHeldWaits", vars := ["loop.example/invertedpages/impl.free"], fn := fun _ => fun
  | [d, g1] => { results := [.lit (.bool false)], args := [d], vars := [g1] }
  | _ => none }
def FnHeldWaitsWrongFalsely : Prop := fnHeldWaitsRow.holds Tryd.pinned (OpenSpec.ofChange fnHeldWaitsWrong)

/-- 'laws.FnHeldFrames': WHATEVER THE INPUT: true; the input reads as it did. -/
def fnHeldFramesSpec : ChangeSpec := { name := "fnHeldFrames", vars := ["loop.example/invertedpages/impl.free"], fn := fun _ => fun
  | [d, g1] => { results := [.lit (.bool true)], args := [d], vars := [g1] }
  | _ => none }
def fnHeldFramesRow : OpenClaim := { program := "ytfnliecmagnkdabdoor", sum := "6194ce291887b863170988fdfef837780b627a824a4f5ee6a1f3a698fae117f4", func := "loop.example/invertedpages/laws.FnHeldFrames", spec := "fnHeldFrames", unfollowed := true, recurses := true, named := ["loop.example/invertedpages/impl.free"], plainKeys := false, apart := false, laid := [("loop.example/invertedpages/impl.free", laid_loop_example_invertedpages_impl_free)] }
def FnHeldFramesSaid : Prop := fnHeldFramesRow.holds Tryd.pinned (OpenSpec.ofChange fnHeldFramesSpec)

/-- ITS FALSE NEIGHBOUR: 'it returns false'. Refute it at one input. -/
def fnHeldFramesWrong : ChangeSpec := { name := "fnHeldFrames", vars := ["loop.example/invertedpages/impl.free"], fn := fun _ => fun
  | [d, g1] => { results := [.lit (.bool false)], args := [d], vars := [g1] }
  | _ => none }
def FnHeldFramesWrongFalsely : Prop := fnHeldFramesRow.holds Tryd.pinned (OpenSpec.ofChange fnHeldFramesWrong)

/- THE SECOND FORM. 'bulk': how many values and letters a reading holds, each counted each time it is reached (what is shared counts as often as it is met; a slice's spare places count too). A statement '..UptoSaid' is the law's where the arguments, and the package variables that the reading takes, are together of bulk at most 1048576: NARROWER than '..Said'. Prove '..Said' where nothing that the law and all that it calls make is longer than what came in: it says more and counts as full. Else prove '..UptoSaid'. A law counts once. -/
mutual
def uptoBulk {H : Type} : DataW H → Nat
  | .lit (.string bytes) => bytes.length + 1
  | .lit _ => 1
  | .nil => 1
  | .ptr d => uptoBulk d + 1
  | .slice elems spare => uptoBulkAll elems + uptoBulkAll spare + 1
  | .agg parts => uptoBulkAll parts + 1
  | .iface _ d => uptoBulk d + 1
  | .map entries => uptoBulkEntries entries + 1
  | .held _ => 1
def uptoBulkAll {H : Type} : List (DataW H) → Nat
  | [] => 0
  | d :: r => uptoBulk d + uptoBulkAll r
def uptoBulkEntries {H : Type} : List (Lit × DataW H) → Nat
  | [] => 0
  | x :: r => uptoBulkEntry x + uptoBulkEntries r
def uptoBulkEntry {H : Type} : Lit × DataW H → Nat
  | (.string bytes, d) => bytes.length + uptoBulk d + 1
  | (_, d) => uptoBulk d + 1
 end
def uptoSmall : (H : Type) → List (DataW H) → Bool := fun _ ds => decide (uptoBulkAll ds ≤ 1048576)
def OpenSpec.upto (s : _root_.Go.ChangeSpec) : _root_.Go.OpenSpec := { _root_.Go.OpenSpec.ofChange s with cond := some uptoSmall }

/-- 'laws.FnExactLookCpu', WHERE WHAT IT READS IS OF BULK AT MOST 1048576: true; the input reads as it did. -/
def fnExactLookCpuUptoRow : OpenClaim := { program := "ytfnliecmagnkdabdoor", sum := "6194ce291887b863170988fdfef837780b627a824a4f5ee6a1f3a698fae117f4", func := "loop.example/invertedpages/laws.FnExactLookCpu", spec := "fnExactLookCpu", unfollowed := true, recurses := true, named := ["loop.example/invertedpages/impl.free"], plainKeys := false, apart := false, laid := [("loop.example/invertedpages/impl.free", laid_loop_example_invertedpages_impl_free)], narrowed := true }
def FnExactLookCpuUptoSaid : Prop := fnExactLookCpuUptoRow.holds Tryd.pinned (OpenSpec.upto fnExactLookCpuSpec)

/-- 'laws.FnMapSystem', WHERE WHAT IT READS IS OF BULK AT MOST 1048576: true; the input reads as it did. -/
def fnMapSystemUptoRow : OpenClaim := { program := "ytfnliecmagnkdabdoor", sum := "6194ce291887b863170988fdfef837780b627a824a4f5ee6a1f3a698fae117f4", func := "loop.example/invertedpages/laws.FnMapSystem", spec := "fnMapSystem", unfollowed := true, recurses := true, named := ["loop.example/invertedpages/impl.free"], plainKeys := false, apart := false, laid := [("loop.example/invertedpages/impl.free", laid_loop_example_invertedpages_impl_free)], narrowed := true }
def FnMapSystemUptoSaid : Prop := fnMapSystemUptoRow.holds Tryd.pinned (OpenSpec.upto fnMapSystemSpec)

/-- 'laws.FnUnmapSettle', WHERE WHAT IT READS IS OF BULK AT MOST 1048576: true; the input reads as it did. -/
def fnUnmapSettleUptoRow : OpenClaim := { program := "ytfnliecmagnkdabdoor", sum := "6194ce291887b863170988fdfef837780b627a824a4f5ee6a1f3a698fae117f4", func := "loop.example/invertedpages/laws.FnUnmapSettle", spec := "fnUnmapSettle", unfollowed := true, recurses := true, named := ["loop.example/invertedpages/impl.free"], plainKeys := false, apart := false, laid := [("loop.example/invertedpages/impl.free", laid_loop_example_invertedpages_impl_free)], narrowed := true }
def FnUnmapSettleUptoSaid : Prop := fnUnmapSettleUptoRow.holds Tryd.pinned (OpenSpec.upto fnUnmapSettleSpec)

/-- 'laws.FnExactUnmapSystem', WHERE WHAT IT READS IS OF BULK AT MOST 1048576: true; the input reads as it did. -/
def fnExactUnmapSystemUptoRow : OpenClaim := { program := "ytfnliecmagnkdabdoor", sum := "6194ce291887b863170988fdfef837780b627a824a4f5ee6a1f3a698fae117f4", func := "loop.example/invertedpages/laws.FnExactUnmapSystem", spec := "fnExactUnmapSystem", unfollowed := true, recurses := true, named := ["loop.example/invertedpages/impl.free"], plainKeys := false, apart := false, laid := [("loop.example/invertedpages/impl.free", laid_loop_example_invertedpages_impl_free)], narrowed := true }
def FnExactUnmapSystemUptoSaid : Prop := fnExactUnmapSystemUptoRow.holds Tryd.pinned (OpenSpec.upto fnExactUnmapSystemSpec)

/-- 'laws.FnExactHeldFrames', WHERE WHAT IT READS IS OF BULK AT MOST 1048576: true; the input reads as it did. -/
def fnExactHeldFramesUptoRow : OpenClaim := { program := "ytfnliecmagnkdabdoor", sum := "6194ce291887b863170988fdfef837780b627a824a4f5ee6a1f3a698fae117f4", func := "loop.example/invertedpages/laws.FnExactHeldFrames", spec := "fnExactHeldFrames", unfollowed := true, recurses := true, named := ["loop.example/invertedpages/impl.free"], plainKeys := false, apart := false, laid := [("loop.example/invertedpages/impl.free", laid_loop_example_invertedpages_impl_free)], narrowed := true }
def FnExactHeldFramesUptoSaid : Prop := fnExactHeldFramesUptoRow.holds Tryd.pinned (OpenSpec.upto fnExactHeldFramesSpec)

/-- 'laws.FnHeldWaits', WHERE WHAT IT READS IS OF BULK AT MOST 1048576: true; the input reads as it did. -/
def fnHeldWaitsUptoRow : OpenClaim := { program := "ytfnliecmagnkdabdoor", sum := "6194ce291887b863170988fdfef837780b627a824a4f5ee6a1f3a698fae117f4", func := "loop.example/invertedpages/laws.FnHeldWaits", spec := "fnHeldWaits", unfollowed := true, recurses := true, named := ["loop.example/invertedpages/impl.free"], plainKeys := false, apart := false, laid := [("loop.example/invertedpages/impl.free", laid_loop_example_invertedpages_impl_free)], narrowed := true }
def FnHeldWaitsUptoSaid : Prop := fnHeldWaitsUptoRow.holds Tryd.pinned (OpenSpec.upto fnHeldWaitsSpec)

/-- 'laws.FnHeldFrames', WHERE WHAT IT READS IS OF BULK AT MOST 1048576: true; the input reads as it did. -/
def fnHeldFramesUptoRow : OpenClaim := { program := "ytfnliecmagnkdabdoor", sum := "6194ce291887b863170988fdfef837780b627a824a4f5ee6a1f3a698fae117f4", func := "loop.example/invertedpages/laws.FnHeldFrames", spec := "fnHeldFrames", unfollowed := true, recurses := true, named := ["loop.example/invertedpages/impl.free"], plainKeys := false, apart := false, laid := [("loop.example/invertedpages/impl.free", laid_loop_example_invertedpages_impl_free)], narrowed := true }
def FnHeldFramesUptoSaid : Prop := fnHeldFramesUptoRow.holds Tryd.pinned (OpenSpec.upto fnHeldFramesSpec)

end Rows
end Go.Proofs.YtfnliecmagnkdabDoor
