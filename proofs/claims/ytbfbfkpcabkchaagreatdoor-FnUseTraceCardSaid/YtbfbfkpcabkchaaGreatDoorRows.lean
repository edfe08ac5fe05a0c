/-
  NARROWER THAN 'FOR EVERY INPUT', by the rows' own cells (each row's printed sentence says how): FnUseMachine: laid · FnUsePages: laid · FnUseTrace: laid · FnUsePage: laid · FnUseRights: laid.
  DERIVED. THE GIVEN ROWS OF THIS SEAT. 5 by the template 'for every input the law returns true; each argument reads behind the call as it read before'; 0 by the template 'total and deterministic' (their statements: YtbfbfkpcabkchaaGreatDoorTotals.lean).
  GIVEN WITH THE SEED: the statements are not yours to turn. If you find one false, say at which input.
  Laid BY PROGRAM, IN A SANDBOX (cutbox-rows.mjs): the forced cells as the released guide's own fill.sh prints them over the translation 0ea6c49122d6a1be… (all of the seat's roots in one cut). By AI agents, Wed Nov 11 2026. No macro, syntax, notation, axiom, sorry.
-/
import Derived.Test.YtbfbfkpcabkchaaGreatDoorChecked
import GoSem.Claim
import GoSem.ClaimJoined
import GoSem.ClaimMapViews
import Derived.JoinedTies
import Derived.KernelRfl
namespace Go.Proofs.YtbfbfkpcabkchaaGreatDoor
/- THE CELL 'sum', in the pinned program and in every row, IS THE sha256 OF THE DUMP (.gsa) THAT YtbfbfkpcabkchaaGreatDoorProg.lean LOADS. Nothing in Lean hashes anything: it is a label: what it is worth is what the hold of that sum in a sandbox is worth. -/
noncomputable def Tryz.pinned : Pinned := { name := "ytbfbfkpcabkchaagreatdoor", sum := "0ea6c49122d6a1be9db411d39f7c8706b0329cf2c153db4e51f9ae6a99cf3943", checked := Tryz.checked }
namespace Rows
def none {H : Type} : Left H := { results := [], args := [] }

/- WHAT THE LISTED PACKAGE-LEVEL VARIABLES READ AS WHEN THE CALL BEGINS. Each datum BY PROGRAM (the guide's laid-datum.mjs) off the statement by which the dump's own 'gosem.cut.vars' lays the variable. In a bare row this is a premise. The card (YtbfbfkpcabkchaaGreatDoorCards.lean) ties it to the program's text. -/
def laid_loop_example_invertedpages_impl_free {H : Type} : DataW H := .agg [.lit (.bool false), .agg [.lit (.int .i64 0), .lit (.int .i64 0)], .lit (.int .i64 0), .lit (.int .i64 (-1))]

/-- 'laws.FnUseMachine': WHATEVER THE INPUT: true; the input reads as it did. -/
def fnUseMachineSpec : ChangeSpec := { name := "fnUseMachine", vars := ["loop.example/invertedpages/impl.free"], fn := fun _ => fun
  | [d, g1] => { results := [.lit (.bool true)], args := [d], vars := [g1] }
  | _ => none }
def fnUseMachineRow : OpenClaim := { program := "ytbfbfkpcabkchaagreatdoor", sum := "0ea6c49122d6a1be9db411d39f7c8706b0329cf2c153db4e51f9ae6a99cf3943", func := "loop.example/invertedpages/laws.FnUseMachine", spec := "fnUseMachine", unfollowed := true, recurses := true, named := ["loop.example/invertedpages/impl.free"], plainKeys := false, apart := false, laid := [("loop.example/invertedpages/impl.free", laid_loop_example_invertedpages_impl_free)] }
def FnUseMachineSaid : Prop := fnUseMachineRow.holds Tryz.pinned (OpenSpec.ofChange fnUseMachineSpec)

/-- ITS FALSE NEIGHBOUR: 'it returns false'. Refute it at one input. -/
def fnUseMachineWrong : ChangeSpec := { name := "fnUseMachine", vars := ["loop.example/invertedpages/impl.free"], fn := fun _ => fun
  | [d, g1] => { results := [.lit (.bool false)], args := [d], vars := [g1] }
  | _ => none }
def FnUseMachineWrongFalsely : Prop := fnUseMachineRow.holds Tryz.pinned (OpenSpec.ofChange fnUseMachineWrong)

/-- 'laws.FnUsePages': WHATEVER THE INPUT: true; the input reads as it did. -/
def fnUsePagesSpec : ChangeSpec := { name := "fnUsePages", vars := ["loop.example/invertedpages/impl.free"], fn := fun _ => fun
  | [d, g1] => { results := [.lit (.bool true)], args := [d], vars := [g1] }
  | _ => none }
def fnUsePagesRow : OpenClaim := { program := "ytbfbfkpcabkchaagreatdoor", sum := "0ea6c49122d6a1be9db411d39f7c8706b0329cf2c153db4e51f9ae6a99cf3943", func := "loop.example/invertedpages/laws.FnUsePages", spec := "fnUsePages", unfollowed := true, recurses := true, named := ["loop.example/invertedpages/impl.free"], plainKeys := false, apart := false, laid := [("loop.example/invertedpages/impl.free", laid_loop_example_invertedpages_impl_free)] }
def FnUsePagesSaid : Prop := fnUsePagesRow.holds Tryz.pinned (OpenSpec.ofChange fnUsePagesSpec)

/-- ITS FALSE NEIGHBOUR: 'it returns false'. Refute it at one input. -/
def fnUsePagesWrong : ChangeSpec := { name := "fnUsePages", vars := ["loop.example/invertedpages/impl.free"], fn := fun _ => fun
  | [d, g1] => { results := [.lit (.bool false)], args := [d], vars := [g1] }
  | _ => none }
def FnUsePagesWrongFalsely : Prop := fnUsePagesRow.holds Tryz.pinned (OpenSpec.ofChange fnUsePagesWrong)

/-- 'laws.FnUseTrace': WHATEVER THE INPUT: true; the input reads as it did. -/
def fnUseTraceSpec : ChangeSpec := { name := "fnUseTrace", vars := ["loop.example/invertedpages/impl.free"], fn := fun _ => fun
  | [d, g1] => { results := [.lit (.bool true)], args := [d], vars := [g1] }
  | _ => none }
def fnUseTraceRow : OpenClaim := { program := "ytbfbfkpcabkchaagreatdoor", sum := "0ea6c49122d6a1be9db411d39f7c8706b0329cf2c153db4e51f9ae6a99cf3943", func := "loop.example/invertedpages/laws.FnUseTrace", spec := "fnUseTrace", unfollowed := true, recurses := true, named := ["loop.example/invertedpages/impl.free"], plainKeys := false, apart := false, laid := [("loop.example/invertedpages/impl.free", laid_loop_example_invertedpages_impl_free)] }
def FnUseTraceSaid : Prop := fnUseTraceRow.holds Tryz.pinned (OpenSpec.ofChange fnUseTraceSpec)

/-- ITS FALSE NEIGHBOUR: 'it returns false'. Refute it at one input. -/
def fnUseTraceWrong : ChangeSpec := { name := "fnUseTrace", vars := ["loop.example/invertedpages/impl.free"], fn := fun _ => fun
  | [d, g1] => { results := [.lit (.bool false)], args := [d], vars := [g1] }
  | _ => none }
def FnUseTraceWrongFalsely : Prop := fnUseTraceRow.holds Tryz.pinned (OpenSpec.ofChange fnUseTraceWrong)

/-- 'laws.FnUsePage': WHATEVER THE INPUT: true; the input reads as it did. -/
def fnUsePageSpec : ChangeSpec := { name := "fnUsePage", vars := ["loop.example/invertedpages/impl.free"], fn := fun _ => fun
  | [d, g1] => { results := [.lit (.bool true)], args := [d], vars := [g1] }
  | _ => none }
def fnUsePageRow : OpenClaim := { program := "ytbfbfkpcabkchaagreatdoor", sum := "0ea6c49122d6a1be9db411d39f7c8706b0329cf2c153db4e51f9ae6a99cf3943", func := "loop.example/invertedpages/laws.FnUsePage", spec := "fnUsePage", unfollowed := true, recurses := true, named := ["loop.example/invertedpages/impl.free"], plainKeys := false, apart := false, laid := [("loop.example/invertedpages/impl.free", laid_loop_example_invertedpages_impl_free)] }
def FnUsePageSaid : Prop := fnUsePageRow.holds Tryz.pinned (OpenSpec.ofChange fnUsePageSpec)

/-- ITS FALSE NEIGHBOUR: 'it returns false'. Refute it at one input. -/
def fnUsePageWrong : ChangeSpec := { name := "fnUsePage", vars := ["loop.example/invertedpages/impl.free"], fn := fun _ => fun
  | [d, g1] => { results := [.lit (.bool false)], args := [d], vars := [g1] }
  | _ => none }
def FnUsePageWrongFalsely : Prop := fnUsePageRow.holds Tryz.pinned (OpenSpec.ofChange fnUsePageWrong)

/-- 'laws.FnUseRights': WHATEVER THE INPUT: true; the input reads as it did. -/
def fnUseRightsSpec : ChangeSpec := { name := "fnUseRights", vars := ["loop.example/invertedpages/impl.free"], fn := fun _ => fun
  | [d, g1] => { results := [.lit (.bool true)], args := [d], vars := [g1] }
  | _ => none }
def fnUseRightsRow : OpenClaim := { program := "ytbfbfkpcabkchaagreatdoor", sum := "0ea6c49122d6a1be9db411d39f7c8706b0329cf2c153db4e51f9ae6a99cf3943", func := "loop.example/invertedpages/laws.FnUseRights", spec := "fnUseRights", unfollowed := true, recurses := true, named := ["loop.example/invertedpages/impl.free"], plainKeys := false, apart := false, laid := [("loop.example/invertedpages/impl.free", laid_loop_example_invertedpages_impl_free)] }
def FnUseRightsSaid : Prop := fnUseRightsRow.holds Tryz.pinned (OpenSpec.ofChange fnUseRightsSpec)

/-- ITS FALSE NEIGHBOUR: 'it returns false'. Refute it at one input. -/
def fnUseRightsWrong : ChangeSpec := { name := "fnUseRights", vars := ["loop.example/invertedpages/impl.free"], fn := fun _ => fun
  | [d, g1] => { results := [.lit (.bool false)], args := [d], vars := [g1] }
  | _ => none }
def FnUseRightsWrongFalsely : Prop := fnUseRightsRow.holds Tryz.pinned (OpenSpec.ofChange fnUseRightsWrong)

/- THE SECOND FORM. 'bulk': how many values and letters a reading holds, each counted each time it is reached (what is shared counts as often as it is met; a slice's spare places count too). A statement '..UptoSaid' is the law's where the arguments, and the package variables that the reading takes, are together of bulk at most 1048576: NARROWER than '..Said'. Prove '..Said' where nothing that the law and all that it calls make is longer than what came in: it says more and counts as full. Else prove '..UptoSaid'. A law counts once. -/
mutual
def uptoBulk {H : Type} : DataW H → Nat
  | .lit (.string bytes) => bytes.length + 1
  | .lit _ => 1
  | .nil => 1
  | .ptr d => uptoBulk d + 1
  | .slice elems spare => uptoBulkAll elems + uptoBulkAll spare + 1
  | .agg parts => uptoBulkAll parts + 1
  | .iface _ d => uptoBulk d + 1
  | .map entries => uptoBulkEntries entries + 1
  | .held _ => 1
def uptoBulkAll {H : Type} : List (DataW H) → Nat
  | [] => 0
  | d :: r => uptoBulk d + uptoBulkAll r
def uptoBulkEntries {H : Type} : List (Lit × DataW H) → Nat
  | [] => 0
  | x :: r => uptoBulkEntry x + uptoBulkEntries r
def uptoBulkEntry {H : Type} : Lit × DataW H → Nat
  | (.string bytes, d) => bytes.length + uptoBulk d + 1
  | (_, d) => uptoBulk d + 1
 end
def uptoSmall : (H : Type) → List (DataW H) → Bool := fun _ ds => decide (uptoBulkAll ds ≤ 1048576)
def OpenSpec.upto (s : _root_.Go.ChangeSpec) : _root_.Go.OpenSpec := { _root_.Go.OpenSpec.ofChange s with cond := some uptoSmall }

/-- 'laws.FnUseMachine', WHERE WHAT IT READS IS OF BULK AT MOST 1048576: true; the input reads as it did. -/
def fnUseMachineUptoRow : OpenClaim := { program := "ytbfbfkpcabkchaagreatdoor", sum := "0ea6c49122d6a1be9db411d39f7c8706b0329cf2c153db4e51f9ae6a99cf3943", func := "loop.example/invertedpages/laws.FnUseMachine", spec := "fnUseMachine", unfollowed := true, recurses := true, named := ["loop.example/invertedpages/impl.free"], plainKeys := false, apart := false, laid := [("loop.example/invertedpages/impl.free", laid_loop_example_invertedpages_impl_free)], narrowed := true }
def FnUseMachineUptoSaid : Prop := fnUseMachineUptoRow.holds Tryz.pinned (OpenSpec.upto fnUseMachineSpec)

/-- 'laws.FnUsePages', WHERE WHAT IT READS IS OF BULK AT MOST 1048576: true; the input reads as it did. -/
def fnUsePagesUptoRow : OpenClaim := { program := "ytbfbfkpcabkchaagreatdoor", sum := "0ea6c49122d6a1be9db411d39f7c8706b0329cf2c153db4e51f9ae6a99cf3943", func := "loop.example/invertedpages/laws.FnUsePages", spec := "fnUsePages", unfollowed := true, recurses := true, named := ["loop.example/invertedpages/impl.free"], plainKeys := false, apart := false, laid := [("loop.example/invertedpages/impl.free", laid_loop_example_invertedpages_impl_free)], narrowed := true }
def FnUsePagesUptoSaid : Prop := fnUsePagesUptoRow.holds Tryz.pinned (OpenSpec.upto fnUsePagesSpec)

/-- 'laws.FnUseTrace', WHERE WHAT IT READS IS OF BULK AT MOST 1048576: true; the input reads as it did. -/
def fnUseTraceUptoRow : OpenClaim := { program := "ytbfbfkpcabkchaagreatdoor", sum := "0ea6c49122d6a1be9db411d39f7c8706b0329cf2c153db4e51f9ae6a99cf3943", func := "loop.example/invertedpages/laws.FnUseTrace", spec := "fnUseTrace", unfollowed := true, recurses := true, named := ["loop.example/invertedpages/impl.free"], plainKeys := false, apart := false, laid := [("loop.example/invertedpages/impl.free", laid_loop_example_invertedpages_impl_free)], narrowed := true }
def FnUseTraceUptoSaid : Prop := fnUseTraceUptoRow.holds Tryz.pinned (OpenSpec.upto fnUseTraceSpec)

/-- 'laws.FnUsePage', WHERE WHAT IT READS IS OF BULK AT MOST 1048576: true; the input reads as it did. -/
def fnUsePageUptoRow : OpenClaim := { program := "ytbfbfkpcabkchaagreatdoor", sum := "0ea6c49122d6a1be9db411d39f7c8706b0329cf2c153db4e51f9ae6a99cf3943", func := "loop.example/invertedpages/laws.FnUsePage", spec := "fnUsePage", unfollowed := true, recurses := true, named := ["loop.example/invertedpages/impl.free"], plainKeys := false, apart := false, laid := [("loop.example/invertedpages/impl.free", laid_loop_example_invertedpages_impl_free)], narrowed := true }
def FnUsePageUptoSaid : Prop := fnUsePageUptoRow.holds Tryz.pinned (OpenSpec.upto fnUsePageSpec)

/-- 'laws.FnUseRights', WHERE WHAT IT READS IS OF BULK AT MOST 1048576: true; the input reads as it did. -/
def fnUseRightsUptoRow : OpenClaim := { program := "ytbfbfkpcabkchaagreatdoor", sum := "0ea6c49122d6a1be9db411d39f7c8706b0329cf2c153db4e51f9ae6a99cf3943", func := "loop.example/invertedpages/laws.FnUseRights", spec := "fnUseRights", unfollowed := true, recurses := true, named := ["loop.example/invertedpages/impl.free"], plainKeys := false, apart := false, laid := [("loop.example/invertedpages/impl.free", laid_loop_example_invertedpages_impl_free)], narrowed := true }
def FnUseRightsUptoSaid : Prop := fnUseRightsUptoRow.holds Tryz.pinned (OpenSpec.upto fnUseRightsSpec)

end Rows
end Go.Proofs.YtbfbfkpcabkchaaGreatDoor
