/-
  NARROWER THAN 'FOR EVERY INPUT', by the rows' own cells (each row's printed sentence says how): FnExactPutPage: laid · FnExactEnterSpace: laid · FnExactGuardPage: laid · FnExactTakePage: laid · FnExactTouchPage: laid · FnExactWirePage: laid · FnUseMachine: laid · FnUsePages: laid · FnExactNewMemory: laid · FnExactClearMarks: laid · FnExactFrameVictim: laid.
  DERIVED. THE GIVEN ROWS OF THIS SEAT. 11 by the template 'for every input the law returns true; each argument reads behind the call as it read before'; 0 by the template 'total and deterministic' (their statements: YtbgodaeccgjdgaaGreatDoorTotals.lean).
  GIVEN WITH THE SEED: the statements are not yours to turn. If you find one false, say at which input.
  Laid BY PROGRAM, IN A SANDBOX (cutbox-rows.mjs): the forced cells as the released guide's own fill.sh prints them over the translation 2c31cc6f945d8c48… (all of the seat's roots in one cut). By AI agents, Wed Nov 11 2026. No macro, syntax, notation, axiom, sorry.
-/
import Derived.Test.YtbgodaeccgjdgaaGreatDoorChecked
import GoSem.Claim
import GoSem.ClaimJoined
import GoSem.ClaimMapViews
import Derived.JoinedTies
import Derived.KernelRfl
namespace Go.Proofs.YtbgodaeccgjdgaaGreatDoor
/- THE CELL 'sum', in the pinned program and in every row, IS THE sha256 OF THE DUMP (.gsa) THAT YtbgodaeccgjdgaaGreatDoorProg.lean LOADS. Nothing in Lean hashes anything: it is a label: what it is worth is what the hold of that sum in a sandbox is worth. -/
noncomputable def Tryz.pinned : Pinned := { name := "ytbgodaeccgjdgaagreatdoor", sum := "2c31cc6f945d8c48190c8f88e44ca5e78316028ec77050d6d204a86dfc204f03", checked := Tryz.checked }
namespace Rows
def none {H : Type} : Left H := { results := [], args := [] }

/- WHAT THE LISTED PACKAGE-LEVEL VARIABLES READ AS WHEN THE CALL BEGINS. Each datum BY PROGRAM (the guide's laid-datum.mjs) off the statement by which the dump's own 'gosem.cut.vars' lays the variable. In a bare row this is a premise. The card (YtbgodaeccgjdgaaGreatDoorCards.lean) ties it to the program's text. -/
def laid_loop_example_invertedpages_impl_free {H : Type} : DataW H := .agg [.lit (.bool false), .agg [.lit (.int .i64 0), .lit (.int .i64 0)], .lit (.int .i64 0), .lit (.int .i64 (-1))]

/-- 'laws.FnExactPutPage': WHATEVER THE INPUT: true; the input reads as it did. -/
def fnExactPutPageSpec : ChangeSpec := { name := "fnExactPutPage", vars := ["loop.example/invertedpages/impl.free"], fn := fun _ => fun
  | [d1, d2, d3, d4, g1] => { results := [.lit (.bool true)], args := [d1, d2, d3, d4], vars := [g1] }
  | _ => none }
def fnExactPutPageRow : OpenClaim := { program := "ytbgodaeccgjdgaagreatdoor", sum := "2c31cc6f945d8c48190c8f88e44ca5e78316028ec77050d6d204a86dfc204f03", func := "loop.example/invertedpages/laws.FnExactPutPage", spec := "fnExactPutPage", unfollowed := true, recurses := true, named := ["loop.example/invertedpages/impl.free"], plainKeys := false, apart := false, laid := [("loop.example/invertedpages/impl.free", laid_loop_example_invertedpages_impl_free)] }
def FnExactPutPageSaid : Prop := fnExactPutPageRow.holds Tryz.pinned (OpenSpec.ofChange fnExactPutPageSpec)

/-- ITS FALSE NEIGHBOUR: 'it returns false'. Refute it at one input. -/
def fnExactPutPageWrong : ChangeSpec := { name := "fnExactPutPage", vars := ["loop.example/invertedpages/impl.free"], fn := fun _ => fun
  | [d1, d2, d3, d4, g1] => { results := [.lit (.bool false)], args := [d1, d2, d3, d4], vars := [g1] }
  | _ => none }
def FnExactPutPageWrongFalsely : Prop := fnExactPutPageRow.holds Tryz.pinned (OpenSpec.ofChange fnExactPutPageWrong)

/-- 'laws.FnExactEnterSpace': WHATEVER THE INPUT: true; the input reads as it did. -/
def fnExactEnterSpaceSpec : ChangeSpec := { name := "fnExactEnterSpace", vars := ["loop.example/invertedpages/impl.free"], fn := fun _ => fun
  | [d1, d2, g1] => { results := [.lit (.bool true)], args := [d1, d2], vars := [g1] }
  | _ => none }
def fnExactEnterSpaceRow : OpenClaim := { program := "ytbgodaeccgjdgaagreatdoor", sum := "2c31cc6f945d8c48190c8f88e44ca5e78316028ec77050d6d204a86dfc204f03", func := "loop.example/invertedpages/laws.FnExactEnterSpace", spec := "fnExactEnterSpace", unfollowed := true, recurses := true, named := ["loop.example/invertedpages/impl.free"], plainKeys := false, apart := false, laid := [("loop.example/invertedpages/impl.free", laid_loop_example_invertedpages_impl_free)] }
def FnExactEnterSpaceSaid : Prop := fnExactEnterSpaceRow.holds Tryz.pinned (OpenSpec.ofChange fnExactEnterSpaceSpec)

/-- ITS FALSE NEIGHBOUR: 'it returns false'. Refute it at one input. -/
def fnExactEnterSpaceWrong : ChangeSpec := { name := "fnExactEnterSpace", vars := ["loop.example/invertedpages/impl.free"], fn := fun _ => fun
  | [d1, d2, g1] => { results := [.lit (.bool false)], args := [d1, d2], vars := [g1] }
  | _ => none }
def FnExactEnterSpaceWrongFalsely : Prop := fnExactEnterSpaceRow.holds Tryz.pinned (OpenSpec.ofChange fnExactEnterSpaceWrong)

/-- 'laws.FnExactGuardPage': WHATEVER THE INPUT: true; the input reads as it did. -/
def fnExactGuardPageSpec : ChangeSpec := { name := "fnExactGuardPage", vars := ["loop.example/invertedpages/impl.free"], fn := fun _ => fun
  | [d1, d2, d3, g1] => { results := [.lit (.bool true)], args := [d1, d2, d3], vars := [g1] }
  | _ => none }
def fnExactGuardPageRow : OpenClaim := { program := "ytbgodaeccgjdgaagreatdoor", sum := "2c31cc6f945d8c48190c8f88e44ca5e78316028ec77050d6d204a86dfc204f03", func := "loop.example/invertedpages/laws.FnExactGuardPage", spec := "fnExactGuardPage", unfollowed := true, recurses := true, named := ["loop.example/invertedpages/impl.free"], plainKeys := false, apart := false, laid := [("loop.example/invertedpages/impl.free", laid_loop_example_invertedpages_impl_free)] }
def FnExactGuardPageSaid : Prop := fnExactGuardPageRow.holds Tryz.pinned (OpenSpec.ofChange fnExactGuardPageSpec)

/-- ITS FALSE NEIGHBOUR: 'it returns false'. Refute it at one input. -/
def fnExactGuardPageWrong : ChangeSpec := { name := "fnExactGuardPage", vars := ["loop.example/invertedpages/impl.free"], fn := fun _ => fun
  | [d1, d2, d3, g1] => { results := [.lit (.bool false)], args := [d1, d2, d3], vars := [g1] }
  | _ => none }
def FnExactGuardPageWrongFalsely : Prop := fnExactGuardPageRow.holds Tryz.pinned (OpenSpec.ofChange fnExactGuardPageWrong)

/-- 'laws.FnExactTakePage': WHATEVER THE INPUT: true; the input reads as it did. -/
def fnExactTakePageSpec : ChangeSpec := { name := "fnExactTakePage", vars := ["loop.example/invertedpages/impl.free"], fn := fun _ => fun
  | [d1, d2, g1] => { results := [.lit (.bool true)], args := [d1, d2], vars := [g1] }
  | _ => none }
def fnExactTakePageRow : OpenClaim := { program := "ytbgodaeccgjdgaagreatdoor", sum := "2c31cc6f945d8c48190c8f88e44ca5e78316028ec77050d6d204a86dfc204f03", func := "loop.example/invertedpages/laws.FnExactTakePage", spec := "fnExactTakePage", unfollowed := true, recurses := true, named := ["loop.example/invertedpages/impl.free"], plainKeys := false, apart := false, laid := [("loop.example/invertedpages/impl.free", laid_loop_example_invertedpages_impl_free)] }
def FnExactTakePageSaid : Prop := fnExactTakePageRow.holds Tryz.pinned (OpenSpec.ofChange fnExactTakePageSpec)

/-- ITS FALSE NEIGHBOUR: 'it returns false'. Refute it at one input. -/
def fnExactTakePageWrong : ChangeSpec := { name := "fnExactTakePage", vars := ["loop.example/invertedpages/impl.free"], fn := fun _ => fun
  | [d1, d2, g1] => { results := [.lit (.bool false)], args := [d1, d2], vars := [g1] }
  | _ => none }
def FnExactTakePageWrongFalsely : Prop := fnExactTakePageRow.holds Tryz.pinned (OpenSpec.ofChange fnExactTakePageWrong)

/-- 'laws.FnExactTouchPage': WHATEVER THE INPUT: true; the input reads as it did. -/
def fnExactTouchPageSpec : ChangeSpec := { name := "fnExactTouchPage", vars := ["loop.example/invertedpages/impl.free"], fn := fun _ => fun
  | [d1, d2, d3, g1] => { results := [.lit (.bool true)], args := [d1, d2, d3], vars := [g1] }
  | _ => none }
def fnExactTouchPageRow : OpenClaim := { program := "ytbgodaeccgjdgaagreatdoor", sum := "2c31cc6f945d8c48190c8f88e44ca5e78316028ec77050d6d204a86dfc204f03", func := "loop.example/invertedpages/laws.FnExactTouchPage", spec := "fnExactTouchPage", unfollowed := true, recurses := true, named := ["loop.example/invertedpages/impl.free"], plainKeys := false, apart := false, laid := [("loop.example/invertedpages/impl.free", laid_loop_example_invertedpages_impl_free)] }
def FnExactTouchPageSaid : Prop := fnExactTouchPageRow.holds Tryz.pinned (OpenSpec.ofChange fnExactTouchPageSpec)

/-- ITS FALSE NEIGHBOUR: 'it returns false'. Refute it at one input. -/
def fnExactTouchPageWrong : ChangeSpec := { name := "fnExactTouchPage", vars := ["loop.example/invertedpages/impl.free"], fn := fun _ => fun
  | [d1, d2, d3, g1] => { results := [.lit (.bool false)], args := [d1, d2, d3], vars := [g1] }
  | _ => none }
def FnExactTouchPageWrongFalsely : Prop := fnExactTouchPageRow.holds Tryz.pinned (OpenSpec.ofChange fnExactTouchPageWrong)

/-- 'laws.FnExactWirePage': WHATEVER THE INPUT: true; the input reads as it did. -/
def fnExactWirePageSpec : ChangeSpec := { name := "fnExactWirePage", vars := ["loop.example/invertedpages/impl.free"], fn := fun _ => fun
  | [d1, d2, g1] => { results := [.lit (.bool true)], args := [d1, d2], vars := [g1] }
  | _ => none }
def fnExactWirePageRow : OpenClaim := { program := "ytbgodaeccgjdgaagreatdoor", sum := "2c31cc6f945d8c48190c8f88e44ca5e78316028ec77050d6d204a86dfc204f03", func := "loop.example/invertedpages/laws.FnExactWirePage", spec := "fnExactWirePage", unfollowed := true, recurses := true, named := ["loop.example/invertedpages/impl.free"], plainKeys := false, apart := false, laid := [("loop.example/invertedpages/impl.free", laid_loop_example_invertedpages_impl_free)] }
def FnExactWirePageSaid : Prop := fnExactWirePageRow.holds Tryz.pinned (OpenSpec.ofChange fnExactWirePageSpec)

/-- ITS FALSE NEIGHBOUR: 'it returns false'. Refute it at one input. -/
def fnExactWirePageWrong : ChangeSpec := { name := "fnExactWirePage", vars := ["loop.example/invertedpages/impl.free"], fn := fun _ => fun
  | [d1, d2, g1] => { results := [.lit (.bool false)], args := [d1, d2], vars := [g1] }
  | _ => none }
def FnExactWirePageWrongFalsely : Prop := fnExactWirePageRow.holds Tryz.pinned (OpenSpec.ofChange fnExactWirePageWrong)

/-- 'laws.FnUseMachine': WHATEVER THE INPUT: true; the input reads as it did. -/
def fnUseMachineSpec : ChangeSpec := { name := "fnUseMachine", vars := ["loop.example/invertedpages/impl.free"], fn := fun _ => fun
  | [d, g1] => { results := [.lit (.bool true)], args := [d], vars := [g1] }
  | _ => none }
def fnUseMachineRow : OpenClaim := { program := "ytbgodaeccgjdgaagreatdoor", sum := "2c31cc6f945d8c48190c8f88e44ca5e78316028ec77050d6d204a86dfc204f03", func := "loop.example/invertedpages/laws.FnUseMachine", spec := "fnUseMachine", unfollowed := true, recurses := true, named := ["loop.example/invertedpages/impl.free"], plainKeys := false, apart := false, laid := [("loop.example/invertedpages/impl.free", laid_loop_example_invertedpages_impl_free)] }
def FnUseMachineSaid : Prop := fnUseMachineRow.holds Tryz.pinned (OpenSpec.ofChange fnUseMachineSpec)

/-- ITS FALSE NEIGHBOUR: 'it returns false'. Refute it at one input. -/
def fnUseMachineWrong : ChangeSpec := { name := "fnUseMachine", vars := ["loop.example/invertedpages/impl.free"], fn := fun _ => fun
  | [d, g1] => { results := [.lit (.bool false)], args := [d], vars := [g1] }
  | _ => none }
def FnUseMachineWrongFalsely : Prop := fnUseMachineRow.holds Tryz.pinned (OpenSpec.ofChange fnUseMachineWrong)

/-- 'laws.FnUsePages': WHATEVER THE INPUT: true; the input reads as it did. -/
def fnUsePagesSpec : ChangeSpec := { name := "fnUsePages", vars := ["loop.example/invertedpages/impl.free"], fn := fun _ => fun
  | [d, g1] => { results := [.lit (.bool true)], args := [d], vars := [g1] }
  | _ => none }
def fnUsePagesRow : OpenClaim := { program := "ytbgodaeccgjdgaagreatdoor", sum := "2c31cc6f945d8c48190c8f88e44ca5e78316028ec77050d6d204a86dfc204f03", func := "loop.example/invertedpages/laws.FnUsePages", spec := "fnUsePages", unfollowed := true, recurses := true, named := ["loop.example/invertedpages/impl.free"], plainKeys := false, apart := false, laid := [("loop.example/invertedpages/impl.free", laid_loop_example_invertedpages_impl_free)] }
def FnUsePagesSaid : Prop := fnUsePagesRow.holds Tryz.pinned (OpenSpec.ofChange fnUsePagesSpec)

/-- ITS FALSE NEIGHBOUR: 'it returns false'. Refute it at one input. -/
def fnUsePagesWrong : ChangeSpec := { name := "fnUsePages", vars := ["loop.example/invertedpages/impl.free"], fn := fun _ => fun
  | [d, g1] => { results := [.lit (.bool false)], args := [d], vars := [g1] }
  | _ => none }
def FnUsePagesWrongFalsely : Prop := fnUsePagesRow.holds Tryz.pinned (OpenSpec.ofChange fnUsePagesWrong)

/-- 'laws.FnExactNewMemory': WHATEVER THE INPUT: true; the input reads as it did. -/
def fnExactNewMemorySpec : ChangeSpec := { name := "fnExactNewMemory", vars := ["loop.example/invertedpages/impl.free"], fn := fun _ => fun
  | [d, g1] => { results := [.lit (.bool true)], args := [d], vars := [g1] }
  | _ => none }
def fnExactNewMemoryRow : OpenClaim := { program := "ytbgodaeccgjdgaagreatdoor", sum := "2c31cc6f945d8c48190c8f88e44ca5e78316028ec77050d6d204a86dfc204f03", func := "loop.example/invertedpages/laws.FnExactNewMemory", spec := "fnExactNewMemory", unfollowed := true, recurses := true, named := ["loop.example/invertedpages/impl.free"], plainKeys := false, apart := false, laid := [("loop.example/invertedpages/impl.free", laid_loop_example_invertedpages_impl_free)] }
def FnExactNewMemorySaid : Prop := fnExactNewMemoryRow.holds Tryz.pinned (OpenSpec.ofChange fnExactNewMemorySpec)

/-- ITS FALSE NEIGHBOUR: 'it returns false'. Refute it at one input. -/
def fnExactNewMemoryWrong : ChangeSpec := { name := "fnExactNewMemory", vars := ["loop.example/invertedpages/impl.free"], fn := fun _ => fun
  | [d, g1] => { results := [.lit (.bool false)], args := [d], vars := [g1] }
  | _ => none }
def FnExactNewMemoryWrongFalsely : Prop := fnExactNewMemoryRow.holds Tryz.pinned (OpenSpec.ofChange fnExactNewMemoryWrong)

/-- 'laws.FnExactClearMarks': WHATEVER THE INPUT: true; the input reads as it did. -/
def fnExactClearMarksSpec : ChangeSpec := { name := "fnExactClearMarks", vars := ["loop.example/invertedpages/impl.free"], fn := fun _ => fun
  | [d, g1] => { results := [.lit (.bool true)], args := [d], vars := [g1] }
  | _ => none }
def fnExactClearMarksRow : OpenClaim := { program := "ytbgodaeccgjdgaagreatdoor", sum := "2c31cc6f945d8c48190c8f88e44ca5e78316028ec77050d6d204a86dfc204f03", func := "loop.example/invertedpages/laws.FnExactClearMarks", spec := "fnExactClearMarks", unfollowed := true, recurses := true, named := ["loop.example/invertedpages/impl.free"], plainKeys := false, apart := false, laid := [("loop.example/invertedpages/impl.free", laid_loop_example_invertedpages_impl_free)] }
def FnExactClearMarksSaid : Prop := fnExactClearMarksRow.holds Tryz.pinned (OpenSpec.ofChange fnExactClearMarksSpec)

/-- ITS FALSE NEIGHBOUR: 'it returns false'. Refute it at one input. -/
def fnExactClearMarksWrong : ChangeSpec := { name := "fnExactClearMarks", vars := ["loop.example/invertedpages/impl.free"], fn := fun _ => fun
  | [d, g1] => { results := [.lit (.bool false)], args := [d], vars := [g1] }
  | _ => none }
def FnExactClearMarksWrongFalsely : Prop := fnExactClearMarksRow.holds Tryz.pinned (OpenSpec.ofChange fnExactClearMarksWrong)

/-- 'laws.FnExactFrameVictim': WHATEVER THE INPUT: true; the input reads as it did. -/
def fnExactFrameVictimSpec : ChangeSpec := { name := "fnExactFrameVictim", vars := ["loop.example/invertedpages/impl.free"], fn := fun _ => fun
  | [d, g1] => { results := [.lit (.bool true)], args := [d], vars := [g1] }
  | _ => none }
def fnExactFrameVictimRow : OpenClaim := { program := "ytbgodaeccgjdgaagreatdoor", sum := "2c31cc6f945d8c48190c8f88e44ca5e78316028ec77050d6d204a86dfc204f03", func := "loop.example/invertedpages/laws.FnExactFrameVictim", spec := "fnExactFrameVictim", unfollowed := true, recurses := true, named := ["loop.example/invertedpages/impl.free"], plainKeys := false, apart := false, laid := [("loop.example/invertedpages/impl.free", laid_loop_example_invertedpages_impl_free)] }
def FnExactFrameVictimSaid : Prop := fnExactFrameVictimRow.holds Tryz.pinned (OpenSpec.ofChange fnExactFrameVictimSpec)

/-- ITS FALSE NEIGHBOUR: 'it returns false'. Refute it at one input. -/
def fnExactFrameVictimWrong : ChangeSpec := { name := "fnExactFrameVictim", vars := ["loop.example/invertedpages/impl.free"], fn := fun _ => fun
  | [d, g1] => { results := [.lit (.bool false)], args := [d], vars := [g1] }
  | _ => none }
def FnExactFrameVictimWrongFalsely : Prop := fnExactFrameVictimRow.holds Tryz.pinned (OpenSpec.ofChange fnExactFrameVictimWrong)

/- THE SECOND FORM. 'bulk': how many values and letters a reading holds, each counted each time it is reached (what is shared counts as often as it is met; a slice's spare places count too). A statement '..UptoSaid' is the law's where the arguments, and the package variables that the reading takes, are together of bulk at most 1048576: NARROWER than '..Said'. Prove '..Said' where nothing that the law and all that it calls make is longer than what came in: it says more and counts as full. Else prove '..UptoSaid'. A law counts once. -/
mutual
def uptoBulk {H : Type} : DataW H → Nat
  | .lit (.string bytes) => bytes.length + 1
  | .lit _ => 1
  | .nil => 1
  | .ptr d => uptoBulk d + 1
  | .slice elems spare => uptoBulkAll elems + uptoBulkAll spare + 1
  | .agg parts => uptoBulkAll parts + 1
  | .iface _ d => uptoBulk d + 1
  | .map entries => uptoBulkEntries entries + 1
  | .held _ => 1
def uptoBulkAll {H : Type} : List (DataW H) → Nat
  | [] => 0
  | d :: r => uptoBulk d + uptoBulkAll r
def uptoBulkEntries {H : Type} : List (Lit × DataW H) → Nat
  | [] => 0
  | x :: r => uptoBulkEntry x + uptoBulkEntries r
def uptoBulkEntry {H : Type} : Lit × DataW H → Nat
  | (.string bytes, d) => bytes.length + uptoBulk d + 1
  | (_, d) => uptoBulk d + 1
 end
def uptoSmall : (H : Type) → List (DataW H) → Bool := fun _ ds => decide (uptoBulkAll ds ≤ 1048576)
def OpenSpec.upto (s : _root_.Go.ChangeSpec) : _root_.Go.OpenSpec := { _root_.Go.OpenSpec.ofChange s with cond := some uptoSmall }

/-- 'laws.FnExactPutPage', WHERE WHAT IT READS IS OF BULK AT MOST 1048576: true; the input reads as it did. -/
def fnExactPutPageUptoRow : OpenClaim := { program := "ytbgodaeccgjdgaagreatdoor", sum := "2c31cc6f945d8c48190c8f88e44ca5e78316028ec77050d6d204a86dfc204f03", func := "loop.example/invertedpages/laws.FnExactPutPage", spec := "fnExactPutPage", unfollowed := true, recurses := true, named := ["loop.example/invertedpages/impl.free"], plainKeys := false, apart := false, laid := [("loop.example/invertedpages/impl.free", laid_loop_example_invertedpages_impl_free)], narrowed := true }
def FnExactPutPageUptoSaid : Prop := fnExactPutPageUptoRow.holds Tryz.pinned (OpenSpec.upto fnExactPutPageSpec)

/-- 'laws.FnExactEnterSpace', WHERE WHAT IT READS IS OF BULK AT MOST 1048576: true; the input reads as it did. -/
def fnExactEnterSpaceUptoRow : OpenClaim := { program := "ytbgodaeccgjdgaagreatdoor", sum := "2c31cc6f945d8c48190c8f88e44ca5e78316028ec77050d6d204a86dfc204f03", func := "loop.example/invertedpages/laws.FnExactEnterSpace", spec := "fnExactEnterSpace", unfollowed := true, recurses := true, named := ["loop.example/invertedpages/impl.free"], plainKeys := false, apart := false, laid := [("loop.example/invertedpages/impl.free", laid_loop_example_invertedpages_impl_free)], narrowed := true }
def FnExactEnterSpaceUptoSaid : Prop := fnExactEnterSpaceUptoRow.holds Tryz.pinned (OpenSpec.upto fnExactEnterSpaceSpec)

/-- 'laws.FnExactGuardPage', WHERE WHAT IT READS IS OF BULK AT MOST 1048576: true; the input reads as it did. -/
def fnExactGuardPageUptoRow : OpenClaim := { program := "ytbgodaeccgjdgaagreatdoor", sum := "2c31cc6f945d8c48190c8f88e44ca5e78316028ec77050d6d204a86dfc204f03", func := "loop.example/invertedpages/laws.FnExactGuardPage", spec := "fnExactGuardPage", unfollowed := true, recurses := true, named := ["loop.example/invertedpages/impl.free"], plainKeys := false, apart := false, laid := [("loop.example/invertedpages/impl.free", laid_loop_example_invertedpages_impl_free)], narrowed := true }
def FnExactGuardPageUptoSaid : Prop := fnExactGuardPageUptoRow.holds Tryz.pinned (OpenSpec.upto fnExactGuardPageSpec)

/-- 'laws.FnExactTakePage', WHERE WHAT IT READS IS OF BULK AT MOST 1048576: true; the input reads as it did. -/
def fnExactTakePageUptoRow : OpenClaim := { program := "ytbgodaeccgjdgaagreatdoor", sum := "2c31cc6f945d8c48190c8f88e44ca5e78316028ec77050d6d204a86dfc204f03", func := "loop.example/invertedpages/laws.FnExactTakePage", spec := "fnExactTakePage", unfollowed := true, recurses := true, named := ["loop.example/invertedpages/impl.free"], plainKeys := false, apart := false, laid := [("loop.example/invertedpages/impl.free", laid_loop_example_invertedpages_impl_free)], narrowed := true }
def FnExactTakePageUptoSaid : Prop := fnExactTakePageUptoRow.holds Tryz.pinned (OpenSpec.upto fnExactTakePageSpec)

/-- 'laws.FnExactTouchPage', WHERE WHAT IT READS IS OF BULK AT MOST 1048576: true; the input reads as it did. -/
def fnExactTouchPageUptoRow : OpenClaim := { program := "ytbgodaeccgjdgaagreatdoor", sum := "2c31cc6f945d8c48190c8f88e44ca5e78316028ec77050d6d204a86dfc204f03", func := "loop.example/invertedpages/laws.FnExactTouchPage", spec := "fnExactTouchPage", unfollowed := true, recurses := true, named := ["loop.example/invertedpages/impl.free"], plainKeys := false, apart := false, laid := [("loop.example/invertedpages/impl.free", laid_loop_example_invertedpages_impl_free)], narrowed := true }
def FnExactTouchPageUptoSaid : Prop := fnExactTouchPageUptoRow.holds Tryz.pinned (OpenSpec.upto fnExactTouchPageSpec)

/-- 'laws.FnExactWirePage', WHERE WHAT IT READS IS OF BULK AT MOST 1048576: true; the input reads as it did. -/
def fnExactWirePageUptoRow : OpenClaim := { program := "ytbgodaeccgjdgaagreatdoor", sum := "2c31cc6f945d8c48190c8f88e44ca5e78316028ec77050d6d204a86dfc204f03", func := "loop.example/invertedpages/laws.FnExactWirePage", spec := "fnExactWirePage", unfollowed := true, recurses := true, named := ["loop.example/invertedpages/impl.free"], plainKeys := false, apart := false, laid := [("loop.example/invertedpages/impl.free", laid_loop_example_invertedpages_impl_free)], narrowed := true }
def FnExactWirePageUptoSaid : Prop := fnExactWirePageUptoRow.holds Tryz.pinned (OpenSpec.upto fnExactWirePageSpec)

/-- 'laws.FnUseMachine', WHERE WHAT IT READS IS OF BULK AT MOST 1048576: true; the input reads as it did. -/
def fnUseMachineUptoRow : OpenClaim := { program := "ytbgodaeccgjdgaagreatdoor", sum := "2c31cc6f945d8c48190c8f88e44ca5e78316028ec77050d6d204a86dfc204f03", func := "loop.example/invertedpages/laws.FnUseMachine", spec := "fnUseMachine", unfollowed := true, recurses := true, named := ["loop.example/invertedpages/impl.free"], plainKeys := false, apart := false, laid := [("loop.example/invertedpages/impl.free", laid_loop_example_invertedpages_impl_free)], narrowed := true }
def FnUseMachineUptoSaid : Prop := fnUseMachineUptoRow.holds Tryz.pinned (OpenSpec.upto fnUseMachineSpec)

/-- 'laws.FnUsePages', WHERE WHAT IT READS IS OF BULK AT MOST 1048576: true; the input reads as it did. -/
def fnUsePagesUptoRow : OpenClaim := { program := "ytbgodaeccgjdgaagreatdoor", sum := "2c31cc6f945d8c48190c8f88e44ca5e78316028ec77050d6d204a86dfc204f03", func := "loop.example/invertedpages/laws.FnUsePages", spec := "fnUsePages", unfollowed := true, recurses := true, named := ["loop.example/invertedpages/impl.free"], plainKeys := false, apart := false, laid := [("loop.example/invertedpages/impl.free", laid_loop_example_invertedpages_impl_free)], narrowed := true }
def FnUsePagesUptoSaid : Prop := fnUsePagesUptoRow.holds Tryz.pinned (OpenSpec.upto fnUsePagesSpec)

/-- 'laws.FnExactNewMemory', WHERE WHAT IT READS IS OF BULK AT MOST 1048576: true; the input reads as it did. -/
def fnExactNewMemoryUptoRow : OpenClaim := { program := "ytbgodaeccgjdgaagreatdoor", sum := "2c31cc6f945d8c48190c8f88e44ca5e78316028ec77050d6d204a86dfc204f03", func := "loop.example/invertedpages/laws.FnExactNewMemory", spec := "fnExactNewMemory", unfollowed := true, recurses := true, named := ["loop.example/invertedpages/impl.free"], plainKeys := false, apart := false, laid := [("loop.example/invertedpages/impl.free", laid_loop_example_invertedpages_impl_free)], narrowed := true }
def FnExactNewMemoryUptoSaid : Prop := fnExactNewMemoryUptoRow.holds Tryz.pinned (OpenSpec.upto fnExactNewMemorySpec)

/-- 'laws.FnExactClearMarks', WHERE WHAT IT READS IS OF BULK AT MOST 1048576: true; the input reads as it did. -/
def fnExactClearMarksUptoRow : OpenClaim := { program := "ytbgodaeccgjdgaagreatdoor", sum := "2c31cc6f945d8c48190c8f88e44ca5e78316028ec77050d6d204a86dfc204f03", func := "loop.example/invertedpages/laws.FnExactClearMarks", spec := "fnExactClearMarks", unfollowed := true, recurses := true, named := ["loop.example/invertedpages/impl.free"], plainKeys := false, apart := false, laid := [("loop.example/invertedpages/impl.free", laid_loop_example_invertedpages_impl_free)], narrowed := true }
def FnExactClearMarksUptoSaid : Prop := fnExactClearMarksUptoRow.holds Tryz.pinned (OpenSpec.upto fnExactClearMarksSpec)

/-- 'laws.FnExactFrameVictim', WHERE WHAT IT READS IS OF BULK AT MOST 1048576: true; the input reads as it did. -/
def fnExactFrameVictimUptoRow : OpenClaim := { program := "ytbgodaeccgjdgaagreatdoor", sum := "2c31cc6f945d8c48190c8f88e44ca5e78316028ec77050d6d204a86dfc204f03", func := "loop.example/invertedpages/laws.FnExactFrameVictim", spec := "fnExactFrameVictim", unfollowed := true, recurses := true, named := ["loop.example/invertedpages/impl.free"], plainKeys := false, apart := false, laid := [("loop.example/invertedpages/impl.free", laid_loop_example_invertedpages_impl_free)], narrowed := true }
def FnExactFrameVictimUptoSaid : Prop := fnExactFrameVictimUptoRow.holds Tryz.pinned (OpenSpec.upto fnExactFrameVictimSpec)

end Rows
end Go.Proofs.YtbgodaeccgjdgaaGreatDoor
