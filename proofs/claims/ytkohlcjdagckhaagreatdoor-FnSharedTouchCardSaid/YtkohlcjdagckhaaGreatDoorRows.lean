/-
  NARROWER THAN 'FOR EVERY INPUT', by the rows' own cells (each row's printed sentence says how): FnEnterRound: laid · FnEnterSpace: laid · FnPutPage: laid · FnGuardBack: laid · FnTouchTable: laid · FnTouchTwice: laid · FnTouchPage: laid · FnWirePage: laid · FnPutFound: laid · FnSharedTouch: laid · FnGuardPage: laid · FnNewMemory: laid.
  DERIVED. THE GIVEN ROWS OF THIS SEAT. 12 by the template 'for every input the law returns true; each argument reads behind the call as it read before'; 0 by the template 'total and deterministic' (their statements: YtkohlcjdagckhaaGreatDoorTotals.lean).
  GIVEN WITH THE SEED: the statements are not yours to turn. If you find one false, say at which input.
  Laid BY PROGRAM, IN A SANDBOX (cutbox-rows.mjs): the forced cells as the released guide's own fill.sh prints them over the translation 85eb565f76d139ec… (all of the seat's roots in one cut). By AI agents, Wed Nov 11 2026. No macro, syntax, notation, axiom, sorry.
-/
import Derived.Test.YtkohlcjdagckhaaGreatDoorChecked
import GoSem.Claim
import GoSem.ClaimJoined
import GoSem.ClaimMapViews
import Derived.JoinedTies
import Derived.KernelRfl
namespace Go.Proofs.YtkohlcjdagckhaaGreatDoor
/- THE CELL 'sum', in the pinned program and in every row, IS THE sha256 OF THE DUMP (.gsa) THAT YtkohlcjdagckhaaGreatDoorProg.lean LOADS. Nothing in Lean hashes anything: it is a label: what it is worth is what the hold of that sum in a sandbox is worth. -/
noncomputable def Tryz.pinned : Pinned := { name := "ytkohlcjdagckhaagreatdoor", sum := "85eb565f76d139ecf0bea7cd2dfdf94f74a240990aabad91aebde91f696ba2e1", checked := Tryz.checked }
namespace Rows
def none {H : Type} : Left H := { results := [], args := [] }

/- WHAT THE LISTED PACKAGE-LEVEL VARIABLES READ AS WHEN THE CALL BEGINS. Each datum BY PROGRAM (the guide's laid-datum.mjs) off the statement by which the dump's own 'gosem.cut.vars' lays the variable. In a bare row this is a premise. The card (YtkohlcjdagckhaaGreatDoorCards.lean) ties it to the program's text. -/
def laid_loop_example_invertedpages_impl_free {H : Type} : DataW H := .agg [.lit (.bool false), .agg [.lit (.int .i64 0), .lit (.int .i64 0)], .lit (.int .i64 0), .lit (.int .i64 (-1))]

/-- 'laws.FnEnterRound': WHATEVER THE INPUT: true; the input reads as it did. -/
def fnEnterRoundSpec : ChangeSpec := { name := "fnEnterRound", vars := ["loop.example/invertedpages/impl.free"], fn := fun _ => fun
  | [d, g1] => { results := [.lit (.bool true)], args := [d], vars := [g1] }
  | _ => none }
def fnEnterRoundRow : OpenClaim := { program := "ytkohlcjdagckhaagreatdoor", sum := "85eb565f76d139ecf0bea7cd2dfdf94f74a240990aabad91aebde91f696ba2e1", func := "loop.example/invertedpages/laws.FnEnterRound", spec := "fnEnterRound", unfollowed := true, recurses := true, named := ["loop.example/invertedpages/impl.free"], plainKeys := false, apart := false, laid := [("loop.example/invertedpages/impl.free", laid_loop_example_invertedpages_impl_free)] }
def FnEnterRoundSaid : Prop := fnEnterRoundRow.holds Tryz.pinned (OpenSpec.ofChange fnEnterRoundSpec)

/-- ITS FALSE NEIGHBOUR: 'it returns false'. Refute it at one input. -/
def fnEnterRoundWrong : ChangeSpec := { name := "fnEnterRound", vars := ["loop.example/invertedpages/impl.free"], fn := fun _ => fun
  | [d, g1] => { results := [.lit (.bool false)], args := [d], vars := [g1] }
  | _ => none }
def FnEnterRoundWrongFalsely : Prop := fnEnterRoundRow.holds Tryz.pinned (OpenSpec.ofChange fnEnterRoundWrong)

/-- 'laws.FnEnterSpace': WHATEVER THE INPUT: true; the input reads as it did. -/
def fnEnterSpaceSpec : ChangeSpec := { name := "fnEnterSpace", vars := ["loop.example/invertedpages/impl.free"], fn := fun _ => fun
  | [d, g1] => { results := [.lit (.bool true)], args := [d], vars := [g1] }
  | _ => none }
def fnEnterSpaceRow : OpenClaim := { program := "ytkohlcjdagckhaagreatdoor", sum := "85eb565f76d139ecf0bea7cd2dfdf94f74a240990aabad91aebde91f696ba2e1", func := "loop.example/invertedpages/laws.FnEnterSpace", spec := "fnEnterSpace", unfollowed := true, recurses := true, named := ["loop.example/invertedpages/impl.free"], plainKeys := false, apart := false, laid := [("loop.example/invertedpages/impl.free", laid_loop_example_invertedpages_impl_free)] }
def FnEnterSpaceSaid : Prop := fnEnterSpaceRow.holds Tryz.pinned (OpenSpec.ofChange fnEnterSpaceSpec)

/-- ITS FALSE NEIGHBOUR: 'it returns false'. Refute it at one input. -/
def fnEnterSpaceWrong : ChangeSpec := { name := "fnEnterSpace", vars := ["loop.example/invertedpages/impl.free"], fn := fun _ => fun
  | [d, g1] => { results := [.lit (.bool false)], args := [d], vars := [g1] }
  | _ => none }
def FnEnterSpaceWrongFalsely : Prop := fnEnterSpaceRow.holds Tryz.pinned (OpenSpec.ofChange fnEnterSpaceWrong)

/-- 'laws.FnPutPage': WHATEVER THE INPUT: true; the input reads as it did. -/
def fnPutPageSpec : ChangeSpec := { name := "fnPutPage", vars := ["loop.example/invertedpages/impl.free"], fn := fun _ => fun
  | [d, g1] => { results := [.lit (.bool true)], args := [d], vars := [g1] }
  | _ => none }
def fnPutPageRow : OpenClaim := { program := "ytkohlcjdagckhaagreatdoor", sum := "85eb565f76d139ecf0bea7cd2dfdf94f74a240990aabad91aebde91f696ba2e1", func := "loop.example/invertedpages/laws.FnPutPage", spec := "fnPutPage", unfollowed := true, recurses := true, named := ["loop.example/invertedpages/impl.free"], plainKeys := false, apart := false, laid := [("loop.example/invertedpages/impl.free", laid_loop_example_invertedpages_impl_free)] }
def FnPutPageSaid : Prop := fnPutPageRow.holds Tryz.pinned (OpenSpec.ofChange fnPutPageSpec)

/-- ITS FALSE NEIGHBOUR: 'it returns false'. Refute it at one input. -/
def fnPutPageWrong : ChangeSpec := { name := "fnPutPage", vars := ["loop.example/invertedpages/impl.free"], fn := fun _ => fun
  | [d, g1] => { results := [.lit (.bool false)], args := [d], vars := [g1] }
  | _ => none }
def FnPutPageWrongFalsely : Prop := fnPutPageRow.holds Tryz.pinned (OpenSpec.ofChange fnPutPageWrong)

/-- 'laws.FnGuardBack': WHATEVER THE INPUT: true; the input reads as it did. -/
def fnGuardBackSpec : ChangeSpec := { name := "fnGuardBack", vars := ["loop.example/invertedpages/impl.free"], fn := fun _ => fun
  | [d, g1] => { results := [.lit (.bool true)], args := [d], vars := [g1] }
  | _ => none }
def fnGuardBackRow : OpenClaim := { program := "ytkohlcjdagckhaagreatdoor", sum := "85eb565f76d139ecf0bea7cd2dfdf94f74a240990aabad91aebde91f696ba2e1", func := "loop.example/invertedpages/laws.FnGuardBack", spec := "fnGuardBack", unfollowed := true, recurses := true, named := ["loop.example/invertedpages/impl.free"], plainKeys := false, apart := false, laid := [("loop.example/invertedpages/impl.free", laid_loop_example_invertedpages_impl_free)] }
def FnGuardBackSaid : Prop := fnGuardBackRow.holds Tryz.pinned (OpenSpec.ofChange fnGuardBackSpec)

/-- ITS FALSE NEIGHBOUR: 'it returns false'. Refute it at one input. -/
def fnGuardBackWrong : ChangeSpec := { name := "fnGuardBack", vars := ["loop.example/invertedpages/impl.free"], fn := fun _ => fun
  | [d, g1] => { results := [.lit (.bool false)], args := [d], vars := [g1] }
  | _ => none }
def FnGuardBackWrongFalsely : Prop := fnGuardBackRow.holds Tryz.pinned (OpenSpec.ofChange fnGuardBackWrong)

/-- 'laws.FnTouchTable': WHATEVER THE INPUT: true; the input reads as it did. -/
def fnTouchTableSpec : ChangeSpec := { name := "fnTouchTable", vars := ["loop.example/invertedpages/impl.free"], fn := fun _ => fun
  | [d, g1] => { results := [.lit (.bool true)], args := [d], vars := [g1] }
  | _ => none }
def fnTouchTableRow : OpenClaim := { program := "ytkohlcjdagckhaagreatdoor", sum := "85eb565f76d139ecf0bea7cd2dfdf94f74a240990aabad91aebde91f696ba2e1", func := "loop.example/invertedpages/laws.FnTouchTable", spec := "fnTouchTable", unfollowed := true, recurses := true, named := ["loop.example/invertedpages/impl.free"], plainKeys := false, apart := false, laid := [("loop.example/invertedpages/impl.free", laid_loop_example_invertedpages_impl_free)] }
def FnTouchTableSaid : Prop := fnTouchTableRow.holds Tryz.pinned (OpenSpec.ofChange fnTouchTableSpec)

/-- ITS FALSE NEIGHBOUR: 'it returns false'. Refute it at one input. -/
def fnTouchTableWrong : ChangeSpec := { name := "fnTouchTable", vars := ["loop.example/invertedpages/impl.free"], fn := fun _ => fun
  | [d, g1] => { results := [.lit (.bool false)], args := [d], vars := [g1] }
  | _ => none }
def FnTouchTableWrongFalsely : Prop := fnTouchTableRow.holds Tryz.pinned (OpenSpec.ofChange fnTouchTableWrong)

/-- 'laws.FnTouchTwice': WHATEVER THE INPUT: true; the input reads as it did. -/
def fnTouchTwiceSpec : ChangeSpec := { name := "fnTouchTwice", vars := ["loop.example/invertedpages/impl.free"], fn := fun _ => fun
  | [d, g1] => { results := [.lit (.bool true)], args := [d], vars := [g1] }
  | _ => none }
def fnTouchTwiceRow : OpenClaim := { program := "ytkohlcjdagckhaagreatdoor", sum := "85eb565f76d139ecf0bea7cd2dfdf94f74a240990aabad91aebde91f696ba2e1", func := "loop.example/invertedpages/laws.FnTouchTwice", spec := "fnTouchTwice", unfollowed := true, recurses := true, named := ["loop.example/invertedpages/impl.free"], plainKeys := false, apart := false, laid := [("loop.example/invertedpages/impl.free", laid_loop_example_invertedpages_impl_free)] }
def FnTouchTwiceSaid : Prop := fnTouchTwiceRow.holds Tryz.pinned (OpenSpec.ofChange fnTouchTwiceSpec)

/-- ITS FALSE NEIGHBOUR: 'it returns false'. Refute it at one input. -/
def fnTouchTwiceWrong : ChangeSpec := { name := "fnTouchTwice", vars := ["loop.example/invertedpages/impl.free"], fn := fun _ => fun
  | [d, g1] => { results := [.lit (.bool false)], args := [d], vars := [g1] }
  | _ => none }
def FnTouchTwiceWrongFalsely : Prop := fnTouchTwiceRow.holds Tryz.pinned (OpenSpec.ofChange fnTouchTwiceWrong)

/-- 'laws.FnTouchPage': WHATEVER THE INPUT: true; the input reads as it did. -/
def fnTouchPageSpec : ChangeSpec := { name := "fnTouchPage", vars := ["loop.example/invertedpages/impl.free"], fn := fun _ => fun
  | [d, g1] => { results := [.lit (.bool true)], args := [d], vars := [g1] }
  | _ => none }
def fnTouchPageRow : OpenClaim := { program := "ytkohlcjdagckhaagreatdoor", sum := "85eb565f76d139ecf0bea7cd2dfdf94f74a240990aabad91aebde91f696ba2e1", func := "loop.example/invertedpages/laws.FnTouchPage", spec := "fnTouchPage", unfollowed := true, recurses := true, named := ["loop.example/invertedpages/impl.free"], plainKeys := false, apart := false, laid := [("loop.example/invertedpages/impl.free", laid_loop_example_invertedpages_impl_free)] }
def FnTouchPageSaid : Prop := fnTouchPageRow.holds Tryz.pinned (OpenSpec.ofChange fnTouchPageSpec)

/-- ITS FALSE NEIGHBOUR: 'it returns false'. Refute it at one input. -/
def fnTouchPageWrong : ChangeSpec := { name := "fnTouchPage", vars := ["loop.example/invertedpages/impl.free"], fn := fun _ => fun
  | [d, g1] => { results := [.lit (.bool false)], args := [d], vars := [g1] }
  | _ => none }
def FnTouchPageWrongFalsely : Prop := fnTouchPageRow.holds Tryz.pinned (OpenSpec.ofChange fnTouchPageWrong)

/-- 'laws.FnWirePage': WHATEVER THE INPUT: true; the input reads as it did. -/
def fnWirePageSpec : ChangeSpec := { name := "fnWirePage", vars := ["loop.example/invertedpages/impl.free"], fn := fun _ => fun
  | [d, g1] => { results := [.lit (.bool true)], args := [d], vars := [g1] }
  | _ => none }
def fnWirePageRow : OpenClaim := { program := "ytkohlcjdagckhaagreatdoor", sum := "85eb565f76d139ecf0bea7cd2dfdf94f74a240990aabad91aebde91f696ba2e1", func := "loop.example/invertedpages/laws.FnWirePage", spec := "fnWirePage", unfollowed := true, recurses := true, named := ["loop.example/invertedpages/impl.free"], plainKeys := false, apart := false, laid := [("loop.example/invertedpages/impl.free", laid_loop_example_invertedpages_impl_free)] }
def FnWirePageSaid : Prop := fnWirePageRow.holds Tryz.pinned (OpenSpec.ofChange fnWirePageSpec)

/-- ITS FALSE NEIGHBOUR: 'it returns false'. Refute it at one input. -/
def fnWirePageWrong : ChangeSpec := { name := "fnWirePage", vars := ["loop.example/invertedpages/impl.free"], fn := fun _ => fun
  | [d, g1] => { results := [.lit (.bool false)], args := [d], vars := [g1] }
  | _ => none }
def FnWirePageWrongFalsely : Prop := fnWirePageRow.holds Tryz.pinned (OpenSpec.ofChange fnWirePageWrong)

/-- 'laws.FnPutFound': WHATEVER THE INPUT: true; the input reads as it did. -/
def fnPutFoundSpec : ChangeSpec := { name := "fnPutFound", vars := ["loop.example/invertedpages/impl.free"], fn := fun _ => fun
  | [d, g1] => { results := [.lit (.bool true)], args := [d], vars := [g1] }
  | _ => none }
def fnPutFoundRow : OpenClaim := { program := "ytkohlcjdagckhaagreatdoor", sum := "85eb565f76d139ecf0bea7cd2dfdf94f74a240990aabad91aebde91f696ba2e1", func := "loop.example/invertedpages/laws.FnPutFound", spec := "fnPutFound", unfollowed := true, recurses := true, named := ["loop.example/invertedpages/impl.free"], plainKeys := false, apart := false, laid := [("loop.example/invertedpages/impl.free", laid_loop_example_invertedpages_impl_free)] }
def FnPutFoundSaid : Prop := fnPutFoundRow.holds Tryz.pinned (OpenSpec.ofChange fnPutFoundSpec)

/-- ITS FALSE NEIGHBOUR: 'it returns false'. Refute it at one input. -/
def fnPutFoundWrong : ChangeSpec := { name := "fnPutFound", vars := ["loop.example/invertedpages/impl.free"], fn := fun _ => fun
  | [d, g1] => { results := [.lit (.bool false)], args := [d], vars := [g1] }
  | _ => none }
def FnPutFoundWrongFalsely : Prop := fnPutFoundRow.holds Tryz.pinned (OpenSpec.ofChange fnPutFoundWrong)

/-- 'laws.FnSharedTouch': WHATEVER THE INPUT: true; the input reads as it did. -/
def fnSharedTouchSpec : ChangeSpec := { name := "fnSharedTouch", vars := ["loop.example/invertedpages/impl.free"], fn := fun _ => fun
  | [d, g1] => { results := [.lit (.bool true)], args := [d], vars := [g1] }
  | _ => none }
def fnSharedTouchRow : OpenClaim := { program := "ytkohlcjdagckhaagreatdoor", sum := "85eb565f76d139ecf0bea7cd2dfdf94f74a240990aabad91aebde91f696ba2e1", func := "loop.example/invertedpages/laws.FnSharedTouch", spec := "fnSharedTouch", unfollowed := true, recurses := true, named := ["loop.example/invertedpages/impl.free"], plainKeys := false, apart := false, laid := [("loop.example/invertedpages/impl.free", laid_loop_example_invertedpages_impl_free)] }
def FnSharedTouchSaid : Prop := fnSharedTouchRow.holds Tryz.pinned (OpenSpec.ofChange fnSharedTouchSpec)

/-- ITS FALSE NEIGHBOUR: 'it returns false'. Refute it at one input. -/
def fnSharedTouchWrong : ChangeSpec := { name := "fnSharedTouch", vars := ["loop.example/invertedpages/impl.free"], fn := fun _ => fun
  | [d, g1] => { results := [.lit (.bool false)], args := [d], vars := [g1] }
  | _ => none }
def FnSharedTouchWrongFalsely : Prop := fnSharedTouchRow.holds Tryz.pinned (OpenSpec.ofChange fnSharedTouchWrong)

/-- 'laws.FnGuardPage': WHATEVER THE INPUT: true; the input reads as it did. -/
def fnGuardPageSpec : ChangeSpec := { name := "fnGuardPage", vars := ["loop.example/invertedpages/impl.free"], fn := fun _ => fun
  | [d, g1] => { results := [.lit (.bool true)], args := [d], vars := [g1] }
  | _ => none }
def fnGuardPageRow : OpenClaim := { program := "ytkohlcjdagckhaagreatdoor", sum := "85eb565f76d139ecf0bea7cd2dfdf94f74a240990aabad91aebde91f696ba2e1", func := "loop.example/invertedpages/laws.FnGuardPage", spec := "fnGuardPage", unfollowed := true, recurses := true, named := ["loop.example/invertedpages/impl.free"], plainKeys := false, apart := false, laid := [("loop.example/invertedpages/impl.free", laid_loop_example_invertedpages_impl_free)] }
def FnGuardPageSaid : Prop := fnGuardPageRow.holds Tryz.pinned (OpenSpec.ofChange fnGuardPageSpec)

/-- ITS FALSE NEIGHBOUR: 'it returns false'. Refute it at one input. -/
def fnGuardPageWrong : ChangeSpec := { name := "fnGuardPage", vars := ["loop.example/invertedpages/impl.free"], fn := fun _ => fun
  | [d, g1] => { results := [.lit (.bool false)], args := [d], vars := [g1] }
  | _ => none }
def FnGuardPageWrongFalsely : Prop := fnGuardPageRow.holds Tryz.pinned (OpenSpec.ofChange fnGuardPageWrong)

/-- 'laws.FnNewMemory': WHATEVER THE INPUT: true; the input reads as it did. -/
def fnNewMemorySpec : ChangeSpec := { name := "fnNewMemory", vars := ["loop.example/invertedpages/impl.free"], fn := fun _ => fun
  | [d, g1] => { results := [.lit (.bool true)], args := [d], vars := [g1] }
  | _ => none }
def fnNewMemoryRow : OpenClaim := { program := "ytkohlcjdagckhaagreatdoor", sum := "85eb565f76d139ecf0bea7cd2dfdf94f74a240990aabad91aebde91f696ba2e1", func := "loop.example/invertedpages/laws.FnNewMemory", spec := "fnNewMemory", unfollowed := true, recurses := true, named := ["loop.example/invertedpages/impl.free"], plainKeys := false, apart := false, laid := [("loop.example/invertedpages/impl.free", laid_loop_example_invertedpages_impl_free)] }
def FnNewMemorySaid : Prop := fnNewMemoryRow.holds Tryz.pinned (OpenSpec.ofChange fnNewMemorySpec)

/-- ITS FALSE NEIGHBOUR: 'it returns false'. Refute it at one input. -/
def fnNewMemoryWrong : ChangeSpec := { name := "fnNewMemory", vars := ["loop.example/invertedpages/impl.free"], fn := fun _ => fun
  | [d, g1] => { results := [.lit (.bool false)], args := [d], vars := [g1] }
  | _ => none }
def FnNewMemoryWrongFalsely : Prop := fnNewMemoryRow.holds Tryz.pinned (OpenSpec.ofChange fnNewMemoryWrong)

/- THE SECOND FORM. 'bulk': how many values and letters a reading holds, each counted each time it is reached (what is shared counts as often as it is met; a slice's spare places count too). A statement '..UptoSaid' is the law's where the arguments, and the package variables that the reading takes, are together of bulk at most 1048576: NARROWER than '..Said'. Prove '..Said' where nothing that the law and all that it calls make is longer than what came in: it says more and counts as full. Else prove '..UptoSaid'. A law counts once. -/
mutual
def uptoBulk {H : Type} : DataW H → Nat
  | .lit (.string bytes) => bytes.length + 1
  | .lit _ => 1
  | .nil => 1
  | .ptr d => uptoBulk d + 1
  | .slice elems spare => uptoBulkAll elems + uptoBulkAll spare + 1
  | .agg parts => uptoBulkAll parts + 1
  | .iface _ d => uptoBulk d + 1
  | .map entries => uptoBulkEntries entries + 1
  | .held _ => 1
def uptoBulkAll {H : Type} : List (DataW H) → Nat
  | [] => 0
  | d :: r => uptoBulk d + uptoBulkAll r
def uptoBulkEntries {H : Type} : List (Lit × DataW H) → Nat
  | [] => 0
  | x :: r => uptoBulkEntry x + uptoBulkEntries r
def uptoBulkEntry {H : Type} : Lit × DataW H → Nat
  | (.string bytes, d) => bytes.length + uptoBulk d + 1
  | (_, d) => uptoBulk d + 1
 end
def uptoSmall : (H : Type) → List (DataW H) → Bool := fun _ ds => decide (uptoBulkAll ds ≤ 1048576)
def OpenSpec.upto (s : _root_.Go.ChangeSpec) : _root_.Go.OpenSpec := { _root_.Go.OpenSpec.ofChange s with cond := some uptoSmall }

/-- 'laws.FnEnterRound', WHERE WHAT IT READS IS OF BULK AT MOST 1048576: true; the input reads as it did. -/
def fnEnterRoundUptoRow : OpenClaim := { program := "ytkohlcjdagckhaagreatdoor", sum := "85eb565f76d139ecf0bea7cd2dfdf94f74a240990aabad91aebde91f696ba2e1", func := "loop.example/invertedpages/laws.FnEnterRound", spec := "fnEnterRound", unfollowed := true, recurses := true, named := ["loop.example/invertedpages/impl.free"], plainKeys := false, apart := false, laid := [("loop.example/invertedpages/impl.free", laid_loop_example_invertedpages_impl_free)], narrowed := true }
def FnEnterRoundUptoSaid : Prop := fnEnterRoundUptoRow.holds Tryz.pinned (OpenSpec.upto fnEnterRoundSpec)

/-- 'laws.FnEnterSpace', WHERE WHAT IT READS IS OF BULK AT MOST 1048576: true; the input reads as it did. -/
def fnEnterSpaceUptoRow : OpenClaim := { program := "ytkohlcjdagckhaagreatdoor", sum := "85eb565f76d139ecf0bea7cd2dfdf94f74a240990aabad91aebde91f696ba2e1", func := "loop.example/invertedpages/laws.FnEnterSpace", spec := "fnEnterSpace", unfollowed := true, recurses := true, named := ["loop.example/invertedpages/impl.free"], plainKeys := false, apart := false, laid := [("loop.example/invertedpages/impl.free", laid_loop_example_invertedpages_impl_free)], narrowed := true }
def FnEnterSpaceUptoSaid : Prop := fnEnterSpaceUptoRow.holds Tryz.pinned (OpenSpec.upto fnEnterSpaceSpec)

/-- 'laws.FnPutPage', WHERE WHAT IT READS IS OF BULK AT MOST 1048576: true; the input reads as it did. -/
def fnPutPageUptoRow : OpenClaim := { program := "ytkohlcjdagckhaagreatdoor", sum := "85eb565f76d139ecf0bea7cd2dfdf94f74a240990aabad91aebde91f696ba2e1", func := "loop.example/invertedpages/laws.FnPutPage", spec := "fnPutPage", unfollowed := true, recurses := true, named := ["loop.example/invertedpages/impl.free"], plainKeys := false, apart := false, laid := [("loop.example/invertedpages/impl.free", laid_loop_example_invertedpages_impl_free)], narrowed := true }
def FnPutPageUptoSaid : Prop := fnPutPageUptoRow.holds Tryz.pinned (OpenSpec.upto fnPutPageSpec)

/-- 'laws.FnGuardBack', WHERE WHAT IT READS IS OF BULK AT MOST 1048576: true; the input reads as it did. -/
def fnGuardBackUptoRow : OpenClaim := { program := "ytkohlcjdagckhaagreatdoor", sum := "85eb565f76d139ecf0bea7cd2dfdf94f74a240990aabad91aebde91f696ba2e1", func := "loop.example/invertedpages/laws.FnGuardBack", spec := "fnGuardBack", unfollowed := true, recurses := true, named := ["loop.example/invertedpages/impl.free"], plainKeys := false, apart := false, laid := [("loop.example/invertedpages/impl.free", laid_loop_example_invertedpages_impl_free)], narrowed := true }
def FnGuardBackUptoSaid : Prop := fnGuardBackUptoRow.holds Tryz.pinned (OpenSpec.upto fnGuardBackSpec)

/-- 'laws.FnTouchTable', WHERE WHAT IT READS IS OF BULK AT MOST 1048576: true; the input reads as it did. -/
def fnTouchTableUptoRow : OpenClaim := { program := "ytkohlcjdagckhaagreatdoor", sum := "85eb565f76d139ecf0bea7cd2dfdf94f74a240990aabad91aebde91f696ba2e1", func := "loop.example/invertedpages/laws.FnTouchTable", spec := "fnTouchTable", unfollowed := true, recurses := true, named := ["loop.example/invertedpages/impl.free"], plainKeys := false, apart := false, laid := [("loop.example/invertedpages/impl.free", laid_loop_example_invertedpages_impl_free)], narrowed := true }
def FnTouchTableUptoSaid : Prop := fnTouchTableUptoRow.holds Tryz.pinned (OpenSpec.upto fnTouchTableSpec)

/-- 'laws.FnTouchTwice', WHERE WHAT IT READS IS OF BULK AT MOST 1048576: true; the input reads as it did. -/
def fnTouchTwiceUptoRow : OpenClaim := { program := "ytkohlcjdagckhaagreatdoor", sum := "85eb565f76d139ecf0bea7cd2dfdf94f74a240990aabad91aebde91f696ba2e1", func := "loop.example/invertedpages/laws.FnTouchTwice", spec := "fnTouchTwice", unfollowed := true, recurses := true, named := ["loop.example/invertedpages/impl.free"], plainKeys := false, apart := false, laid := [("loop.example/invertedpages/impl.free", laid_loop_example_invertedpages_impl_free)], narrowed := true }
def FnTouchTwiceUptoSaid : Prop := fnTouchTwiceUptoRow.holds Tryz.pinned (OpenSpec.upto fnTouchTwiceSpec)

/-- 'laws.FnTouchPage', WHERE WHAT IT READS IS OF BULK AT MOST 1048576: true; the input reads as it did. -/
def fnTouchPageUptoRow : OpenClaim := { program := "ytkohlcjdagckhaagreatdoor", sum := "85eb565f76d139ecf0bea7cd2dfdf94f74a240990aabad91aebde91f696ba2e1", func := "loop.example/invertedpages/laws.FnTouchPage", spec := "fnTouchPage", unfollowed := true, recurses := true, named := ["loop.example/invertedpages/impl.free"], plainKeys := false, apart := false, laid := [("loop.example/invertedpages/impl.free", laid_loop_example_invertedpages_impl_free)], narrowed := true }
def FnTouchPageUptoSaid : Prop := fnTouchPageUptoRow.holds Tryz.pinned (OpenSpec.upto fnTouchPageSpec)

/-- 'laws.FnWirePage', WHERE WHAT IT READS IS OF BULK AT MOST 1048576: true; the input reads as it did. -/
def fnWirePageUptoRow : OpenClaim := { program := "ytkohlcjdagckhaagreatdoor", sum := "85eb565f76d139ecf0bea7cd2dfdf94f74a240990aabad91aebde91f696ba2e1", func := "loop.example/invertedpages/laws.FnWirePage", spec := "fnWirePage", unfollowed := true, recurses := true, named := ["loop.example/invertedpages/impl.free"], plainKeys := false, apart := false, laid := [("loop.example/invertedpages/impl.free", laid_loop_example_invertedpages_impl_free)], narrowed := true }
def FnWirePageUptoSaid : Prop := fnWirePageUptoRow.holds Tryz.pinned (OpenSpec.upto fnWirePageSpec)

/-- 'laws.FnPutFound', WHERE WHAT IT READS IS OF BULK AT MOST 1048576: true; the input reads as it did. -/
def fnPutFoundUptoRow : OpenClaim := { program := "ytkohlcjdagckhaagreatdoor", sum := "85eb565f76d139ecf0bea7cd2dfdf94f74a240990aabad91aebde91f696ba2e1", func := "loop.example/invertedpages/laws.FnPutFound", spec := "fnPutFound", unfollowed := true, recurses := true, named := ["loop.example/invertedpages/impl.free"], plainKeys := false, apart := false, laid := [("loop.example/invertedpages/impl.free", laid_loop_example_invertedpages_impl_free)], narrowed := true }
def FnPutFoundUptoSaid : Prop := fnPutFoundUptoRow.holds Tryz.pinned (OpenSpec.upto fnPutFoundSpec)

/-- 'laws.FnSharedTouch', WHERE WHAT IT READS IS OF BULK AT MOST 1048576: true; the input reads as it did. -/
def fnSharedTouchUptoRow : OpenClaim := { program := "ytkohlcjdagckhaagreatdoor", sum := "85eb565f76d139ecf0bea7cd2dfdf94f74a240990aabad91aebde91f696ba2e1", func := "loop.example/invertedpages/laws.FnSharedTouch", spec := "fnSharedTouch", unfollowed := true, recurses := true, named := ["loop.example/invertedpages/impl.free"], plainKeys := false, apart := false, laid := [("loop.example/invertedpages/impl.free", laid_loop_example_invertedpages_impl_free)], narrowed := true }
def FnSharedTouchUptoSaid : Prop := fnSharedTouchUptoRow.holds Tryz.pinned (OpenSpec.upto fnSharedTouchSpec)

/-- 'laws.FnGuardPage', WHERE WHAT IT READS IS OF BULK AT MOST 1048576: true; the input reads as it did. -/
def fnGuardPageUptoRow : OpenClaim := { program := "ytkohlcjdagckhaagreatdoor", sum := "85eb565f76d139ecf0bea7cd2dfdf94f74a240990aabad91aebde91f696ba2e1", func := "loop.example/invertedpages/laws.FnGuardPage", spec := "fnGuardPage", unfollowed := true, recurses := true, named := ["loop.example/invertedpages/impl.free"], plainKeys := false, apart := false, laid := [("loop.example/invertedpages/impl.free", laid_loop_example_invertedpages_impl_free)], narrowed := true }
def FnGuardPageUptoSaid : Prop := fnGuardPageUptoRow.holds Tryz.pinned (OpenSpec.upto fnGuardPageSpec)

/-- 'laws.FnNewMemory', WHERE WHAT IT READS IS OF BULK AT MOST 1048576: true; the input reads as it did. -/
def fnNewMemoryUptoRow : OpenClaim := { program := "ytkohlcjdagckhaagreatdoor", sum := "85eb565f76d139ecf0bea7cd2dfdf94f74a240990aabad91aebde91f696ba2e1", func := "loop.example/invertedpages/laws.FnNewMemory", spec := "fnNewMemory", unfollowed := true, recurses := true, named := ["loop.example/invertedpages/impl.free"], plainKeys := false, apart := false, laid := [("loop.example/invertedpages/impl.free", laid_loop_example_invertedpages_impl_free)], narrowed := true }
def FnNewMemoryUptoSaid : Prop := fnNewMemoryUptoRow.holds Tryz.pinned (OpenSpec.upto fnNewMemorySpec)

end Rows
end Go.Proofs.YtkohlcjdagckhaaGreatDoor
