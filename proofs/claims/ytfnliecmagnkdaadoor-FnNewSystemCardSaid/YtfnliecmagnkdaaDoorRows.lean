/-
  NARROWER THAN 'FOR EVERY INPUT', by the rows' own cells (each row's printed sentence says how): FnExactSystemValid: laid · FnSystemValid: laid · FnSystemSame: laid · FnLookOthers: laid · FnLookTwice: laid · FnAckCpu: laid · FnLookCpu: laid · FnNewSystem: laid · FnExactSettleSystem: laid · FnExactAckCpu: laid · FnSettleLook: laid · FnExactMapSystem: laid.
  DERIVED. THE GIVEN ROWS OF THIS SEAT. 12 by the template 'for every input the law returns true; each argument reads behind the call as it read before'; 0 by the template 'total and deterministic' (their statements: YtfnliecmagnkdaaDoorTotals.lean).
  GIVEN WITH THE SEED: the statements are not yours to turn. If you find one false, say at which input.
  Laid BY PROGRAM, IN A SANDBOX (cutbox-rows.mjs): the forced cells as the released guide's own fill.sh prints them over the translation c905ec780106814d… (all of the seat's roots in one cut). By AI agents, Wed Nov 11 2026. No macro, syntax, notation, axiom, sorry.
-/
import Derived.Test.YtfnliecmagnkdaaDoorChecked
import GoSem.Claim
import GoSem.ClaimJoined
import GoSem.ClaimMapViews
import Derived.JoinedTies
import Derived.KernelRfl
namespace Go.Proofs.YtfnliecmagnkdaaDoor
/- THE CELL 'sum', in the pinned program and in every row, IS THE sha256 OF THE DUMP (.gsa) THAT YtfnliecmagnkdaaDoorProg.lean LOADS. Nothing in Lean hashes anything: it is a label: what it is worth is what the hold of that sum in a sandbox is worth. -/
noncomputable def Tryd.pinned : Pinned := { name := "ytfnliecmagnkdaadoor", sum := "c905ec780106814da7ebe2b716e19e11965fae37ea6df12b570b42b8c93b20be", checked := Tryd.checked }
namespace Rows
def none {H : Type} : Left H := { results := [], args := [] }

/- WHAT THE LISTED PACKAGE-LEVEL VARIABLES READ AS WHEN THE CALL BEGINS. Each datum BY PROGRAM (the guide's laid-datum.mjs) off the statement by which the dump's own 'gosem.cut.vars' lays the variable. In a bare row this is a premise. The card (YtfnliecmagnkdaaDoorCards.lean) ties it to the program's text. -/
def laid_loop_example_invertedpages_impl_free {H : Type} : DataW H := .agg [.lit (.bool false), .agg [.lit (.int .i64 0), .lit (.int .i64 0)], .lit (.int .i64 0), .lit (.int .i64 (-1))]

/-- 'laws.FnExactSystemValid': WHATEVER THE INPUT: true; the input reads as it did. -/
def fnExactSystemValidSpec : ChangeSpec := { name := "fnExactSystemValid", vars := ["loop.example/invertedpages/impl.free"], fn := fun _ => fun
  | [d, g1] => { results := [.lit (.bool true)], args := [d], vars := [g1] }
  | _ => none }
def fnExactSystemValidRow : OpenClaim := { program := "ytfnliecmagnkdaadoor", sum := "c905ec780106814da7ebe2b716e19e11965fae37ea6df12b570b42b8c93b20be", func := "loop.example/invertedpages/laws.FnExactSystemValid", spec := "fnExactSystemValid", unfollowed := true, recurses := true, named := ["loop.example/invertedpages/impl.free"], plainKeys := false, apart := false, laid := [("loop.example/invertedpages/impl.free", laid_loop_example_invertedpages_impl_free)] }
def FnExactSystemValidSaid : Prop := fnExactSystemValidRow.holds Tryd.pinned (OpenSpec.ofChange fnExactSystemValidSpec)

/-- ITS FALSE NEIGHBOUR: 'it returns false'. Refute it at one input. -/
def fnExactSystemValidWrong : ChangeSpec := { name := "fnExactSystemValid", vars := ["loop.example/invertedpages/impl.free"], fn := fun _ => fun
  | [d, g1] => { results := [.lit (.bool false)], args := [d], vars := [g1] }
  | _ => none }
def FnExactSystemValidWrongFalsely : Prop := fnExactSystemValidRow.holds Tryd.pinned (OpenSpec.ofChange fnExactSystemValidWrong)

/-- 'laws.FnSystemValid': WHATEVER THE INPUT: true; the input reads as it did. -/
def fnSystemValidSpec : ChangeSpec := { name := "fnSystemValid", vars := ["loop.example/invertedpages/impl.free"], fn := fun _ => fun
  | [d, g1] => { results := [.lit (.bool true)], args := [d], vars := [g1] }
  | _ => none }
def fnSystemValidRow : OpenClaim := { program := "ytfnliecmagnkdaadoor", sum := "c905ec780106814da7ebe2b716e19e11965fae37ea6df12b570b42b8c93b20be", func := "loop.example/invertedpages/laws.FnSystemValid", spec := "fnSystemValid", unfollowed := true, recurses := true, named := ["loop.example/invertedpages/impl.free"], plainKeys := false, apart := false, laid := [("loop.example/invertedpages/impl.free", laid_loop_example_invertedpages_impl_free)] }
def FnSystemValidSaid : Prop := fnSystemValidRow.holds Tryd.pinned (OpenSpec.ofChange fnSystemValidSpec)

/-- ITS FALSE NEIGHBOUR: 'it returns false'. Refute it at one input. -/
def fnSystemValidWrong : ChangeSpec := { name := "fnSystemValid", vars := ["loop.example/invertedpages/impl.free"], fn := fun _ => fun
  | [d, g1] => { results := [.lit (.bool false)], args := [d], vars := [g1] }
  | _ => none }
def FnSystemValidWrongFalsely : Prop := fnSystemValidRow.holds Tryd.pinned (OpenSpec.ofChange fnSystemValidWrong)

/-- 'laws.FnSystemSame': WHATEVER THE INPUT: true; the input reads as it did. -/
def fnSystemSameSpec : ChangeSpec := { name := "fnSystemSame", vars := ["loop.example/invertedpages/impl.free"], fn := fun _ => fun
  | [d, g1] => { results := [.lit (.bool true)], args := [d], vars := [g1] }
  | _ => none }
def fnSystemSameRow : OpenClaim := { program := "ytfnliecmagnkdaadoor", sum := "c905ec780106814da7ebe2b716e19e11965fae37ea6df12b570b42b8c93b20be", func := "loop.example/invertedpages/laws.FnSystemSame", spec := "fnSystemSame", unfollowed := true, recurses := true, named := ["loop.example/invertedpages/impl.free"], plainKeys := false, apart := false, laid := [("loop.example/invertedpages/impl.free", laid_loop_example_invertedpages_impl_free)] }
def FnSystemSameSaid : Prop := fnSystemSameRow.holds Tryd.pinned (OpenSpec.ofChange fnSystemSameSpec)

/-- ITS FALSE NEIGHBOUR: 'it returns false'. Refute it at one input. -/
def fnSystemSameWrong : ChangeSpec := { name := "fnSystemSame", vars := ["loop.example/invertedpages/impl.free"], fn := fun _ => fun
  | [d, g1] => { results := [.lit (.bool false)], args := [d], vars := [g1] }
  | _ => none }
def FnSystemSameWrongFalsely : Prop := fnSystemSameRow.holds Tryd.pinned (OpenSpec.ofChange fnSystemSameWrong)

/-- 'laws.FnLookOthers': WHATEVER THE INPUT: true; the input reads as it did. -/
def fnLookOthersSpec : ChangeSpec := { name := "fnLookOthers", vars := ["loop.example/invertedpages/impl.free"], fn := fun _ => fun
  | [d, g1] => { results := [.lit (.bool true)], args := [d], vars := [g1] }
  | _ => none }
def fnLookOthersRow : OpenClaim := { program := "ytfnliecmagnkdaadoor", sum := "c905ec780106814da7ebe2b716e19e11965fae37ea6df12b570b42b8c93b20be", func := "loop.example/invertedpages/laws.FnLookOthers", spec := "fnLookOthers", unfollowed := true, recurses := true, named := ["loop.example/invertedpages/impl.free"], plainKeys := false, apart := false, laid := [("loop.example/invertedpages/impl.free", laid_loop_example_invertedpages_impl_free)] }
def FnLookOthersSaid : Prop := fnLookOthersRow.holds Tryd.pinned (OpenSpec.ofChange fnLookOthersSpec)

/-- ITS FALSE NEIGHBOUR: 'it returns false'. Refute it at one input. -/
def fnLookOthersWrong : ChangeSpec := { name := "fnLookOthers", vars := ["loop.example/invertedpages/impl.free"], fn := fun _ => fun
  | [d, g1] => { results := [.lit (.bool false)], args := [d], vars := [g1] }
  | _ => none }
def FnLookOthersWrongFalsely : Prop := fnLookOthersRow.holds Tryd.pinned (OpenSpec.ofChange fnLookOthersWrong)

/-- 'laws.FnLookTwice': WHATEVER THE INPUT: true; the input reads as it did. -/
def fnLookTwiceSpec : ChangeSpec := { name := "fnLookTwice", vars := ["loop.example/invertedpages/impl.free"], fn := fun _ => fun
  | [d, g1] => { results := [.lit (.bool true)], args := [d], vars := [g1] }
  | _ => none }
def fnLookTwiceRow : OpenClaim := { program := "ytfnliecmagnkdaadoor", sum := "c905ec780106814da7ebe2b716e19e11965fae37ea6df12b570b42b8c93b20be", func := "loop.example/invertedpages/laws.FnLookTwice", spec := "fnLookTwice", unfollowed := true, recurses := true, named := ["loop.example/invertedpages/impl.free"], plainKeys := false, apart := false, laid := [("loop.example/invertedpages/impl.free", laid_loop_example_invertedpages_impl_free)] }
def FnLookTwiceSaid : Prop := fnLookTwiceRow.holds Tryd.pinned (OpenSpec.ofChange fnLookTwiceSpec)

/-- ITS FALSE NEIGHBOUR: 'it returns false'. Refute it at one input. -/
def fnLookTwiceWrong : ChangeSpec := { name := "fnLookTwice", vars := ["loop.example/invertedpages/impl.free"], fn := fun _ => fun
  | [d, g1] => { results := [.lit (.bool false)], args := [d], vars := [g1] }
  | _ => none }
def FnLookTwiceWrongFalsely : Prop := fnLookTwiceRow.holds Tryd.pinned (OpenSpec.ofChange fnLookTwiceWrong)

/-- 'laws.FnAckCpu': WHATEVER THE INPUT: true; the input reads as it did. -/
def fnAckCpuSpec : ChangeSpec := { name := "fnAckCpu", vars := ["loop.example/invertedpages/impl.free"], fn := fun _ => fun
  | [d, g1] => { results := [.lit (.bool true)], args := [d], vars := [g1] }
  | _ => none }
def fnAckCpuRow : OpenClaim := { program := "ytfnliecmagnkdaadoor", sum := "c905ec780106814da7ebe2b716e19e11965fae37ea6df12b570b42b8c93b20be", func := "loop.example/invertedpages/laws.FnAckCpu", spec := "fnAckCpu", unfollowed := true, recurses := true, named := ["loop.example/invertedpages/impl.free"], plainKeys := false, apart := false, laid := [("loop.example/invertedpages/impl.free", laid_loop_example_invertedpages_impl_free)] }
def FnAckCpuSaid : Prop := fnAckCpuRow.holds Tryd.pinned (OpenSpec.ofChange fnAckCpuSpec)

/-- ITS FALSE NEIGHBOUR: 'it returns false'. Refute it at one input. -/
def fnAckCpuWrong : ChangeSpec := { name := "fnAckCpu", vars := ["loop.example/invertedpages/impl.free"], fn := fun _ => fun
  | [d, g1] => { results := [.lit (.bool false)], args := [d], vars := [g1] }
  | _ => none }
def FnAckCpuWrongFalsely : Prop := fnAckCpuRow.holds Tryd.pinned (OpenSpec.ofChange fnAckCpuWrong)

/-- 'laws.FnLookCpu': WHATEVER THE INPUT: true; the input reads as it did. -/
def fnLookCpuSpec : ChangeSpec := { name := "fnLookCpu", vars := ["loop.example/invertedpages/impl.free"], fn := fun _ => fun
  | [d, g1] => { results := [.lit (.bool true)], args := [d], vars := [g1] }
  | _ => none }
def fnLookCpuRow : OpenClaim := { program := "ytfnliecmagnkdaadoor", sum := "c905ec780106814da7ebe2b716e19e11965fae37ea6df12b570b42b8c93b20be", func := "loop.example/invertedpages/laws.FnLookCpu", spec := "fnLookCpu", unfollowed := true, recurses := true, named := ["loop.example/invertedpages/impl.free"], plainKeys := false, apart := false, laid := [("loop.example/invertedpages/impl.free", laid_loop_example_invertedpages_impl_free)] }
def FnLookCpuSaid : Prop := fnLookCpuRow.holds Tryd.pinned (OpenSpec.ofChange fnLookCpuSpec)

/-- ITS FALSE NEIGHBOUR: 'it returns false'. Refute it at one input. -/
def fnLookCpuWrong : ChangeSpec := { name := "fnLookCpu", vars := ["loop.example/invertedpages/impl.free"], fn := fun _ => fun
  | [d, g1] => { results := [.lit (.bool false)], args := [d], vars := [g1] }
  | _ => none }
def FnLookCpuWrongFalsely : Prop := fnLookCpuRow.holds Tryd.pinned (OpenSpec.ofChange fnLookCpuWrong)

/-- 'laws.FnNewSystem': WHATEVER THE INPUT: true; the input reads as it did. -/
def fnNewSystemSpec : ChangeSpec := { name := "fnNewSystem", vars := ["loop.example/invertedpages/impl.free"], fn := fun _ => fun
  | [d, g1] => { results := [.lit (.bool true)], args := [d], vars := [g1] }
  | _ => none }
def fnNewSystemRow : OpenClaim := { program := "ytfnliecmagnkdaadoor", sum := "c905ec780106814da7ebe2b716e19e11965fae37ea6df12b570b42b8c93b20be", func := "loop.example/invertedpages/laws.FnNewSystem", spec := "fnNewSystem", unfollowed := true, recurses := true, named := ["loop.example/invertedpages/impl.free"], plainKeys := false, apart := false, laid := [("loop.example/invertedpages/impl.free", laid_loop_example_invertedpages_impl_free)] }
def FnNewSystemSaid : Prop := fnNewSystemRow.holds Tryd.pinned (OpenSpec.ofChange fnNewSystemSpec)

/-- ITS FALSE NEIGHBOUR: 'it returns false'. Refute it at one input. -/
def fnNewSystemWrong : ChangeSpec := { name := "fnNewSystem", vars := ["loop.example/invertedpages/impl.free"], fn := fun _ => fun
  | [d, g1] => { results := [.lit (.bool false)], args := [d], vars := [g1] }
  | _ => none }
def FnNewSystemWrongFalsely : Prop := fnNewSystemRow.holds Tryd.pinned (OpenSpec.ofChange fnNewSystemWrong)

/-- 'laws.FnExactSettleSystem': WHATEVER THE INPUT: true; the input reads as it did. -/
def fnExactSettleSystemSpec : ChangeSpec := { name := "fnExactSettleSystem", vars := ["loop.example/invertedpages/impl.free"], fn := fun _ => fun
  | [d, g1] => { results := [.lit (.bool true)], args := [d], vars := [g1] }
  | _ => none }
def fnExactSettleSystemRow : OpenClaim := { program := "ytfnliecmagnkdaadoor", sum := "c905ec780106814da7ebe2b716e19e11965fae37ea6df12b570b42b8c93b20be", func := "loop.example/invertedpages/laws.FnExactSettleSystem", spec := "fnExactSettleSystem", unfollowed := true, recurses := true, named := ["loop.example/invertedpages/impl.free"], plainKeys := false, apart := false, laid := [("loop.example/invertedpages/impl.free", laid_loop_example_invertedpages_impl_free)] }
def FnExactSettleSystemSaid : Prop := fnExactSettleSystemRow.holds Tryd.pinned (OpenSpec.ofChange fnExactSettleSystemSpec)

/-- ITS FALSE NEIGHBOUR: 'it returns false'. Refute it at one input. -/
def fnExactSettleSystemWrong : ChangeSpec := { name := "fnExactSettleSystem", vars := ["loop.example/invertedpages/impl.free"], fn := fun _ => fun
  | [d, g1] => { results := [.lit (.bool false)], args := [d], vars := [g1] }
  | _ => none }
def FnExactSettleSystemWrongFalsely : Prop := fnExactSettleSystemRow.holds Tryd.pinned (OpenSpec.ofChange fnExactSettleSystemWrong)

/-- 'laws.FnExactAckCpu': WHATEVER THE INPUT: true; the input reads as it did. -/
def fnExactAckCpuSpec : ChangeSpec := { name := "fnExactAckCpu", vars := ["loop.example/invertedpages/impl.free"], fn := fun _ => fun
  | [d1, d2, g1] => { results := [.lit (.bool true)], args := [d1, d2], vars := [g1] }
  | _ => none }
def fnExactAckCpuRow : OpenClaim := { program := "ytfnliecmagnkdaadoor", sum := "c905ec780106814da7ebe2b716e19e11965fae37ea6df12b570b42b8c93b20be", func := "loop.example/invertedpages/laws.FnExactAckCpu", spec := "fnExactAckCpu", unfollowed := true, recurses := true, named := ["loop.example/invertedpages/impl.free"], plainKeys := false, apart := false, laid := [("loop.example/invertedpages/impl.free", laid_loop_example_invertedpages_impl_free)] }
def FnExactAckCpuSaid : Prop := fnExactAckCpuRow.holds Tryd.pinned (OpenSpec.ofChange fnExactAckCpuSpec)

/-- ITS FALSE NEIGHBOUR: 'it returns false'. Refute it at one input. -/
def fnExactAckCpuWrong : ChangeSpec := { name := "fnExactAckCpu", vars := ["loop.example/invertedpages/impl.free"], fn := fun _ => fun
  | [d1, d2, g1] => { results := [.lit (.bool false)], args := [d1, d2], vars := [g1] }
  | _ => none }
def FnExactAckCpuWrongFalsely : Prop := fnExactAckCpuRow.holds Tryd.pinned (OpenSpec.ofChange fnExactAckCpuWrong)

/-- 'laws.FnSettleLook': WHATEVER THE INPUT: true; the input reads as it did. -/
def fnSettleLookSpec : ChangeSpec := { name := "fnSettleLook", vars := ["loop.example/invertedpages/impl.free"], fn := fun _ => fun
  | [d, g1] => { results := [.lit (.bool true)], args := [d], vars := [g1] }
  | _ => none }
def fnSettleLookRow : OpenClaim := { program := "ytfnliecmagnkdaadoor", sum := "c905ec780106814da7ebe2b716e19e11965fae37ea6df12b570b42b8c93b20be", func := "loop.example/invertedpages/laws.FnSettleLook", spec := "fnSettleLook", unfollowed := true, recurses := true, named := ["loop.example/invertedpages/impl.free"], plainKeys := false, apart := false, laid := [("loop.example/invertedpages/impl.free", laid_loop_example_invertedpages_impl_free)] }
def FnSettleLookSaid : Prop := fnSettleLookRow.holds Tryd.pinned (OpenSpec.ofChange fnSettleLookSpec)

/-- ITS FALSE NEIGHBOUR: 'it returns false'. Refute it at one input. -/
def fnSettleLookWrong : ChangeSpec := { name := "fnSettleLook", vars := ["loop.example/invertedpages/impl.free"], fn := fun _ => fun
  | [d, g1] => { results := [.lit (.bool false)], args := [d], vars := [g1] }
  | _ => none }
def FnSettleLookWrongFalsely : Prop := fnSettleLookRow.holds Tryd.pinned (OpenSpec.ofChange fnSettleLookWrong)

/-- 'laws.FnExactMapSystem': WHATEVER THE INPUT: true; the input reads as it did. -/
def fnExactMapSystemSpec : ChangeSpec := { name := "fnExactMapSystem", vars := ["loop.example/invertedpages/impl.free"], fn := fun _ => fun
  | [d1, d2, d3, d4, g1] => { results := [.lit (.bool true)], args := [d1, d2, d3, d4], vars := [g1] }
  | _ => none }
def fnExactMapSystemRow : OpenClaim := { program := "ytfnliecmagnkdaadoor", sum := "c905ec780106814da7ebe2b716e19e11965fae37ea6df12b570b42b8c93b20be", func := "loop.example/invertedpages/laws.FnExactMapSystem", spec := "fnExactMapSystem", unfollowed := true, recurses := true, named := ["loop.example/invertedpages/impl.free"], plainKeys := false, apart := false, laid := [("loop.example/invertedpages/impl.free", laid_loop_example_invertedpages_impl_free)] }
def FnExactMapSystemSaid : Prop := fnExactMapSystemRow.holds Tryd.pinned (OpenSpec.ofChange fnExactMapSystemSpec)

/-- ITS FALSE NEIGHBOUR: 'it returns false'. Refute it at one input. -/
def fnExactMapSystemWrong : ChangeSpec := { name := "fnExactMapSystem", vars := ["loop.example/invertedpages/impl.free"], fn := fun _ => fun
  | [d1, d2, d3, d4, g1] => { results := [.lit (.bool false)], args := [d1, d2, d3, d4], vars := [g1] }
  | _ => none }
def FnExactMapSystemWrongFalsely : Prop := fnExactMapSystemRow.holds Tryd.pinned (OpenSpec.ofChange fnExactMapSystemWrong)

/- THE SECOND FORM. 'bulk': how many values and letters a reading holds, each counted each time it is reached (what is shared counts as often as it is met; a slice's spare places count too). A statement '..UptoSaid' is the law's where the arguments, and the package variables that the reading takes, are together of bulk at most 1048576: NARROWER than '..Said'. Prove '..Said' where nothing that the law and all that it calls make is longer than what came in: it says more and counts as full. Else prove '..UptoSaid'. A law counts once. -/
mutual
def uptoBulk {H : Type} : DataW H → Nat
  | .lit (.string bytes) => bytes.length + 1
  | .lit _ => 1
  | .nil => 1
  | .ptr d => uptoBulk d + 1
  | .slice elems spare => uptoBulkAll elems + uptoBulkAll spare + 1
  | .agg parts => uptoBulkAll parts + 1
  | .iface _ d => uptoBulk d + 1
  | .map entries => uptoBulkEntries entries + 1
  | .held _ => 1
def uptoBulkAll {H : Type} : List (DataW H) → Nat
  | [] => 0
  | d :: r => uptoBulk d + uptoBulkAll r
def uptoBulkEntries {H : Type} : List (Lit × DataW H) → Nat
  | [] => 0
  | x :: r => uptoBulkEntry x + uptoBulkEntries r
def uptoBulkEntry {H : Type} : Lit × DataW H → Nat
  | (.string bytes, d) => bytes.length + uptoBulk d + 1
  | (_, d) => uptoBulk d + 1
 end
def uptoSmall : (H : Type) → List (DataW H) → Bool := fun _ ds => decide (uptoBulkAll ds ≤ 1048576)
def OpenSpec.upto (s : _root_.Go.ChangeSpec) : _root_.Go.OpenSpec := { _root_.Go.OpenSpec.ofChange s with cond := some uptoSmall }

/-- 'laws.FnExactSystemValid', WHERE WHAT IT READS IS OF BULK AT MOST 1048576: true; the input reads as it did. -/
def fnExactSystemValidUptoRow : OpenClaim := { program := "ytfnliecmagnkdaadoor", sum := "c905ec780106814da7ebe2b716e19e11965fae37ea6df12b570b42b8c93b20be", func := "loop.example/invertedpages/laws.FnExactSystemValid", spec := "fnExactSystemValid", unfollowed := true, recurses := true, named := ["loop.example/invertedpages/impl.free"], plainKeys := false, apart := false, laid := [("loop.example/invertedpages/impl.free", laid_loop_example_invertedpages_impl_free)], narrowed := true }
def FnExactSystemValidUptoSaid : Prop := fnExactSystemValidUptoRow.holds Tryd.pinned (OpenSpec.upto fnExactSystemValidSpec)

/-- 'laws.FnSystemValid', WHERE WHAT IT READS IS OF BULK AT MOST 1048576: true; the input reads as it did. -/
def fnSystemValidUptoRow : OpenClaim := { program := "ytfnliecmagnkdaadoor", sum := "c905ec780106814da7ebe2b716e19e11965fae37ea6df12b570b42b8c93b20be", func := "loop.example/invertedpages/laws.FnSystemValid", spec := "fnSystemValid", unfollowed := true, recurses := true, named := ["loop.example/invertedpages/impl.free"], plainKeys := false, apart := false, laid := [("loop.example/invertedpages/impl.free", laid_loop_example_invertedpages_impl_free)], narrowed := true }
def FnSystemValidUptoSaid : Prop := fnSystemValidUptoRow.holds Tryd.pinned (OpenSpec.upto fnSystemValidSpec)

/-- 'laws.FnSystemSame', WHERE WHAT IT READS IS OF BULK AT MOST 1048576: true; the input reads as it did. -/
def fnSystemSameUptoRow : OpenClaim := { program := "ytfnliecmagnkdaadoor", sum := "c905ec780106814da7ebe2b716e19e11965fae37ea6df12b570b42b8c93b20be", func := "loop.example/invertedpages/laws.FnSystemSame", spec := "fnSystemSame", unfollowed := true, recurses := true, named := ["loop.example/invertedpages/impl.free"], plainKeys := false, apart := false, laid := [("loop.example/invertedpages/impl.free", laid_loop_example_invertedpages_impl_free)], narrowed := true }
def FnSystemSameUptoSaid : Prop := fnSystemSameUptoRow.holds Tryd.pinned (OpenSpec.upto fnSystemSameSpec)

/-- 'laws.FnLookOthers', WHERE WHAT IT READS IS OF BULK AT MOST 1048576: true; the input reads as it did. -/
def fnLookOthersUptoRow : OpenClaim := { program := "ytfnliecmagnkdaadoor", sum := "c905ec780106814da7ebe2b716e19e11965fae37ea6df12b570b42b8c93b20be", func := "loop.example/invertedpages/laws.FnLookOthers", spec := "fnLookOthers", unfollowed := true, recurses := true, named := ["loop.example/invertedpages/impl.free"], plainKeys := false, apart := false, laid := [("loop.example/invertedpages/impl.free", laid_loop_example_invertedpages_impl_free)], narrowed := true }
def FnLookOthersUptoSaid : Prop := fnLookOthersUptoRow.holds Tryd.pinned (OpenSpec.upto fnLookOthersSpec)

/-- 'laws.FnLookTwice', WHERE WHAT IT READS IS OF BULK AT MOST 1048576: true; the input reads as it did. -/
def fnLookTwiceUptoRow : OpenClaim := { program := "ytfnliecmagnkdaadoor", sum := "c905ec780106814da7ebe2b716e19e11965fae37ea6df12b570b42b8c93b20be", func := "loop.example/invertedpages/laws.FnLookTwice", spec := "fnLookTwice", unfollowed := true, recurses := true, named := ["loop.example/invertedpages/impl.free"], plainKeys := false, apart := false, laid := [("loop.example/invertedpages/impl.free", laid_loop_example_invertedpages_impl_free)], narrowed := true }
def FnLookTwiceUptoSaid : Prop := fnLookTwiceUptoRow.holds Tryd.pinned (OpenSpec.upto fnLookTwiceSpec)

/-- 'laws.FnAckCpu', WHERE WHAT IT READS IS OF BULK AT MOST 1048576: true; the input reads as it did. -/
def fnAckCpuUptoRow : OpenClaim := { program := "ytfnliecmagnkdaadoor", sum := "c905ec780106814da7ebe2b716e19e11965fae37ea6df12b570b42b8c93b20be", func := "loop.example/invertedpages/laws.FnAckCpu", spec := "fnAckCpu", unfollowed := true, recurses := true, named := ["loop.example/invertedpages/impl.free"], plainKeys := false, apart := false, laid := [("loop.example/invertedpages/impl.free", laid_loop_example_invertedpages_impl_free)], narrowed := true }
def FnAckCpuUptoSaid : Prop := fnAckCpuUptoRow.holds Tryd.pinned (OpenSpec.upto fnAckCpuSpec)

/-- 'laws.FnLookCpu', WHERE WHAT IT READS IS OF BULK AT MOST 1048576: true; the input reads as it did. -/
def fnLookCpuUptoRow : OpenClaim := { program := "ytfnliecmagnkdaadoor", sum := "c905ec780106814da7ebe2b716e19e11965fae37ea6df12b570b42b8c93b20be", func := "loop.example/invertedpages/laws.FnLookCpu", spec := "fnLookCpu", unfollowed := true, recurses := true, named := ["loop.example/invertedpages/impl.free"], plainKeys := false, apart := false, laid := [("loop.example/invertedpages/impl.free", laid_loop_example_invertedpages_impl_free)], narrowed := true }
def FnLookCpuUptoSaid : Prop := fnLookCpuUptoRow.holds Tryd.pinned (OpenSpec.upto fnLookCpuSpec)

/-- 'laws.FnNewSystem', WHERE WHAT IT READS IS OF BULK AT MOST 1048576: true; the input reads as it did. -/
def fnNewSystemUptoRow : OpenClaim := { program := "ytfnliecmagnkdaadoor", sum := "c905ec780106814da7ebe2b716e19e11965fae37ea6df12b570b42b8c93b20be", func := "loop.example/invertedpages/laws.FnNewSystem", spec := "fnNewSystem", unfollowed := true, recurses := true, named := ["loop.example/invertedpages/impl.free"], plainKeys := false, apart := false, laid := [("loop.example/invertedpages/impl.free", laid_loop_example_invertedpages_impl_free)], narrowed := true }
def FnNewSystemUptoSaid : Prop := fnNewSystemUptoRow.holds Tryd.pinned (OpenSpec.upto fnNewSystemSpec)

/-- 'laws.FnExactSettleSystem', WHERE WHAT IT READS IS OF BULK AT MOST 1048576: true; the input reads as it did. -/
def fnExactSettleSystemUptoRow : OpenClaim := { program := "ytfnliecmagnkdaadoor", sum := "c905ec780106814da7ebe2b716e19e11965fae37ea6df12b570b42b8c93b20be", func := "loop.example/invertedpages/laws.FnExactSettleSystem", spec := "fnExactSettleSystem", unfollowed := true, recurses := true, named := ["loop.example/invertedpages/impl.free"], plainKeys := false, apart := false, laid := [("loop.example/invertedpages/impl.free", laid_loop_example_invertedpages_impl_free)], narrowed := true }
def FnExactSettleSystemUptoSaid : Prop := fnExactSettleSystemUptoRow.holds Tryd.pinned (OpenSpec.upto fnExactSettleSystemSpec)

/-- 'laws.FnExactAckCpu', WHERE WHAT IT READS IS OF BULK AT MOST 1048576: true; the input reads as it did. -/
def fnExactAckCpuUptoRow : OpenClaim := { program := "ytfnliecmagnkdaadoor", sum := "c905ec780106814da7ebe2b716e19e11965fae37ea6df12b570b42b8c93b20be", func := "loop.example/invertedpages/laws.FnExactAckCpu", spec := "fnExactAckCpu", unfollowed := true, recurses := true, named := ["loop.example/invertedpages/impl.free"], plainKeys := false, apart := false, laid := [("loop.example/invertedpages/impl.free", laid_loop_example_invertedpages_impl_free)], narrowed := true }
def FnExactAckCpuUptoSaid : Prop := fnExactAckCpuUptoRow.holds Tryd.pinned (OpenSpec.upto fnExactAckCpuSpec)

/-- 'laws.FnSettleLook', WHERE WHAT IT READS IS OF BULK AT MOST 1048576: true; the input reads as it did. -/
def fnSettleLookUptoRow : OpenClaim := { program := "ytfnliecmagnkdaadoor", sum := "c905ec780106814da7ebe2b716e19e11965fae37ea6df12b570b42b8c93b20be", func := "loop.example/invertedpages/laws.FnSettleLook", spec := "fnSettleLook", unfollowed := true, recurses := true, named := ["loop.example/invertedpages/impl.free"], plainKeys := false, apart := false, laid := [("loop.example/invertedpages/impl.free", laid_loop_example_invertedpages_impl_free)], narrowed := true }
def FnSettleLookUptoSaid : Prop := fnSettleLookUptoRow.holds Tryd.pinned (OpenSpec.upto fnSettleLookSpec)

/-- 'laws.FnExactMapSystem', WHERE WHAT IT READS IS OF BULK AT MOST 1048576: true; the input reads as it did. -/
def fnExactMapSystemUptoRow : OpenClaim := { program := "ytfnliecmagnkdaadoor", sum := "c905ec780106814da7ebe2b716e19e11965fae37ea6df12b570b42b8c93b20be", func := "loop.example/invertedpages/laws.FnExactMapSystem", spec := "fnExactMapSystem", unfollowed := true, recurses := true, named := ["loop.example/invertedpages/impl.free"], plainKeys := false, apart := false, laid := [("loop.example/invertedpages/impl.free", laid_loop_example_invertedpages_impl_free)], narrowed := true }
def FnExactMapSystemUptoSaid : Prop := fnExactMapSystemUptoRow.holds Tryd.pinned (OpenSpec.upto fnExactMapSystemSpec)

end Rows
end Go.Proofs.YtfnliecmagnkdaaDoor
