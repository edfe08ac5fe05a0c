/-
  NARROWER THAN 'FOR EVERY INPUT', by the rows' own cells (each row's printed sentence says how): FnClearMarks: laid · FnFrameVictim: laid · FnVictimSecond: laid.
  DERIVED. THE GIVEN ROWS OF THIS SEAT. 3 by the template 'for every input the law returns true; each argument reads behind the call as it read before'; 0 by the template 'total and deterministic' (their statements: YtkccmjfhmkjnlaaGreatDoorTotals.lean).
  GIVEN WITH THE SEED: the statements are not yours to turn. If you find one false, say at which input.
  Laid BY PROGRAM, IN A SANDBOX (cutbox-rows.mjs): the forced cells as the released guide's own fill.sh prints them over the translation 291556379b09f552… (all of the seat's roots in one cut). By AI agents, Wed Nov 11 2026. No macro, syntax, notation, axiom, sorry.
-/
import Derived.Test.YtkccmjfhmkjnlaaGreatDoorChecked
import GoSem.Claim
import GoSem.ClaimJoined
import GoSem.ClaimMapViews
import Derived.JoinedTies
import Derived.KernelRfl
namespace Go.Proofs.YtkccmjfhmkjnlaaGreatDoor
/- THE CELL 'sum', in the pinned program and in every row, IS THE sha256 OF THE DUMP (.gsa) THAT YtkccmjfhmkjnlaaGreatDoorProg.lean LOADS. Nothing in Lean hashes anything: it is a label: what it is worth is what the hold of that sum in a sandbox is worth. -/
noncomputable def Tryz.pinned : Pinned := { name := "ytkccmjfhmkjnlaagreatdoor", sum := "291556379b09f5522b9078db5f41ba9b9104bb2392e379d91161cf896c16dc11", checked := Tryz.checked }
namespace Rows
def none {H : Type} : Left H := { results := [], args := [] }

/- WHAT THE LISTED PACKAGE-LEVEL VARIABLES READ AS WHEN THE CALL BEGINS. Each datum BY PROGRAM (the guide's laid-datum.mjs) off the statement by which the dump's own 'gosem.cut.vars' lays the variable. In a bare row this is a premise. The card (YtkccmjfhmkjnlaaGreatDoorCards.lean) ties it to the program's text. -/
def laid_loop_example_invertedpages_impl_free {H : Type} : DataW H := .agg [.lit (.bool false), .agg [.lit (.int .i64 0), .lit (.int .i64 0)], .lit (.int .i64 0), .lit (.int .i64 (-1))]

/-- 'laws.FnClearMarks': WHATEVER THE INPUT: true; the input reads as it did. -/
def fnClearMarksSpec : ChangeSpec := { name := "fnClearMarks", vars := ["loop.example/invertedpages/impl.free"], fn := fun _ => fun
  | [d, g1] => { results := [.lit (.bool true)], args := [d], vars := [g1] }
  | _ => none }
def fnClearMarksRow : OpenClaim := { program := "ytkccmjfhmkjnlaagreatdoor", sum := "291556379b09f5522b9078db5f41ba9b9104bb2392e379d91161cf896c16dc11", func := "loop.example/invertedpages/laws.FnClearMarks", spec := "fnClearMarks", unfollowed := true, recurses := true, named := ["loop.example/invertedpages/impl.free"], plainKeys := false, apart := false, laid := [("loop.example/invertedpages/impl.free", laid_loop_example_invertedpages_impl_free)] }
def FnClearMarksSaid : Prop := fnClearMarksRow.holds Tryz.pinned (OpenSpec.ofChange fnClearMarksSpec)

/-- ITS FALSE NEIGHBOUR: 'it returns false'. Refute it at one input. -/
def fnClearMarksWrong : ChangeSpec := { name := "fnClearMarks", vars := ["loop.example/invertedpages/impl.free"], fn := fun _ => fun
  | [d, g1] => { results := [.lit (.bool false)], args := [d], vars := [g1] }
  | _ => none }
def FnClearMarksWrongFalsely : Prop := fnClearMarksRow.holds Tryz.pinned (OpenSpec.ofChange fnClearMarksWrong)

/-- 'laws.FnFrameVictim': WHATEVER THE INPUT: true; the input reads as it did. -/
def fnFrameVictimSpec : ChangeSpec := { name := "fnFrameVictim", vars := ["loop.example/invertedpages/impl.free"], fn := fun _ => fun
  | [d, g1] => { results := [.lit (.bool true)], args := [d], vars := [g1] }
  | _ => none }
def fnFrameVictimRow : OpenClaim := { program := "ytkccmjfhmkjnlaagreatdoor", sum := "291556379b09f5522b9078db5f41ba9b9104bb2392e379d91161cf896c16dc11", func := "loop.example/invertedpages/laws.FnFrameVictim", spec := "fnFrameVictim", unfollowed := true, recurses := true, named := ["loop.example/invertedpages/impl.free"], plainKeys := false, apart := false, laid := [("loop.example/invertedpages/impl.free", laid_loop_example_invertedpages_impl_free)] }
def FnFrameVictimSaid : Prop := fnFrameVictimRow.holds Tryz.pinned (OpenSpec.ofChange fnFrameVictimSpec)

/-- ITS FALSE NEIGHBOUR: 'it returns false'. Refute it at one input. -/
def fnFrameVictimWrong : ChangeSpec := { name := "fnFrameVictim", vars := ["loop.example/invertedpages/impl.free"], fn := fun _ => fun
  | [d, g1] => { results := [.lit (.bool false)], args := [d], vars := [g1] }
  | _ => none }
def FnFrameVictimWrongFalsely : Prop := fnFrameVictimRow.holds Tryz.pinned (OpenSpec.ofChange fnFrameVictimWrong)

/-- 'laws.FnVictimSecond': WHATEVER THE INPUT: true; the input reads as it did. -/
def fnVictimSecondSpec : ChangeSpec := { name := "fnVictimSecond", vars := ["loop.example/invertedpages/impl.free"], fn := fun _ => fun
  | [d, g1] => { results := [.lit (.bool true)], args := [d], vars := [g1] }
  | _ => none }
def fnVictimSecondRow : OpenClaim := { program := "ytkccmjfhmkjnlaagreatdoor", sum := "291556379b09f5522b9078db5f41ba9b9104bb2392e379d91161cf896c16dc11", func := "loop.example/invertedpages/laws.FnVictimSecond", spec := "fnVictimSecond", unfollowed := true, recurses := true, named := ["loop.example/invertedpages/impl.free"], plainKeys := false, apart := false, laid := [("loop.example/invertedpages/impl.free", laid_loop_example_invertedpages_impl_free)] }
def FnVictimSecondSaid : Prop := fnVictimSecondRow.holds Tryz.pinned (OpenSpec.ofChange fnVictimSecondSpec)

/-- ITS FALSE NEIGHBOUR: 'it returns false'. Refute it at one input. -/
def fnVictimSecondWrong : ChangeSpec := { name := "fnVictimSecond", vars := ["loop.example/invertedpages/impl.free"], fn := fun _ => fun
  | [d, g1] => { results := [.lit (.bool false)], args := [d], vars := [g1] }
  | _ => none }
def FnVictimSecondWrongFalsely : Prop := fnVictimSecondRow.holds Tryz.pinned (OpenSpec.ofChange fnVictimSecondWrong)

/- THE SECOND FORM. 'bulk': how many values and letters a reading holds, each counted each time it is reached (what is shared counts as often as it is met; a slice's spare places count too). A statement '..UptoSaid' is the law's where the arguments, and the package variables that the reading takes, are together of bulk at most 1048576: NARROWER than '..Said'. Prove '..Said' where nothing that the law and all that it calls make is longer than what came in: it says more and counts as full. Else prove '..UptoSaid'. A law counts once. -/
mutual
def uptoBulk {H : Type} : DataW H → Nat
  | .lit (.string bytes) => bytes.length + 1
  | .lit _ => 1
  | .nil => 1
  | .ptr d => uptoBulk d + 1
  | .slice elems spare => uptoBulkAll elems + uptoBulkAll spare + 1
  | .agg parts => uptoBulkAll parts + 1
  | .iface _ d => uptoBulk d + 1
  | .map entries => uptoBulkEntries entries + 1
  | .held _ => 1
def uptoBulkAll {H : Type} : List (DataW H) → Nat
  | [] => 0
  | d :: r => uptoBulk d + uptoBulkAll r
def uptoBulkEntries {H : Type} : List (Lit × DataW H) → Nat
  | [] => 0
  | x :: r => uptoBulkEntry x + uptoBulkEntries r
def uptoBulkEntry {H : Type} : Lit × DataW H → Nat
  | (.string bytes, d) => bytes.length + uptoBulk d + 1
  | (_, d) => uptoBulk d + 1
 end
def uptoSmall : (H : Type) → List (DataW H) → Bool := fun _ ds => decide (uptoBulkAll ds ≤ 1048576)
def OpenSpec.upto (s : _root_.Go.ChangeSpec) : _root_.Go.OpenSpec := { _root_.Go.OpenSpec.ofChange s with cond := some uptoSmall }

/-- 'laws.FnClearMarks', WHERE WHAT IT READS IS OF BULK AT MOST 1048576: true; the input reads as it did. -/
def fnClearMarksUptoRow : OpenClaim := { program := "ytkccmjfhmkjnlaagreatdoor", sum := "291556379b09f5522b9078db5f41ba9b9104bb2392e379d91161cf896c16dc11", func := "loop.example/invertedpages/laws.FnClearMarks", spec := "fnClearMarks", unfollowed := true, recurses := true, named := ["loop.example/invertedpages/impl.free"], plainKeys := false, apart := false, laid := [("loop.example/invertedpages/impl.free", laid_loop_example_invertedpages_impl_free)], narrowed := true }
def FnClearMarksUptoSaid : Prop := fnClearMarksUptoRow.holds Tryz.pinned (OpenSpec.upto fnClearMarksSpec)

/-- 'laws.FnFrameVictim', WHERE WHAT IT READS IS OF BULK AT MOST 1048576: true; the input reads as it did. -/
def fnFrameVictimUptoRow : OpenClaim := { program := "ytkccmjfhmkjnlaagreatdoor", sum := "291556379b09f5522b9078db5f41ba9b9104bb2392e379d91161cf896c16dc11", func := "loop.example/invertedpages/laws.FnFrameVictim", spec := "fnFrameVictim", unfollowed := true, recurses := true, named := ["loop.example/invertedpages/impl.free"], plainKeys := false, apart := false, laid := [("loop.example/invertedpages/impl.free", laid_loop_example_invertedpages_impl_free)], narrowed := true }
def FnFrameVictimUptoSaid : Prop := fnFrameVictimUptoRow.holds Tryz.pinned (OpenSpec.upto fnFrameVictimSpec)

/-- 'laws.FnVictimSecond', WHERE WHAT IT READS IS OF BULK AT MOST 1048576: true; the input reads as it did. -/
def fnVictimSecondUptoRow : OpenClaim := { program := "ytkccmjfhmkjnlaagreatdoor", sum := "291556379b09f5522b9078db5f41ba9b9104bb2392e379d91161cf896c16dc11", func := "loop.example/invertedpages/laws.FnVictimSecond", spec := "fnVictimSecond", unfollowed := true, recurses := true, named := ["loop.example/invertedpages/impl.free"], plainKeys := false, apart := false, laid := [("loop.example/invertedpages/impl.free", laid_loop_example_invertedpages_impl_free)], narrowed := true }
def FnVictimSecondUptoSaid : Prop := fnVictimSecondUptoRow.holds Tryz.pinned (OpenSpec.upto fnVictimSecondSpec)

end Rows
end Go.Proofs.YtkccmjfhmkjnlaaGreatDoor
