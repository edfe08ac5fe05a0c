/- Contracts that were shown by hand, in the engine's words. -/
import Derived.Test.YtciliaiocakdkaaDoorE6
import Derived.Test.YtciliaiocakdkaaDoorDat
import Derived.Test.YtciliaiocakdkaaDoorTValid
import Derived.Test.YtciliaiocakdkaaDoorSValid
namespace Go.Proofs.YtciliaiocakdkaaDoor
open Go.RowKit
theorem freeG_of {w : World} (h : w.rangeAt 0 0 [.bool false, .int .i64 0, .int .i64 0, .int .i64 0, .int .i64 (-1)]) : FreeG w :=
  ⟨h 0 _ rfl, h 1 _ rfl, h 2 _ rfl, h 3 _ rfl, h 4 _ rfl⟩
theorem ct_of_calls {P : Program} {f : FuncId} {vals : List Value} {w : World} {v : Value} (h : Calls P f vals.toArray w fun x w' => x = .returned v ∧ Below w.heap.size w w') : Ct P f vals w [] (fun rv h' => rv = v ∧ h' = []) :=
  Calls.mono h fun _ _ ⟨e, b⟩ => ⟨v, [], e, ⟨rfl, rfl⟩, ⟨Fr.ofBelow b _, fun _ _ hi => by (cases hi), fun _ _ _ _ hi => by (cases hi)⟩⟩
theorem OwnC.clipL {α : Type} [Enc α] {e : TypeId} {ao : Option Addr} {cap n : Nat} {l : List α} {C : Res} (ho : OwnC e ao cap l C) (h : n = l.length) : OwnC e ao n l C := by subst h; exact ho.clip
theorem OwnC.lenL {α : Type} [Enc α] {e : TypeId} {ao : Option Addr} {cap n : Nat} {l : List α} {C : Res} (ho : OwnC e ao cap l C) (h : n = l.length) : n ≤ cap := by subst h; exact ho.len.1
end Go.Proofs.YtciliaiocakdkaaDoor
