/- Plain laws of the exact laws' helpers: caches, tags, machines, memories. -/
import Derived.Test.YtbgodaeccgjdgaaDoorLm
set_option linter.unusedSimpArgs false
set_option linter.unusedVariables false
namespace Go.Proofs.YtbgodaeccgjdgaaDoor
open Go.RowKit
variable {fl : Nat}
def LM (n : Nat) : Prop := (n : Int) ≤ 9223372036854775807
/-- how many elements a machine has -/
def mcN (m : Mc) : Nat := (m.t.b.length + m.t.f.length) + (m.c.l.length + m.g.o.length)
end Go.Proofs.YtbgodaeccgjdgaaDoor
