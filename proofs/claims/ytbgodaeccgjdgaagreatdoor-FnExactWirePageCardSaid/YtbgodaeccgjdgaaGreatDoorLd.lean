/- Plain laws of the tables' functions: mapping a page. -/
import Derived.Test.YtbgodaeccgjdgaaGreatDoorLc
set_option linter.unusedSimpArgs false
set_option linter.unusedVariables false
namespace Go.Proofs.YtbgodaeccgjdgaaGreatDoor
open Go.RowKit
variable {fl : Nat}
end Go.Proofs.YtbgodaeccgjdgaaGreatDoor
