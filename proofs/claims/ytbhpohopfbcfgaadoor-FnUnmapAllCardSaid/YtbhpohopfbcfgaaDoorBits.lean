/- math/bits.Len of the program: the kit's contract, laid at this dump. -/
import Derived.Shelf.Small.Bits
import Derived.Shelf.Lay
import Derived.Ground.NamesProg
import Derived.Test.YtbhpohopfbcfgaaDoorProg
namespace Go.Proofs
open Go.Shelf Go.Lib
shelf_lay Lays.n125 Nm 125 at Tryd as YtbhpohopfbcfgaaDoor.bitsLenL
theorem YtbhpohopfbcfgaaDoor.bitsLen_c (x : Int) (w : World) (h0 : 0 ≤ x) (h1 : x ≤ 18446744073709551615) : Calls Tryd.prog 69 #[.int .u64 x] w fun e w' => e = .returned (.int .i64 (Lib.bitLen x.toNat)) ∧ w' = w :=
  Any.bits_Len YtbhpohopfbcfgaaDoor.bitsLenL x w h0 h1
end Go.Proofs
