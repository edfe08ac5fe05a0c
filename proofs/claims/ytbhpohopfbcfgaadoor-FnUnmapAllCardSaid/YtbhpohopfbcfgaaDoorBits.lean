/- math/bits.Len of the program: the kit's contract, laid at this dump. -/
import Derived.Shelf.Small.Bits
import Derived.Ground.NamesProg
import Derived.Test.YtbhpohopfbcfgaaDoorProg
namespace Go.Proofs
open Go.Shelf Go.Lib
def YtbhpohopfbcfgaaDoor.bitsLenL_ren : Go.Shelf.Ren := ⟨fun | 125 => 69 | 128 => 80 | 129 => 81 | n => n, fun | 46 => 90 | 3 => 3 | 51 => 104 | 53 => 89 | 4 => 4 | 5 => 5 | 9 => 9 | n => n, fun | n => n⟩
theorem YtbhpohopfbcfgaaDoor.bitsLenL : Go.Proofs.Lays.n125 Tryd.prog YtbhpohopfbcfgaaDoor.bitsLenL_ren := {
  mixed := by kernel_rfl,
  f125 := Tryd.func69.trans (congrArg some (by kernel_rfl)),
  f128 := Tryd.func80.trans (congrArg some (by kernel_rfl)),
  f129 := Tryd.func81.trans (congrArg some (by kernel_rfl)),
  t3 := Tryd.underlying3,
  a3 := Tryd.isAgg3,
  z3 := Tryd.sizeOf3,
  v3 := Tryd.zeroValue3,
  t4 := Tryd.underlying4,
  a4 := Tryd.isAgg4,
  z4 := Tryd.sizeOf4,
  v4 := Tryd.zeroValue4,
  t5 := Tryd.underlying5,
  a5 := Tryd.isAgg5,
  z5 := Tryd.sizeOf5,
  v5 := Tryd.zeroValue5,
  t9 := Tryd.underlying9,
  a9 := Tryd.isAgg9,
  z9 := Tryd.sizeOf9,
  v9 := Tryd.zeroValue9,
  t46 := Tryd.underlying90,
  a46 := Tryd.isAgg90,
  z46 := Tryd.sizeOf90,
  v46 := Tryd.zeroValue90,
  t51 := Tryd.underlying104,
  a51 := Tryd.isAgg104,
  z51 := Tryd.sizeOf104,
  v51 := Tryd.zeroValue104,
  t53 := Tryd.underlying89,
  a53 := Tryd.isAgg89,
  z53 := Tryd.sizeOf89,
  v53 := Tryd.zeroValue89 }
theorem YtbhpohopfbcfgaaDoor.bitsLen_c (x : Int) (w : World) (h0 : 0 ≤ x) (h1 : x ≤ 18446744073709551615) : Calls Tryd.prog 69 #[.int .u64 x] w fun e w' => e = .returned (.int .i64 (Lib.bitLen x.toNat)) ∧ w' = w :=
  Any.bits_Len YtbhpohopfbcfgaaDoor.bitsLenL x w h0 h1
end Go.Proofs
