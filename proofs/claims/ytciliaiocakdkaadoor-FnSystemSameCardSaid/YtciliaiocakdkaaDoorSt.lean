/- Facts on the program's table of types and of functions, each a look into it. Printed by a program (gen.py). -/
import Derived.Test.YtciliaiocakdkaaDoorDp
import Derived.Test.YtciliaiocakdkaaDoorE6
import Derived.Test.YtciliaiocakdkaaDoorDat
import Derived.Test.YtciliaiocakdkaaDoorProg
import Derived.KernelRfl
set_option linter.unusedSimpArgs false
set_option linter.unusedVariables false
set_option linter.unusedSectionVars false
namespace Go.Proofs.YtciliaiocakdkaaDoor
open Go.RowKit
theorem g_mixed : Tryd.prog.follows .mixedOrders = true := by kernel_rfl
theorem cf5 : CF Tryd.prog 5 := ⟨⟨_, Tryd.func5, rfl, by kernel_rfl⟩⟩
theorem cf6 : CF Tryd.prog 6 := ⟨⟨_, Tryd.func6, rfl, by kernel_rfl⟩⟩
theorem cf7 : CF Tryd.prog 7 := ⟨⟨_, Tryd.func7, rfl, by kernel_rfl⟩⟩
theorem cf8 : CF Tryd.prog 8 := ⟨⟨_, Tryd.func8, rfl, by kernel_rfl⟩⟩
theorem cf11 : CF Tryd.prog 11 := ⟨⟨_, Tryd.func11, rfl, by kernel_rfl⟩⟩
theorem cf12 : CF Tryd.prog 12 := ⟨⟨_, Tryd.func12, rfl, by kernel_rfl⟩⟩
theorem cf13 : CF Tryd.prog 13 := ⟨⟨_, Tryd.func13, rfl, by kernel_rfl⟩⟩
theorem cf14 : CF Tryd.prog 14 := ⟨⟨_, Tryd.func14, rfl, by kernel_rfl⟩⟩
theorem cf15 : CF Tryd.prog 15 := ⟨⟨_, Tryd.func15, rfl, by kernel_rfl⟩⟩
theorem cf16 : CF Tryd.prog 16 := ⟨⟨_, Tryd.func16, rfl, by kernel_rfl⟩⟩
theorem cf17 : CF Tryd.prog 17 := ⟨⟨_, Tryd.func17, rfl, by kernel_rfl⟩⟩
theorem cf18 : CF Tryd.prog 18 := ⟨⟨_, Tryd.func18, rfl, by kernel_rfl⟩⟩
theorem cf19 : CF Tryd.prog 19 := ⟨⟨_, Tryd.func19, rfl, by kernel_rfl⟩⟩
theorem cf20 : CF Tryd.prog 20 := ⟨⟨_, Tryd.func20, rfl, by kernel_rfl⟩⟩
theorem cf21 : CF Tryd.prog 21 := ⟨⟨_, Tryd.func21, rfl, by kernel_rfl⟩⟩
theorem cf22 : CF Tryd.prog 22 := ⟨⟨_, Tryd.func22, rfl, by kernel_rfl⟩⟩
theorem cf23 : CF Tryd.prog 23 := ⟨⟨_, Tryd.func23, rfl, by kernel_rfl⟩⟩
theorem cf24 : CF Tryd.prog 24 := ⟨⟨_, Tryd.func24, rfl, by kernel_rfl⟩⟩
theorem cf25 : CF Tryd.prog 25 := ⟨⟨_, Tryd.func25, rfl, by kernel_rfl⟩⟩
theorem cf26 : CF Tryd.prog 26 := ⟨⟨_, Tryd.func26, rfl, by kernel_rfl⟩⟩
theorem cf27 : CF Tryd.prog 27 := ⟨⟨_, Tryd.func27, rfl, by kernel_rfl⟩⟩
theorem cf30 : CF Tryd.prog 30 := ⟨⟨_, Tryd.func30, rfl, by kernel_rfl⟩⟩
theorem cf34 : CF Tryd.prog 34 := ⟨⟨_, Tryd.func34, rfl, by kernel_rfl⟩⟩
theorem cf35 : CF Tryd.prog 35 := ⟨⟨_, Tryd.func35, rfl, by kernel_rfl⟩⟩
theorem cf36 : CF Tryd.prog 36 := ⟨⟨_, Tryd.func36, rfl, by kernel_rfl⟩⟩
theorem cf37 : CF Tryd.prog 37 := ⟨⟨_, Tryd.func37, rfl, by kernel_rfl⟩⟩
theorem cf38 : CF Tryd.prog 38 := ⟨⟨_, Tryd.func38, rfl, by kernel_rfl⟩⟩
theorem cf39 : CF Tryd.prog 39 := ⟨⟨_, Tryd.func39, rfl, by kernel_rfl⟩⟩
theorem cf40 : CF Tryd.prog 40 := ⟨⟨_, Tryd.func40, rfl, by kernel_rfl⟩⟩
theorem cf41 : CF Tryd.prog 41 := ⟨⟨_, Tryd.func41, rfl, by kernel_rfl⟩⟩
theorem cf42 : CF Tryd.prog 42 := ⟨⟨_, Tryd.func42, rfl, by kernel_rfl⟩⟩
theorem cf43 : CF Tryd.prog 43 := ⟨⟨_, Tryd.func43, rfl, by kernel_rfl⟩⟩
theorem cf44 : CF Tryd.prog 44 := ⟨⟨_, Tryd.func44, rfl, by kernel_rfl⟩⟩
theorem cf45 : CF Tryd.prog 45 := ⟨⟨_, Tryd.func45, rfl, by kernel_rfl⟩⟩
theorem cf46 : CF Tryd.prog 46 := ⟨⟨_, Tryd.func46, rfl, by kernel_rfl⟩⟩
theorem cf47 : CF Tryd.prog 47 := ⟨⟨_, Tryd.func47, rfl, by kernel_rfl⟩⟩
theorem cf48 : CF Tryd.prog 48 := ⟨⟨_, Tryd.func48, rfl, by kernel_rfl⟩⟩
theorem cf49 : CF Tryd.prog 49 := ⟨⟨_, Tryd.func49, rfl, by kernel_rfl⟩⟩
theorem cf53 : CF Tryd.prog 53 := ⟨⟨_, Tryd.func53, rfl, by kernel_rfl⟩⟩
theorem cf54 : CF Tryd.prog 54 := ⟨⟨_, Tryd.func54, rfl, by kernel_rfl⟩⟩
theorem cf55 : CF Tryd.prog 55 := ⟨⟨_, Tryd.func55, rfl, by kernel_rfl⟩⟩
theorem cf56 : CF Tryd.prog 56 := ⟨⟨_, Tryd.func56, rfl, by kernel_rfl⟩⟩
theorem cf62 : CF Tryd.prog 62 := ⟨⟨_, Tryd.func62, rfl, by kernel_rfl⟩⟩
theorem cf63 : CF Tryd.prog 63 := ⟨⟨_, Tryd.func63, rfl, by kernel_rfl⟩⟩
theorem cf64 : CF Tryd.prog 64 := ⟨⟨_, Tryd.func64, rfl, by kernel_rfl⟩⟩
theorem cf65 : CF Tryd.prog 65 := ⟨⟨_, Tryd.func65, rfl, by kernel_rfl⟩⟩
theorem cf66 : CF Tryd.prog 66 := ⟨⟨_, Tryd.func66, rfl, by kernel_rfl⟩⟩
theorem cf67 : CF Tryd.prog 67 := ⟨⟨_, Tryd.func67, rfl, by kernel_rfl⟩⟩
theorem cf68 : CF Tryd.prog 68 := ⟨⟨_, Tryd.func68, rfl, by kernel_rfl⟩⟩
theorem cf69 : CF Tryd.prog 69 := ⟨⟨_, Tryd.func69, rfl, by kernel_rfl⟩⟩
theorem cf70 : CF Tryd.prog 70 := ⟨⟨_, Tryd.func70, rfl, by kernel_rfl⟩⟩
theorem cf71 : CF Tryd.prog 71 := ⟨⟨_, Tryd.func71, rfl, by kernel_rfl⟩⟩
theorem cf72 : CF Tryd.prog 72 := ⟨⟨_, Tryd.func72, rfl, by kernel_rfl⟩⟩
theorem cf73 : CF Tryd.prog 73 := ⟨⟨_, Tryd.func73, rfl, by kernel_rfl⟩⟩
theorem cf74 : CF Tryd.prog 74 := ⟨⟨_, Tryd.func74, rfl, by kernel_rfl⟩⟩
theorem cf79 : CF Tryd.prog 79 := ⟨⟨_, Tryd.func79, rfl, by kernel_rfl⟩⟩
theorem cf80 : CF Tryd.prog 80 := ⟨⟨_, Tryd.func80, rfl, by kernel_rfl⟩⟩
theorem cf81 : CF Tryd.prog 81 := ⟨⟨_, Tryd.func81, rfl, by kernel_rfl⟩⟩
theorem cf82 : CF Tryd.prog 82 := ⟨⟨_, Tryd.func82, rfl, by kernel_rfl⟩⟩
theorem cf84 : CF Tryd.prog 84 := ⟨⟨_, Tryd.func84, rfl, by kernel_rfl⟩⟩
theorem cf85 : CF Tryd.prog 85 := ⟨⟨_, Tryd.func85, rfl, by kernel_rfl⟩⟩
theorem sl23 : SlT Tryd.prog Int 23 3 8 (0 : Int) := SlT.mk' (zv := .int .i64 0) Tryd.underlying23 (by kernel_rfl) rfl (by decide)
theorem sl24 : SlT Tryd.prog F 24 61 40 (⟨false, (⟨0, 0⟩ : K), 0, 0⟩ : F) := SlT.mk' (zv := .agg #[.bool false, .int .i64 0, .int .i64 0, .int .i64 0, .int .i64 0]) Tryd.underlying24 (by kernel_rfl) rfl (by decide)
theorem sl27 : SlT Tryd.prog CpS 27 43 48 cpz := SlT.mk' (zv := .agg #[.slice none 0 0, .slice none 0 0]) Tryd.underlying27 (by kernel_rfl) rfl (by decide)
theorem sl41 : SlT Tryd.prog Nt 41 53 24 (⟨(⟨0, 0⟩ : K), 0⟩ : Nt) := SlT.mk' (zv := .agg #[.int .i64 0, .int .i64 0, .int .i64 0]) Tryd.underlying41 (by kernel_rfl) rfl (by decide)
theorem sl78 : SlT Tryd.prog K 78 36 16 (⟨0, 0⟩ : K) := SlT.mk' (zv := .agg #[.int .i64 0, .int .i64 0]) Tryd.underlying78 (by kernel_rfl) rfl (by decide)
theorem te36 : TyEq Tryd.prog 36 K := ⟨fun w x y => by
  rw [beqK]
  show (Op.equalIn (9996 + 1 + 1 + 1 + 1) 36 (.agg #[.int .i64 x.s, .int .i64 x.p]) (.agg #[.int .i64 y.s, .int .i64 y.p])).run _ w = _
  generalize 9996 = d
  go_simp
  (repeat' split) <;> simp_all, by kernel_rfl⟩
theorem te53 : TyEq Tryd.prog 53 Nt := ⟨fun w x y => by
  rw [beqNt]
  show (Op.equalIn (9996 + 1 + 1 + 1 + 1) 53 (.agg #[.int .i64 x.k.s, .int .i64 x.k.p, .int .i64 x.fr]) (.agg #[.int .i64 y.k.s, .int .i64 y.k.p, .int .i64 y.fr])).run _ w = _
  generalize 9996 = d
  go_simp
  (repeat' split) <;> simp_all, by kernel_rfl⟩
theorem te61 : TyEq Tryd.prog 61 F := ⟨fun w x y => by
  rw [beqF]
  show (Op.equalIn (9996 + 1 + 1 + 1 + 1) 61 (.agg #[.bool x.u, .int .i64 x.k.s, .int .i64 x.k.p, .int .i64 x.r, .int .i64 x.nx]) (.agg #[.bool y.u, .int .i64 y.k.s, .int .i64 y.k.p, .int .i64 y.r, .int .i64 y.nx])).run _ w = _
  generalize 9996 = d
  go_simp
  (repeat' split) <;> simp_all, by kernel_rfl⟩
theorem ts3 : TyS Tryd.prog 3 1 false := ⟨⟨_, Tryd.underlying3, rfl⟩, by kernel_rfl⟩
theorem ts4 : TyS Tryd.prog 4 1 false := ⟨⟨_, Tryd.underlying4, rfl⟩, by kernel_rfl⟩
theorem ts5 : TyS Tryd.prog 5 1 false := ⟨⟨_, Tryd.underlying5, rfl⟩, by kernel_rfl⟩
theorem ts22 : TyS Tryd.prog 22 1 false := ⟨⟨_, Tryd.underlying22, rfl⟩, by kernel_rfl⟩
theorem ts23 : TyS Tryd.prog 23 1 false := ⟨⟨_, Tryd.underlying23, rfl⟩, by kernel_rfl⟩
theorem ts24 : TyS Tryd.prog 24 1 false := ⟨⟨_, Tryd.underlying24, rfl⟩, by kernel_rfl⟩
theorem ts26 : TyS Tryd.prog 26 2 true := ⟨⟨_, Tryd.underlying26, rfl⟩, by kernel_rfl⟩
theorem ts27 : TyS Tryd.prog 27 1 false := ⟨⟨_, Tryd.underlying27, rfl⟩, by kernel_rfl⟩
theorem ts29 : TyS Tryd.prog 29 3 true := ⟨⟨_, Tryd.underlying29, rfl⟩, by kernel_rfl⟩
theorem ts36 : TyS Tryd.prog 36 2 true := ⟨⟨_, Tryd.underlying36, rfl⟩, by kernel_rfl⟩
theorem ts41 : TyS Tryd.prog 41 1 false := ⟨⟨_, Tryd.underlying41, rfl⟩, by kernel_rfl⟩
theorem ts43 : TyS Tryd.prog 43 2 true := ⟨⟨_, Tryd.underlying43, rfl⟩, by kernel_rfl⟩
theorem ts53 : TyS Tryd.prog 53 3 true := ⟨⟨_, Tryd.underlying53, rfl⟩, by kernel_rfl⟩
theorem ts61 : TyS Tryd.prog 61 5 true := ⟨⟨_, Tryd.underlying61, rfl⟩, by kernel_rfl⟩
theorem tz26 : TyZ Tryd.prog 26 (.agg #[.slice none 0 0, .slice none 0 0]) := ⟨by kernel_rfl⟩
theorem tz29 : TyZ Tryd.prog 29 (.agg #[.slice none 0 0, .slice none 0 0, .slice none 0 0]) := ⟨by kernel_rfl⟩
theorem tz36 : TyZ Tryd.prog 36 (.agg #[.int .i64 0, .int .i64 0]) := ⟨by kernel_rfl⟩
theorem tz43 : TyZ Tryd.prog 43 (.agg #[.slice none 0 0, .slice none 0 0]) := ⟨by kernel_rfl⟩
theorem tz53 : TyZ Tryd.prog 53 (.agg #[.int .i64 0, .int .i64 0, .int .i64 0]) := ⟨by kernel_rfl⟩
set_option maxRecDepth 100000 in
theorem bt26_0  : Tryd.prog.built 26 [] = some #[.slice none 0 0, .slice none 0 0] := by kernel_rfl
set_option maxRecDepth 100000 in
theorem bt61_1 {a0 : Int} : Tryd.prog.built 61 [(3, .int .i64 a0)] = some #[.bool false, .int .i64 0, .int .i64 0, .int .i64 0, .int .i64 a0] := by kernel_rfl
set_option maxRecDepth 100000 in
theorem bt29_2  : Tryd.prog.built 29 [] = some #[.slice none 0 0, .slice none 0 0, .slice none 0 0] := by kernel_rfl
set_option maxRecDepth 100000 in
theorem bt29_3 {p0 : Option Addr} {n0 c0 : Nat} {p1 : Option Addr} {n1 c1 : Nat} {p2 : Option Addr} {n2 c2 : Nat} : Tryd.prog.built 29 [(0, .agg #[.slice p0 n0 c0, .slice p1 n1 c1]), (1, .slice p2 n2 c2)] = some #[.slice p0 n0 c0, .slice p1 n1 c1, .slice p2 n2 c2] := by kernel_rfl
set_option maxRecDepth 100000 in
theorem bt36_4 {a0 : Int} {a1 : Int} : Tryd.prog.built 36 [(0, .int .i64 a0), (1, .int .i64 a1)] = some #[.int .i64 a0, .int .i64 a1] := by kernel_rfl
set_option maxRecDepth 100000 in
theorem bt26_5 {p0 : Option Addr} {n0 c0 : Nat} {p1 : Option Addr} {n1 c1 : Nat} : Tryd.prog.built 26 [(0, .slice p0 n0 c0), (1, .slice p1 n1 c1)] = some #[.slice p0 n0 c0, .slice p1 n1 c1] := by kernel_rfl
set_option maxRecDepth 100000 in
theorem bt61_6 {a0 : Bool} {a1 : Int} {a2 : Int} {a3 : Int} {a4 : Int} : Tryd.prog.built 61 [(0, .bool a0), (1, .agg #[.int .i64 a1, .int .i64 a2]), (2, .int .i64 a3), (3, .int .i64 a4)] = some #[.bool a0, .int .i64 a1, .int .i64 a2, .int .i64 a3, .int .i64 a4] := by kernel_rfl
set_option maxRecDepth 100000 in
theorem bt29_7 {p0 : Option Addr} {n0 c0 : Nat} {p1 : Option Addr} {n1 c1 : Nat} : Tryd.prog.built 29 [(0, .agg #[.slice p0 n0 c0, .slice p1 n1 c1])] = some #[.slice p0 n0 c0, .slice p1 n1 c1, .slice none 0 0] := by kernel_rfl
set_option maxRecDepth 100000 in
theorem bt43_8 {p0 : Option Addr} {n0 c0 : Nat} {p1 : Option Addr} {n1 c1 : Nat} : Tryd.prog.built 43 [(0, .slice p0 n0 c0), (1, .slice p1 n1 c1)] = some #[.slice p0 n0 c0, .slice p1 n1 c1] := by kernel_rfl
set_option maxRecDepth 100000 in
theorem bt53_9 {a0 : Int} {a1 : Int} {a2 : Int} : Tryd.prog.built 53 [(0, .agg #[.int .i64 a0, .int .i64 a1]), (1, .int .i64 a2)] = some #[.int .i64 a0, .int .i64 a1, .int .i64 a2] := by kernel_rfl
set_option maxRecDepth 100000 in
theorem bt43_10  : Tryd.prog.built 43 [] = some #[.slice none 0 0, .slice none 0 0] := by kernel_rfl
set_option maxRecDepth 100000 in
theorem bt72_11 {p0 : Option Addr} {n0 c0 : Nat} : Tryd.prog.built 72 [(0, .slice p0 n0 c0)] = some #[.slice p0 n0 c0, .int .i64 0] := by kernel_rfl
end Go.Proofs.YtciliaiocakdkaaDoor
