/- Facts on the program's table of types and of functions, each a look into it. Printed by a program (gen.py). -/
import Derived.Test.YtbgodaeccgjdgaaDoorE6
import Derived.Test.YtbgodaeccgjdgaaDoorDat
import Derived.Test.YtbgodaeccgjdgaaDoorProg
import Derived.KernelRfl
set_option linter.unusedSimpArgs false
set_option linter.unusedVariables false
set_option linter.unusedSectionVars false
namespace Go.Proofs.YtbgodaeccgjdgaaDoor
open Go.RowKit
theorem g_mixed : Tryd.prog.follows .mixedOrders = true := by kernel_rfl
theorem cf4 : CF Tryd.prog 4 := ⟨⟨_, Tryd.func4, rfl, by kernel_rfl⟩⟩
theorem cf5 : CF Tryd.prog 5 := ⟨⟨_, Tryd.func5, rfl, by kernel_rfl⟩⟩
theorem cf6 : CF Tryd.prog 6 := ⟨⟨_, Tryd.func6, rfl, by kernel_rfl⟩⟩
theorem cf7 : CF Tryd.prog 7 := ⟨⟨_, Tryd.func7, rfl, by kernel_rfl⟩⟩
theorem cf8 : CF Tryd.prog 8 := ⟨⟨_, Tryd.func8, rfl, by kernel_rfl⟩⟩
theorem cf9 : CF Tryd.prog 9 := ⟨⟨_, Tryd.func9, rfl, by kernel_rfl⟩⟩
theorem cf10 : CF Tryd.prog 10 := ⟨⟨_, Tryd.func10, rfl, by kernel_rfl⟩⟩
theorem cf11 : CF Tryd.prog 11 := ⟨⟨_, Tryd.func11, rfl, by kernel_rfl⟩⟩
theorem cf12 : CF Tryd.prog 12 := ⟨⟨_, Tryd.func12, rfl, by kernel_rfl⟩⟩
theorem cf13 : CF Tryd.prog 13 := ⟨⟨_, Tryd.func13, rfl, by kernel_rfl⟩⟩
theorem cf14 : CF Tryd.prog 14 := ⟨⟨_, Tryd.func14, rfl, by kernel_rfl⟩⟩
theorem cf15 : CF Tryd.prog 15 := ⟨⟨_, Tryd.func15, rfl, by kernel_rfl⟩⟩
theorem cf16 : CF Tryd.prog 16 := ⟨⟨_, Tryd.func16, rfl, by kernel_rfl⟩⟩
theorem cf17 : CF Tryd.prog 17 := ⟨⟨_, Tryd.func17, rfl, by kernel_rfl⟩⟩
theorem cf18 : CF Tryd.prog 18 := ⟨⟨_, Tryd.func18, rfl, by kernel_rfl⟩⟩
theorem cf19 : CF Tryd.prog 19 := ⟨⟨_, Tryd.func19, rfl, by kernel_rfl⟩⟩
theorem cf20 : CF Tryd.prog 20 := ⟨⟨_, Tryd.func20, rfl, by kernel_rfl⟩⟩
theorem cf21 : CF Tryd.prog 21 := ⟨⟨_, Tryd.func21, rfl, by kernel_rfl⟩⟩
theorem cf22 : CF Tryd.prog 22 := ⟨⟨_, Tryd.func22, rfl, by kernel_rfl⟩⟩
theorem cf23 : CF Tryd.prog 23 := ⟨⟨_, Tryd.func23, rfl, by kernel_rfl⟩⟩
theorem cf24 : CF Tryd.prog 24 := ⟨⟨_, Tryd.func24, rfl, by kernel_rfl⟩⟩
theorem cf25 : CF Tryd.prog 25 := ⟨⟨_, Tryd.func25, rfl, by kernel_rfl⟩⟩
theorem cf26 : CF Tryd.prog 26 := ⟨⟨_, Tryd.func26, rfl, by kernel_rfl⟩⟩
theorem cf27 : CF Tryd.prog 27 := ⟨⟨_, Tryd.func27, rfl, by kernel_rfl⟩⟩
theorem cf28 : CF Tryd.prog 28 := ⟨⟨_, Tryd.func28, rfl, by kernel_rfl⟩⟩
theorem cf29 : CF Tryd.prog 29 := ⟨⟨_, Tryd.func29, rfl, by kernel_rfl⟩⟩
theorem cf30 : CF Tryd.prog 30 := ⟨⟨_, Tryd.func30, rfl, by kernel_rfl⟩⟩
theorem cf31 : CF Tryd.prog 31 := ⟨⟨_, Tryd.func31, rfl, by kernel_rfl⟩⟩
theorem cf32 : CF Tryd.prog 32 := ⟨⟨_, Tryd.func32, rfl, by kernel_rfl⟩⟩
theorem cf33 : CF Tryd.prog 33 := ⟨⟨_, Tryd.func33, rfl, by kernel_rfl⟩⟩
theorem cf34 : CF Tryd.prog 34 := ⟨⟨_, Tryd.func34, rfl, by kernel_rfl⟩⟩
theorem cf35 : CF Tryd.prog 35 := ⟨⟨_, Tryd.func35, rfl, by kernel_rfl⟩⟩
theorem cf36 : CF Tryd.prog 36 := ⟨⟨_, Tryd.func36, rfl, by kernel_rfl⟩⟩
theorem cf37 : CF Tryd.prog 37 := ⟨⟨_, Tryd.func37, rfl, by kernel_rfl⟩⟩
theorem cf38 : CF Tryd.prog 38 := ⟨⟨_, Tryd.func38, rfl, by kernel_rfl⟩⟩
theorem cf39 : CF Tryd.prog 39 := ⟨⟨_, Tryd.func39, rfl, by kernel_rfl⟩⟩
theorem cf40 : CF Tryd.prog 40 := ⟨⟨_, Tryd.func40, rfl, by kernel_rfl⟩⟩
theorem cf41 : CF Tryd.prog 41 := ⟨⟨_, Tryd.func41, rfl, by kernel_rfl⟩⟩
theorem cf42 : CF Tryd.prog 42 := ⟨⟨_, Tryd.func42, rfl, by kernel_rfl⟩⟩
theorem cf43 : CF Tryd.prog 43 := ⟨⟨_, Tryd.func43, rfl, by kernel_rfl⟩⟩
theorem cf44 : CF Tryd.prog 44 := ⟨⟨_, Tryd.func44, rfl, by kernel_rfl⟩⟩
theorem cf45 : CF Tryd.prog 45 := ⟨⟨_, Tryd.func45, rfl, by kernel_rfl⟩⟩
theorem cf46 : CF Tryd.prog 46 := ⟨⟨_, Tryd.func46, rfl, by kernel_rfl⟩⟩
theorem cf47 : CF Tryd.prog 47 := ⟨⟨_, Tryd.func47, rfl, by kernel_rfl⟩⟩
theorem cf48 : CF Tryd.prog 48 := ⟨⟨_, Tryd.func48, rfl, by kernel_rfl⟩⟩
theorem cf49 : CF Tryd.prog 49 := ⟨⟨_, Tryd.func49, rfl, by kernel_rfl⟩⟩
theorem cf50 : CF Tryd.prog 50 := ⟨⟨_, Tryd.func50, rfl, by kernel_rfl⟩⟩
theorem cf51 : CF Tryd.prog 51 := ⟨⟨_, Tryd.func51, rfl, by kernel_rfl⟩⟩
theorem cf52 : CF Tryd.prog 52 := ⟨⟨_, Tryd.func52, rfl, by kernel_rfl⟩⟩
theorem cf53 : CF Tryd.prog 53 := ⟨⟨_, Tryd.func53, rfl, by kernel_rfl⟩⟩
theorem cf54 : CF Tryd.prog 54 := ⟨⟨_, Tryd.func54, rfl, by kernel_rfl⟩⟩
theorem cf55 : CF Tryd.prog 55 := ⟨⟨_, Tryd.func55, rfl, by kernel_rfl⟩⟩
theorem cf56 : CF Tryd.prog 56 := ⟨⟨_, Tryd.func56, rfl, by kernel_rfl⟩⟩
theorem cf57 : CF Tryd.prog 57 := ⟨⟨_, Tryd.func57, rfl, by kernel_rfl⟩⟩
theorem cf58 : CF Tryd.prog 58 := ⟨⟨_, Tryd.func58, rfl, by kernel_rfl⟩⟩
theorem cf59 : CF Tryd.prog 59 := ⟨⟨_, Tryd.func59, rfl, by kernel_rfl⟩⟩
theorem cf60 : CF Tryd.prog 60 := ⟨⟨_, Tryd.func60, rfl, by kernel_rfl⟩⟩
theorem cf61 : CF Tryd.prog 61 := ⟨⟨_, Tryd.func61, rfl, by kernel_rfl⟩⟩
theorem cf62 : CF Tryd.prog 62 := ⟨⟨_, Tryd.func62, rfl, by kernel_rfl⟩⟩
theorem cf65 : CF Tryd.prog 65 := ⟨⟨_, Tryd.func65, rfl, by kernel_rfl⟩⟩
theorem cf66 : CF Tryd.prog 66 := ⟨⟨_, Tryd.func66, rfl, by kernel_rfl⟩⟩
theorem cf67 : CF Tryd.prog 67 := ⟨⟨_, Tryd.func67, rfl, by kernel_rfl⟩⟩
theorem cf68 : CF Tryd.prog 68 := ⟨⟨_, Tryd.func68, rfl, by kernel_rfl⟩⟩
theorem cf69 : CF Tryd.prog 69 := ⟨⟨_, Tryd.func69, rfl, by kernel_rfl⟩⟩
theorem cf70 : CF Tryd.prog 70 := ⟨⟨_, Tryd.func70, rfl, by kernel_rfl⟩⟩
theorem cf71 : CF Tryd.prog 71 := ⟨⟨_, Tryd.func71, rfl, by kernel_rfl⟩⟩
theorem cf72 : CF Tryd.prog 72 := ⟨⟨_, Tryd.func72, rfl, by kernel_rfl⟩⟩
theorem cf73 : CF Tryd.prog 73 := ⟨⟨_, Tryd.func73, rfl, by kernel_rfl⟩⟩
theorem cf75 : CF Tryd.prog 75 := ⟨⟨_, Tryd.func75, rfl, by kernel_rfl⟩⟩
theorem sl25 : SlT Tryd.prog Int 25 3 8 (0 : Int) := SlT.mk' (zv := .int .i64 0) Tryd.underlying25 (by kernel_rfl) rfl (by decide)
theorem sl26 : SlT Tryd.prog F 26 71 40 (⟨false, (⟨0, 0⟩ : K), 0, 0⟩ : F) := SlT.mk' (zv := .agg #[.bool false, .int .i64 0, .int .i64 0, .int .i64 0, .int .i64 0]) Tryd.underlying26 (by kernel_rfl) rfl (by decide)
theorem sl29 : SlT Tryd.prog Ln 29 65 48 (⟨false, 0, 0, 0, 0, false⟩ : Ln) := SlT.mk' (zv := .agg #[.bool false, .int .i64 0, .int .i64 0, .int .i64 0, .int .i64 0, .bool false]) Tryd.underlying29 (by kernel_rfl) rfl (by decide)
theorem sl32 : SlT Tryd.prog Ow 32 85 16 (⟨0, 0⟩ : Ow) := SlT.mk' (zv := .agg #[.int .i64 0, .int .i64 0]) Tryd.underlying32 (by kernel_rfl) rfl (by decide)
theorem te65 : TyEq Tryd.prog 65 Ln := ⟨fun w x y => by
  rw [beqLn]
  show (Op.equalIn (9996 + 1 + 1 + 1 + 1) 65 (.agg #[.bool x.va, .int .i64 x.tg, .int .i64 x.pg, .int .i64 x.fr, .int .i64 x.ri, .bool x.wi]) (.agg #[.bool y.va, .int .i64 y.tg, .int .i64 y.pg, .int .i64 y.fr, .int .i64 y.ri, .bool y.wi])).run _ w = _
  generalize 9996 = d
  go_simp
  (repeat' split) <;> simp_all, by kernel_rfl⟩
theorem te68 : TyEq Tryd.prog 68 K := ⟨fun w x y => by
  rw [beqK]
  show (Op.equalIn (9996 + 1 + 1 + 1 + 1) 68 (.agg #[.int .i64 x.s, .int .i64 x.p]) (.agg #[.int .i64 y.s, .int .i64 y.p])).run _ w = _
  generalize 9996 = d
  go_simp
  (repeat' split) <;> simp_all, by kernel_rfl⟩
theorem te71 : TyEq Tryd.prog 71 F := ⟨fun w x y => by
  rw [beqF]
  show (Op.equalIn (9996 + 1 + 1 + 1 + 1) 71 (.agg #[.bool x.u, .int .i64 x.k.s, .int .i64 x.k.p, .int .i64 x.r, .int .i64 x.nx]) (.agg #[.bool y.u, .int .i64 y.k.s, .int .i64 y.k.p, .int .i64 y.r, .int .i64 y.nx])).run _ w = _
  generalize 9996 = d
  go_simp
  (repeat' split) <;> simp_all, by kernel_rfl⟩
theorem te85 : TyEq Tryd.prog 85 Ow := ⟨fun w x y => by
  rw [beqOw]
  show (Op.equalIn (9996 + 1 + 1 + 1 + 1) 85 (.agg #[.int .i64 x.sp, .int .i64 x.tg]) (.agg #[.int .i64 y.sp, .int .i64 y.tg])).run _ w = _
  generalize 9996 = d
  go_simp
  (repeat' split) <;> simp_all, by kernel_rfl⟩
theorem ts3 : TyS Tryd.prog 3 1 false := ⟨⟨_, Tryd.underlying3, rfl⟩, by kernel_rfl⟩
theorem ts4 : TyS Tryd.prog 4 1 false := ⟨⟨_, Tryd.underlying4, rfl⟩, by kernel_rfl⟩
theorem ts5 : TyS Tryd.prog 5 1 false := ⟨⟨_, Tryd.underlying5, rfl⟩, by kernel_rfl⟩
theorem ts22 : TyS Tryd.prog 22 1 false := ⟨⟨_, Tryd.underlying22, rfl⟩, by kernel_rfl⟩
theorem ts25 : TyS Tryd.prog 25 1 false := ⟨⟨_, Tryd.underlying25, rfl⟩, by kernel_rfl⟩
theorem ts26 : TyS Tryd.prog 26 1 false := ⟨⟨_, Tryd.underlying26, rfl⟩, by kernel_rfl⟩
theorem ts28 : TyS Tryd.prog 28 2 true := ⟨⟨_, Tryd.underlying28, rfl⟩, by kernel_rfl⟩
theorem ts29 : TyS Tryd.prog 29 1 false := ⟨⟨_, Tryd.underlying29, rfl⟩, by kernel_rfl⟩
theorem ts31 : TyS Tryd.prog 31 2 true := ⟨⟨_, Tryd.underlying31, rfl⟩, by kernel_rfl⟩
theorem ts32 : TyS Tryd.prog 32 1 false := ⟨⟨_, Tryd.underlying32, rfl⟩, by kernel_rfl⟩
theorem ts34 : TyS Tryd.prog 34 4 true := ⟨⟨_, Tryd.underlying34, rfl⟩, by kernel_rfl⟩
theorem ts36 : TyS Tryd.prog 36 9 true := ⟨⟨_, Tryd.underlying36, rfl⟩, by kernel_rfl⟩
theorem ts65 : TyS Tryd.prog 65 6 true := ⟨⟨_, Tryd.underlying65, rfl⟩, by kernel_rfl⟩
theorem ts68 : TyS Tryd.prog 68 2 true := ⟨⟨_, Tryd.underlying68, rfl⟩, by kernel_rfl⟩
theorem ts71 : TyS Tryd.prog 71 5 true := ⟨⟨_, Tryd.underlying71, rfl⟩, by kernel_rfl⟩
theorem ts85 : TyS Tryd.prog 85 2 true := ⟨⟨_, Tryd.underlying85, rfl⟩, by kernel_rfl⟩
theorem tz4 : TyZ Tryd.prog 4 (.bool false) := ⟨by kernel_rfl⟩
theorem tz28 : TyZ Tryd.prog 28 (.agg #[.slice none 0 0, .slice none 0 0]) := ⟨by kernel_rfl⟩
theorem tz31 : TyZ Tryd.prog 31 (.agg #[.slice none 0 0, .int .i64 0]) := ⟨by kernel_rfl⟩
theorem tz34 : TyZ Tryd.prog 34 (.agg #[.int .i64 0, .int .i64 0, .int .i64 0, .slice none 0 0]) := ⟨by kernel_rfl⟩
theorem tz36 : TyZ Tryd.prog 36 (.agg #[.slice none 0 0, .slice none 0 0, .slice none 0 0, .int .i64 0, .int .i64 0, .int .i64 0, .int .i64 0, .slice none 0 0, .int .i64 0]) := ⟨by kernel_rfl⟩
theorem tz65 : TyZ Tryd.prog 65 (.agg #[.bool false, .int .i64 0, .int .i64 0, .int .i64 0, .int .i64 0, .bool false]) := ⟨by kernel_rfl⟩
theorem tz68 : TyZ Tryd.prog 68 (.agg #[.int .i64 0, .int .i64 0]) := ⟨by kernel_rfl⟩
theorem tz71 : TyZ Tryd.prog 71 (.agg #[.bool false, .int .i64 0, .int .i64 0, .int .i64 0, .int .i64 0]) := ⟨by kernel_rfl⟩
theorem tz85 : TyZ Tryd.prog 85 (.agg #[.int .i64 0, .int .i64 0]) := ⟨by kernel_rfl⟩
set_option maxRecDepth 100000 in
theorem bt28_0  : Tryd.prog.built 28 [] = some #[.slice none 0 0, .slice none 0 0] := by kernel_rfl
set_option maxRecDepth 100000 in
theorem bt28_1 {p0 : Option Addr} {n0 c0 : Nat} {p1 : Option Addr} {n1 c1 : Nat} : Tryd.prog.built 28 [(0, .slice p0 n0 c0), (1, .slice p1 n1 c1)] = some #[.slice p0 n0 c0, .slice p1 n1 c1] := by kernel_rfl
set_option maxRecDepth 100000 in
theorem bt31_2  : Tryd.prog.built 31 [] = some #[.slice none 0 0, .int .i64 0] := by kernel_rfl
set_option maxRecDepth 100000 in
theorem bt31_3 {p0 : Option Addr} {n0 c0 : Nat} : Tryd.prog.built 31 [(0, .slice p0 n0 c0)] = some #[.slice p0 n0 c0, .int .i64 0] := by kernel_rfl
set_option maxRecDepth 100000 in
theorem bt34_4  : Tryd.prog.built 34 [] = some #[.int .i64 0, .int .i64 0, .int .i64 0, .slice none 0 0] := by kernel_rfl
set_option maxRecDepth 100000 in
theorem bt34_5 {a0 : Int} : Tryd.prog.built 34 [(0, .int .i64 a0)] = some #[.int .i64 a0, .int .i64 0, .int .i64 0, .slice none 0 0] := by kernel_rfl
set_option maxRecDepth 100000 in
theorem bt36_6  : Tryd.prog.built 36 [] = some #[.slice none 0 0, .slice none 0 0, .slice none 0 0, .int .i64 0, .int .i64 0, .int .i64 0, .int .i64 0, .slice none 0 0, .int .i64 0] := by kernel_rfl
set_option maxRecDepth 100000 in
theorem bt34_7 {a0 : Int} {a1 : Int} : Tryd.prog.built 34 [(0, .int .i64 a0), (2, .int .i64 a1)] = some #[.int .i64 a0, .int .i64 0, .int .i64 a1, .slice none 0 0] := by kernel_rfl
set_option maxRecDepth 100000 in
theorem bt85_8 {a0 : Int} {a1 : Int} : Tryd.prog.built 85 [(0, .int .i64 a0), (1, .int .i64 a1)] = some #[.int .i64 a0, .int .i64 a1] := by kernel_rfl
set_option maxRecDepth 100000 in
theorem bt36_9 {p0 : Option Addr} {n0 c0 : Nat} {p1 : Option Addr} {n1 c1 : Nat} {p2 : Option Addr} {n2 c2 : Nat} {a3 : Int} {a4 : Int} {a5 : Int} {a6 : Int} {p7 : Option Addr} {n7 c7 : Nat} {a8 : Int} : Tryd.prog.built 36 [(0, .agg #[.slice p0 n0 c0, .slice p1 n1 c1]), (1, .agg #[.slice p2 n2 c2, .int .i64 a3]), (2, .agg #[.int .i64 a4, .int .i64 a5, .int .i64 a6, .slice p7 n7 c7]), (3, .int .i64 a8)] = some #[.slice p0 n0 c0, .slice p1 n1 c1, .slice p2 n2 c2, .int .i64 a3, .int .i64 a4, .int .i64 a5, .int .i64 a6, .slice p7 n7 c7, .int .i64 a8] := by kernel_rfl
set_option maxRecDepth 100000 in
theorem bt71_10 {a0 : Int} : Tryd.prog.built 71 [(3, .int .i64 a0)] = some #[.bool false, .int .i64 0, .int .i64 0, .int .i64 0, .int .i64 a0] := by kernel_rfl
set_option maxRecDepth 100000 in
theorem bt34_11 {a0 : Int} {p1 : Option Addr} {n1 c1 : Nat} : Tryd.prog.built 34 [(0, .int .i64 a0), (3, .slice p1 n1 c1)] = some #[.int .i64 a0, .int .i64 0, .int .i64 0, .slice p1 n1 c1] := by kernel_rfl
set_option maxRecDepth 100000 in
theorem bt34_12 {a0 : Int} {a1 : Int} {a2 : Int} {p3 : Option Addr} {n3 c3 : Nat} : Tryd.prog.built 34 [(0, .int .i64 a0), (1, .int .i64 a1), (2, .int .i64 a2), (3, .slice p3 n3 c3)] = some #[.int .i64 a0, .int .i64 a1, .int .i64 a2, .slice p3 n3 c3] := by kernel_rfl
set_option maxRecDepth 100000 in
theorem bt34_13 {a0 : Int} {a1 : Int} {p2 : Option Addr} {n2 c2 : Nat} : Tryd.prog.built 34 [(0, .int .i64 a0), (2, .int .i64 a1), (3, .slice p2 n2 c2)] = some #[.int .i64 a0, .int .i64 0, .int .i64 a1, .slice p2 n2 c2] := by kernel_rfl
set_option maxRecDepth 100000 in
theorem bt36_14 {p0 : Option Addr} {n0 c0 : Nat} {p1 : Option Addr} {n1 c1 : Nat} {p2 : Option Addr} {n2 c2 : Nat} {a3 : Int} {a4 : Int} {a5 : Int} {a6 : Int} {p7 : Option Addr} {n7 c7 : Nat} : Tryd.prog.built 36 [(0, .agg #[.slice p0 n0 c0, .slice p1 n1 c1]), (1, .agg #[.slice p2 n2 c2, .int .i64 a3]), (2, .agg #[.int .i64 a4, .int .i64 a5, .int .i64 a6, .slice p7 n7 c7])] = some #[.slice p0 n0 c0, .slice p1 n1 c1, .slice p2 n2 c2, .int .i64 a3, .int .i64 a4, .int .i64 a5, .int .i64 a6, .slice p7 n7 c7, .int .i64 0] := by kernel_rfl
set_option maxRecDepth 100000 in
theorem bt65_15  : Tryd.prog.built 65 [] = some #[.bool false, .int .i64 0, .int .i64 0, .int .i64 0, .int .i64 0, .bool false] := by kernel_rfl
set_option maxRecDepth 100000 in
theorem bt68_16 {a0 : Int} {a1 : Int} : Tryd.prog.built 68 [(0, .int .i64 a0), (1, .int .i64 a1)] = some #[.int .i64 a0, .int .i64 a1] := by kernel_rfl
set_option maxRecDepth 100000 in
theorem bt65_17 {a0 : Bool} {a1 : Int} {a2 : Int} {a3 : Int} {a4 : Int} {a5 : Bool} : Tryd.prog.built 65 [(0, .bool a0), (1, .int .i64 a1), (2, .int .i64 a2), (3, .int .i64 a3), (4, .int .i64 a4), (5, .bool a5)] = some #[.bool a0, .int .i64 a1, .int .i64 a2, .int .i64 a3, .int .i64 a4, .bool a5] := by kernel_rfl
set_option maxRecDepth 100000 in
theorem bt31_18 {p0 : Option Addr} {n0 c0 : Nat} {a1 : Int} : Tryd.prog.built 31 [(0, .slice p0 n0 c0), (1, .int .i64 a1)] = some #[.slice p0 n0 c0, .int .i64 a1] := by kernel_rfl
set_option maxRecDepth 100000 in
theorem bt80_19 {p0 : Option Addr} {n0 c0 : Nat} : Tryd.prog.built 80 [(0, .slice p0 n0 c0)] = some #[.slice p0 n0 c0, .int .i64 0] := by kernel_rfl
end Go.Proofs.YtbgodaeccgjdgaaDoor
