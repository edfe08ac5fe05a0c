/- Facts on the program's table of types and of functions, each a look into it. Printed by a program (gen.py). -/
import Derived.Test.YtciliaiocakdkaaGreatDoorDp
import Derived.Test.YtciliaiocakdkaaGreatDoorE6
import Derived.Test.YtciliaiocakdkaaGreatDoorDat
import Derived.Test.YtciliaiocakdkaaGreatDoorProg
import Derived.KernelRfl
set_option linter.unusedSimpArgs false
set_option linter.unusedVariables false
set_option linter.unusedSectionVars false
namespace Go.Proofs.YtciliaiocakdkaaGreatDoor
open Go.RowKit
theorem g_mixed : Tryz.prog.follows .mixedOrders = true := by kernel_rfl
theorem cf4 : CF Tryz.prog 4 := ⟨⟨_, Tryz.func4, rfl, by kernel_rfl⟩⟩
theorem cf5 : CF Tryz.prog 5 := ⟨⟨_, Tryz.func5, rfl, by kernel_rfl⟩⟩
theorem cf6 : CF Tryz.prog 6 := ⟨⟨_, Tryz.func6, rfl, by kernel_rfl⟩⟩
theorem cf7 : CF Tryz.prog 7 := ⟨⟨_, Tryz.func7, rfl, by kernel_rfl⟩⟩
theorem cf8 : CF Tryz.prog 8 := ⟨⟨_, Tryz.func8, rfl, by kernel_rfl⟩⟩
theorem cf9 : CF Tryz.prog 9 := ⟨⟨_, Tryz.func9, rfl, by kernel_rfl⟩⟩
theorem cf10 : CF Tryz.prog 10 := ⟨⟨_, Tryz.func10, rfl, by kernel_rfl⟩⟩
theorem cf11 : CF Tryz.prog 11 := ⟨⟨_, Tryz.func11, rfl, by kernel_rfl⟩⟩
theorem cf12 : CF Tryz.prog 12 := ⟨⟨_, Tryz.func12, rfl, by kernel_rfl⟩⟩
theorem cf13 : CF Tryz.prog 13 := ⟨⟨_, Tryz.func13, rfl, by kernel_rfl⟩⟩
theorem cf14 : CF Tryz.prog 14 := ⟨⟨_, Tryz.func14, rfl, by kernel_rfl⟩⟩
theorem cf15 : CF Tryz.prog 15 := ⟨⟨_, Tryz.func15, rfl, by kernel_rfl⟩⟩
theorem cf16 : CF Tryz.prog 16 := ⟨⟨_, Tryz.func16, rfl, by kernel_rfl⟩⟩
theorem cf17 : CF Tryz.prog 17 := ⟨⟨_, Tryz.func17, rfl, by kernel_rfl⟩⟩
theorem cf18 : CF Tryz.prog 18 := ⟨⟨_, Tryz.func18, rfl, by kernel_rfl⟩⟩
theorem cf19 : CF Tryz.prog 19 := ⟨⟨_, Tryz.func19, rfl, by kernel_rfl⟩⟩
theorem cf20 : CF Tryz.prog 20 := ⟨⟨_, Tryz.func20, rfl, by kernel_rfl⟩⟩
theorem cf21 : CF Tryz.prog 21 := ⟨⟨_, Tryz.func21, rfl, by kernel_rfl⟩⟩
theorem cf22 : CF Tryz.prog 22 := ⟨⟨_, Tryz.func22, rfl, by kernel_rfl⟩⟩
theorem cf23 : CF Tryz.prog 23 := ⟨⟨_, Tryz.func23, rfl, by kernel_rfl⟩⟩
theorem cf24 : CF Tryz.prog 24 := ⟨⟨_, Tryz.func24, rfl, by kernel_rfl⟩⟩
theorem cf25 : CF Tryz.prog 25 := ⟨⟨_, Tryz.func25, rfl, by kernel_rfl⟩⟩
theorem cf26 : CF Tryz.prog 26 := ⟨⟨_, Tryz.func26, rfl, by kernel_rfl⟩⟩
theorem cf27 : CF Tryz.prog 27 := ⟨⟨_, Tryz.func27, rfl, by kernel_rfl⟩⟩
theorem cf28 : CF Tryz.prog 28 := ⟨⟨_, Tryz.func28, rfl, by kernel_rfl⟩⟩
theorem cf29 : CF Tryz.prog 29 := ⟨⟨_, Tryz.func29, rfl, by kernel_rfl⟩⟩
theorem cf30 : CF Tryz.prog 30 := ⟨⟨_, Tryz.func30, rfl, by kernel_rfl⟩⟩
theorem cf31 : CF Tryz.prog 31 := ⟨⟨_, Tryz.func31, rfl, by kernel_rfl⟩⟩
theorem cf32 : CF Tryz.prog 32 := ⟨⟨_, Tryz.func32, rfl, by kernel_rfl⟩⟩
theorem cf33 : CF Tryz.prog 33 := ⟨⟨_, Tryz.func33, rfl, by kernel_rfl⟩⟩
theorem cf34 : CF Tryz.prog 34 := ⟨⟨_, Tryz.func34, rfl, by kernel_rfl⟩⟩
theorem cf35 : CF Tryz.prog 35 := ⟨⟨_, Tryz.func35, rfl, by kernel_rfl⟩⟩
theorem cf36 : CF Tryz.prog 36 := ⟨⟨_, Tryz.func36, rfl, by kernel_rfl⟩⟩
theorem cf37 : CF Tryz.prog 37 := ⟨⟨_, Tryz.func37, rfl, by kernel_rfl⟩⟩
theorem cf38 : CF Tryz.prog 38 := ⟨⟨_, Tryz.func38, rfl, by kernel_rfl⟩⟩
theorem cf39 : CF Tryz.prog 39 := ⟨⟨_, Tryz.func39, rfl, by kernel_rfl⟩⟩
theorem cf40 : CF Tryz.prog 40 := ⟨⟨_, Tryz.func40, rfl, by kernel_rfl⟩⟩
theorem cf41 : CF Tryz.prog 41 := ⟨⟨_, Tryz.func41, rfl, by kernel_rfl⟩⟩
theorem cf42 : CF Tryz.prog 42 := ⟨⟨_, Tryz.func42, rfl, by kernel_rfl⟩⟩
theorem cf43 : CF Tryz.prog 43 := ⟨⟨_, Tryz.func43, rfl, by kernel_rfl⟩⟩
theorem cf44 : CF Tryz.prog 44 := ⟨⟨_, Tryz.func44, rfl, by kernel_rfl⟩⟩
theorem cf47 : CF Tryz.prog 47 := ⟨⟨_, Tryz.func47, rfl, by kernel_rfl⟩⟩
theorem cf48 : CF Tryz.prog 48 := ⟨⟨_, Tryz.func48, rfl, by kernel_rfl⟩⟩
theorem cf49 : CF Tryz.prog 49 := ⟨⟨_, Tryz.func49, rfl, by kernel_rfl⟩⟩
theorem cf50 : CF Tryz.prog 50 := ⟨⟨_, Tryz.func50, rfl, by kernel_rfl⟩⟩
theorem cf51 : CF Tryz.prog 51 := ⟨⟨_, Tryz.func51, rfl, by kernel_rfl⟩⟩
theorem cf52 : CF Tryz.prog 52 := ⟨⟨_, Tryz.func52, rfl, by kernel_rfl⟩⟩
theorem cf53 : CF Tryz.prog 53 := ⟨⟨_, Tryz.func53, rfl, by kernel_rfl⟩⟩
theorem cf54 : CF Tryz.prog 54 := ⟨⟨_, Tryz.func54, rfl, by kernel_rfl⟩⟩
theorem cf55 : CF Tryz.prog 55 := ⟨⟨_, Tryz.func55, rfl, by kernel_rfl⟩⟩
theorem cf56 : CF Tryz.prog 56 := ⟨⟨_, Tryz.func56, rfl, by kernel_rfl⟩⟩
theorem cf57 : CF Tryz.prog 57 := ⟨⟨_, Tryz.func57, rfl, by kernel_rfl⟩⟩
theorem cf58 : CF Tryz.prog 58 := ⟨⟨_, Tryz.func58, rfl, by kernel_rfl⟩⟩
theorem cf60 : CF Tryz.prog 60 := ⟨⟨_, Tryz.func60, rfl, by kernel_rfl⟩⟩
theorem cf63 : CF Tryz.prog 63 := ⟨⟨_, Tryz.func63, rfl, by kernel_rfl⟩⟩
theorem cf64 : CF Tryz.prog 64 := ⟨⟨_, Tryz.func64, rfl, by kernel_rfl⟩⟩
theorem cf65 : CF Tryz.prog 65 := ⟨⟨_, Tryz.func65, rfl, by kernel_rfl⟩⟩
theorem cf66 : CF Tryz.prog 66 := ⟨⟨_, Tryz.func66, rfl, by kernel_rfl⟩⟩
theorem cf78 : CF Tryz.prog 78 := ⟨⟨_, Tryz.func78, rfl, by kernel_rfl⟩⟩
theorem cf79 : CF Tryz.prog 79 := ⟨⟨_, Tryz.func79, rfl, by kernel_rfl⟩⟩
theorem cf80 : CF Tryz.prog 80 := ⟨⟨_, Tryz.func80, rfl, by kernel_rfl⟩⟩
theorem cf81 : CF Tryz.prog 81 := ⟨⟨_, Tryz.func81, rfl, by kernel_rfl⟩⟩
theorem cf82 : CF Tryz.prog 82 := ⟨⟨_, Tryz.func82, rfl, by kernel_rfl⟩⟩
theorem cf84 : CF Tryz.prog 84 := ⟨⟨_, Tryz.func84, rfl, by kernel_rfl⟩⟩
theorem cf85 : CF Tryz.prog 85 := ⟨⟨_, Tryz.func85, rfl, by kernel_rfl⟩⟩
theorem cf86 : CF Tryz.prog 86 := ⟨⟨_, Tryz.func86, rfl, by kernel_rfl⟩⟩
theorem cf87 : CF Tryz.prog 87 := ⟨⟨_, Tryz.func87, rfl, by kernel_rfl⟩⟩
theorem cf94 : CF Tryz.prog 94 := ⟨⟨_, Tryz.func94, rfl, by kernel_rfl⟩⟩
theorem cf95 : CF Tryz.prog 95 := ⟨⟨_, Tryz.func95, rfl, by kernel_rfl⟩⟩
theorem cf96 : CF Tryz.prog 96 := ⟨⟨_, Tryz.func96, rfl, by kernel_rfl⟩⟩
theorem cf97 : CF Tryz.prog 97 := ⟨⟨_, Tryz.func97, rfl, by kernel_rfl⟩⟩
theorem cf98 : CF Tryz.prog 98 := ⟨⟨_, Tryz.func98, rfl, by kernel_rfl⟩⟩
theorem cf99 : CF Tryz.prog 99 := ⟨⟨_, Tryz.func99, rfl, by kernel_rfl⟩⟩
theorem cf100 : CF Tryz.prog 100 := ⟨⟨_, Tryz.func100, rfl, by kernel_rfl⟩⟩
theorem cf102 : CF Tryz.prog 102 := ⟨⟨_, Tryz.func102, rfl, by kernel_rfl⟩⟩
theorem cf103 : CF Tryz.prog 103 := ⟨⟨_, Tryz.func103, rfl, by kernel_rfl⟩⟩
theorem cf104 : CF Tryz.prog 104 := ⟨⟨_, Tryz.func104, rfl, by kernel_rfl⟩⟩
theorem sl23 : SlT Tryz.prog Int 23 3 8 (0 : Int) := SlT.mk' (zv := .int .i64 0) Tryz.underlying23 (by kernel_rfl) rfl (by decide)
theorem sl24 : SlT Tryz.prog F 24 76 40 (⟨false, (⟨0, 0⟩ : K), 0, 0⟩ : F) := SlT.mk' (zv := .agg #[.bool false, .int .i64 0, .int .i64 0, .int .i64 0, .int .i64 0]) Tryz.underlying24 (by kernel_rfl) rfl (by decide)
theorem sl27 : SlT Tryz.prog CpS 27 37 48 cpz := SlT.mk' (zv := .agg #[.slice none 0 0, .slice none 0 0]) Tryz.underlying27 (by kernel_rfl) rfl (by decide)
theorem sl35 : SlT Tryz.prog Nt 35 52 24 (⟨(⟨0, 0⟩ : K), 0⟩ : Nt) := SlT.mk' (zv := .agg #[.int .i64 0, .int .i64 0, .int .i64 0]) Tryz.underlying35 (by kernel_rfl) rfl (by decide)
theorem sl62 : SlT Tryz.prog K 62 41 16 (⟨0, 0⟩ : K) := SlT.mk' (zv := .agg #[.int .i64 0, .int .i64 0]) Tryz.underlying62 (by kernel_rfl) rfl (by decide)
theorem te41 : TyEq Tryz.prog 41 K := ⟨fun w x y => by
  rw [beqK]
  show (Op.equalIn (9996 + 1 + 1 + 1 + 1) 41 (.agg #[.int .i64 x.s, .int .i64 x.p]) (.agg #[.int .i64 y.s, .int .i64 y.p])).run _ w = _
  generalize 9996 = d
  go_simp
  (repeat' split) <;> simp_all, by kernel_rfl⟩
theorem te52 : TyEq Tryz.prog 52 Nt := ⟨fun w x y => by
  rw [beqNt]
  show (Op.equalIn (9996 + 1 + 1 + 1 + 1) 52 (.agg #[.int .i64 x.k.s, .int .i64 x.k.p, .int .i64 x.fr]) (.agg #[.int .i64 y.k.s, .int .i64 y.k.p, .int .i64 y.fr])).run _ w = _
  generalize 9996 = d
  go_simp
  (repeat' split) <;> simp_all, by kernel_rfl⟩
theorem te76 : TyEq Tryz.prog 76 F := ⟨fun w x y => by
  rw [beqF]
  show (Op.equalIn (9996 + 1 + 1 + 1 + 1) 76 (.agg #[.bool x.u, .int .i64 x.k.s, .int .i64 x.k.p, .int .i64 x.r, .int .i64 x.nx]) (.agg #[.bool y.u, .int .i64 y.k.s, .int .i64 y.k.p, .int .i64 y.r, .int .i64 y.nx])).run _ w = _
  generalize 9996 = d
  go_simp
  (repeat' split) <;> simp_all, by kernel_rfl⟩
theorem ts3 : TyS Tryz.prog 3 1 false := ⟨⟨_, Tryz.underlying3, rfl⟩, by kernel_rfl⟩
theorem ts4 : TyS Tryz.prog 4 1 false := ⟨⟨_, Tryz.underlying4, rfl⟩, by kernel_rfl⟩
theorem ts5 : TyS Tryz.prog 5 1 false := ⟨⟨_, Tryz.underlying5, rfl⟩, by kernel_rfl⟩
theorem ts22 : TyS Tryz.prog 22 1 false := ⟨⟨_, Tryz.underlying22, rfl⟩, by kernel_rfl⟩
theorem ts23 : TyS Tryz.prog 23 1 false := ⟨⟨_, Tryz.underlying23, rfl⟩, by kernel_rfl⟩
theorem ts24 : TyS Tryz.prog 24 1 false := ⟨⟨_, Tryz.underlying24, rfl⟩, by kernel_rfl⟩
theorem ts26 : TyS Tryz.prog 26 2 true := ⟨⟨_, Tryz.underlying26, rfl⟩, by kernel_rfl⟩
theorem ts27 : TyS Tryz.prog 27 1 false := ⟨⟨_, Tryz.underlying27, rfl⟩, by kernel_rfl⟩
theorem ts29 : TyS Tryz.prog 29 3 true := ⟨⟨_, Tryz.underlying29, rfl⟩, by kernel_rfl⟩
theorem ts35 : TyS Tryz.prog 35 1 false := ⟨⟨_, Tryz.underlying35, rfl⟩, by kernel_rfl⟩
theorem ts37 : TyS Tryz.prog 37 2 true := ⟨⟨_, Tryz.underlying37, rfl⟩, by kernel_rfl⟩
theorem ts41 : TyS Tryz.prog 41 2 true := ⟨⟨_, Tryz.underlying41, rfl⟩, by kernel_rfl⟩
theorem ts52 : TyS Tryz.prog 52 3 true := ⟨⟨_, Tryz.underlying52, rfl⟩, by kernel_rfl⟩
theorem ts76 : TyS Tryz.prog 76 5 true := ⟨⟨_, Tryz.underlying76, rfl⟩, by kernel_rfl⟩
theorem tz26 : TyZ Tryz.prog 26 (.agg #[.slice none 0 0, .slice none 0 0]) := ⟨by kernel_rfl⟩
theorem tz29 : TyZ Tryz.prog 29 (.agg #[.slice none 0 0, .slice none 0 0, .slice none 0 0]) := ⟨by kernel_rfl⟩
theorem tz37 : TyZ Tryz.prog 37 (.agg #[.slice none 0 0, .slice none 0 0]) := ⟨by kernel_rfl⟩
theorem tz41 : TyZ Tryz.prog 41 (.agg #[.int .i64 0, .int .i64 0]) := ⟨by kernel_rfl⟩
theorem tz52 : TyZ Tryz.prog 52 (.agg #[.int .i64 0, .int .i64 0, .int .i64 0]) := ⟨by kernel_rfl⟩
set_option maxRecDepth 100000 in
theorem bt26_0  : Tryz.prog.built 26 [] = some #[.slice none 0 0, .slice none 0 0] := by kernel_rfl
set_option maxRecDepth 100000 in
theorem bt76_1 {a0 : Int} : Tryz.prog.built 76 [(3, .int .i64 a0)] = some #[.bool false, .int .i64 0, .int .i64 0, .int .i64 0, .int .i64 a0] := by kernel_rfl
set_option maxRecDepth 100000 in
theorem bt29_2  : Tryz.prog.built 29 [] = some #[.slice none 0 0, .slice none 0 0, .slice none 0 0] := by kernel_rfl
set_option maxRecDepth 100000 in
theorem bt29_3 {p0 : Option Addr} {n0 c0 : Nat} {p1 : Option Addr} {n1 c1 : Nat} {p2 : Option Addr} {n2 c2 : Nat} : Tryz.prog.built 29 [(0, .agg #[.slice p0 n0 c0, .slice p1 n1 c1]), (1, .slice p2 n2 c2)] = some #[.slice p0 n0 c0, .slice p1 n1 c1, .slice p2 n2 c2] := by kernel_rfl
set_option maxRecDepth 100000 in
theorem bt41_4 {a0 : Int} {a1 : Int} : Tryz.prog.built 41 [(0, .int .i64 a0), (1, .int .i64 a1)] = some #[.int .i64 a0, .int .i64 a1] := by kernel_rfl
set_option maxRecDepth 100000 in
theorem bt26_5 {p0 : Option Addr} {n0 c0 : Nat} {p1 : Option Addr} {n1 c1 : Nat} : Tryz.prog.built 26 [(0, .slice p0 n0 c0), (1, .slice p1 n1 c1)] = some #[.slice p0 n0 c0, .slice p1 n1 c1] := by kernel_rfl
set_option maxRecDepth 100000 in
theorem bt76_6 {a0 : Bool} {a1 : Int} {a2 : Int} {a3 : Int} {a4 : Int} : Tryz.prog.built 76 [(0, .bool a0), (1, .agg #[.int .i64 a1, .int .i64 a2]), (2, .int .i64 a3), (3, .int .i64 a4)] = some #[.bool a0, .int .i64 a1, .int .i64 a2, .int .i64 a3, .int .i64 a4] := by kernel_rfl
set_option maxRecDepth 100000 in
theorem bt29_7 {p0 : Option Addr} {n0 c0 : Nat} {p1 : Option Addr} {n1 c1 : Nat} : Tryz.prog.built 29 [(0, .agg #[.slice p0 n0 c0, .slice p1 n1 c1])] = some #[.slice p0 n0 c0, .slice p1 n1 c1, .slice none 0 0] := by kernel_rfl
set_option maxRecDepth 100000 in
theorem bt37_8 {p0 : Option Addr} {n0 c0 : Nat} {p1 : Option Addr} {n1 c1 : Nat} : Tryz.prog.built 37 [(0, .slice p0 n0 c0), (1, .slice p1 n1 c1)] = some #[.slice p0 n0 c0, .slice p1 n1 c1] := by kernel_rfl
set_option maxRecDepth 100000 in
theorem bt52_9 {a0 : Int} {a1 : Int} {a2 : Int} : Tryz.prog.built 52 [(0, .agg #[.int .i64 a0, .int .i64 a1]), (1, .int .i64 a2)] = some #[.int .i64 a0, .int .i64 a1, .int .i64 a2] := by kernel_rfl
set_option maxRecDepth 100000 in
theorem bt37_10  : Tryz.prog.built 37 [] = some #[.slice none 0 0, .slice none 0 0] := by kernel_rfl
set_option maxRecDepth 100000 in
theorem bt84_11 {p0 : Option Addr} {n0 c0 : Nat} : Tryz.prog.built 84 [(0, .slice p0 n0 c0)] = some #[.slice p0 n0 c0, .int .i64 0] := by kernel_rfl
end Go.Proofs.YtciliaiocakdkaaGreatDoor
