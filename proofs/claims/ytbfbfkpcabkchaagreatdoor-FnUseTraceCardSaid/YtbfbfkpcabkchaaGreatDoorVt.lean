/- Facts on the program's table of types and of functions, each a look into it. Printed by a program (gen.py). -/
import Derived.Test.YtbfbfkpcabkchaaGreatDoorE6
import Derived.Test.YtbfbfkpcabkchaaGreatDoorDat
import Derived.Test.YtbfbfkpcabkchaaGreatDoorProg
import Derived.KernelRfl
set_option linter.unusedSimpArgs false
set_option linter.unusedVariables false
set_option linter.unusedSectionVars false
namespace Go.Proofs.YtbfbfkpcabkchaaGreatDoor
open Go.RowKit
theorem g_mixed : Tryz.prog.follows .mixedOrders = true := by kernel_rfl
theorem cf8 : CF Tryz.prog 8 := ⟨⟨_, Tryz.func8, rfl, by kernel_rfl⟩⟩
theorem cf9 : CF Tryz.prog 9 := ⟨⟨_, Tryz.func9, rfl, by kernel_rfl⟩⟩
theorem cf10 : CF Tryz.prog 10 := ⟨⟨_, Tryz.func10, rfl, by kernel_rfl⟩⟩
theorem cf11 : CF Tryz.prog 11 := ⟨⟨_, Tryz.func11, rfl, by kernel_rfl⟩⟩
theorem cf12 : CF Tryz.prog 12 := ⟨⟨_, Tryz.func12, rfl, by kernel_rfl⟩⟩
theorem cf13 : CF Tryz.prog 13 := ⟨⟨_, Tryz.func13, rfl, by kernel_rfl⟩⟩
theorem cf14 : CF Tryz.prog 14 := ⟨⟨_, Tryz.func14, rfl, by kernel_rfl⟩⟩
theorem cf15 : CF Tryz.prog 15 := ⟨⟨_, Tryz.func15, rfl, by kernel_rfl⟩⟩
theorem cf16 : CF Tryz.prog 16 := ⟨⟨_, Tryz.func16, rfl, by kernel_rfl⟩⟩
theorem cf17 : CF Tryz.prog 17 := ⟨⟨_, Tryz.func17, rfl, by kernel_rfl⟩⟩
theorem cf18 : CF Tryz.prog 18 := ⟨⟨_, Tryz.func18, rfl, by kernel_rfl⟩⟩
theorem cf19 : CF Tryz.prog 19 := ⟨⟨_, Tryz.func19, rfl, by kernel_rfl⟩⟩
theorem cf20 : CF Tryz.prog 20 := ⟨⟨_, Tryz.func20, rfl, by kernel_rfl⟩⟩
theorem cf21 : CF Tryz.prog 21 := ⟨⟨_, Tryz.func21, rfl, by kernel_rfl⟩⟩
theorem cf22 : CF Tryz.prog 22 := ⟨⟨_, Tryz.func22, rfl, by kernel_rfl⟩⟩
theorem cf23 : CF Tryz.prog 23 := ⟨⟨_, Tryz.func23, rfl, by kernel_rfl⟩⟩
theorem cf24 : CF Tryz.prog 24 := ⟨⟨_, Tryz.func24, rfl, by kernel_rfl⟩⟩
theorem cf25 : CF Tryz.prog 25 := ⟨⟨_, Tryz.func25, rfl, by kernel_rfl⟩⟩
theorem cf26 : CF Tryz.prog 26 := ⟨⟨_, Tryz.func26, rfl, by kernel_rfl⟩⟩
theorem cf27 : CF Tryz.prog 27 := ⟨⟨_, Tryz.func27, rfl, by kernel_rfl⟩⟩
theorem cf28 : CF Tryz.prog 28 := ⟨⟨_, Tryz.func28, rfl, by kernel_rfl⟩⟩
theorem cf29 : CF Tryz.prog 29 := ⟨⟨_, Tryz.func29, rfl, by kernel_rfl⟩⟩
theorem cf30 : CF Tryz.prog 30 := ⟨⟨_, Tryz.func30, rfl, by kernel_rfl⟩⟩
theorem cf31 : CF Tryz.prog 31 := ⟨⟨_, Tryz.func31, rfl, by kernel_rfl⟩⟩
theorem cf32 : CF Tryz.prog 32 := ⟨⟨_, Tryz.func32, rfl, by kernel_rfl⟩⟩
theorem cf33 : CF Tryz.prog 33 := ⟨⟨_, Tryz.func33, rfl, by kernel_rfl⟩⟩
theorem cf34 : CF Tryz.prog 34 := ⟨⟨_, Tryz.func34, rfl, by kernel_rfl⟩⟩
theorem cf35 : CF Tryz.prog 35 := ⟨⟨_, Tryz.func35, rfl, by kernel_rfl⟩⟩
theorem cf36 : CF Tryz.prog 36 := ⟨⟨_, Tryz.func36, rfl, by kernel_rfl⟩⟩
theorem cf37 : CF Tryz.prog 37 := ⟨⟨_, Tryz.func37, rfl, by kernel_rfl⟩⟩
theorem cf38 : CF Tryz.prog 38 := ⟨⟨_, Tryz.func38, rfl, by kernel_rfl⟩⟩
theorem cf39 : CF Tryz.prog 39 := ⟨⟨_, Tryz.func39, rfl, by kernel_rfl⟩⟩
theorem cf40 : CF Tryz.prog 40 := ⟨⟨_, Tryz.func40, rfl, by kernel_rfl⟩⟩
theorem cf41 : CF Tryz.prog 41 := ⟨⟨_, Tryz.func41, rfl, by kernel_rfl⟩⟩
theorem cf42 : CF Tryz.prog 42 := ⟨⟨_, Tryz.func42, rfl, by kernel_rfl⟩⟩
theorem cf43 : CF Tryz.prog 43 := ⟨⟨_, Tryz.func43, rfl, by kernel_rfl⟩⟩
theorem cf44 : CF Tryz.prog 44 := ⟨⟨_, Tryz.func44, rfl, by kernel_rfl⟩⟩
theorem cf45 : CF Tryz.prog 45 := ⟨⟨_, Tryz.func45, rfl, by kernel_rfl⟩⟩
theorem cf46 : CF Tryz.prog 46 := ⟨⟨_, Tryz.func46, rfl, by kernel_rfl⟩⟩
theorem cf47 : CF Tryz.prog 47 := ⟨⟨_, Tryz.func47, rfl, by kernel_rfl⟩⟩
theorem cf48 : CF Tryz.prog 48 := ⟨⟨_, Tryz.func48, rfl, by kernel_rfl⟩⟩
theorem cf49 : CF Tryz.prog 49 := ⟨⟨_, Tryz.func49, rfl, by kernel_rfl⟩⟩
theorem cf50 : CF Tryz.prog 50 := ⟨⟨_, Tryz.func50, rfl, by kernel_rfl⟩⟩
theorem cf51 : CF Tryz.prog 51 := ⟨⟨_, Tryz.func51, rfl, by kernel_rfl⟩⟩
theorem cf52 : CF Tryz.prog 52 := ⟨⟨_, Tryz.func52, rfl, by kernel_rfl⟩⟩
theorem cf53 : CF Tryz.prog 53 := ⟨⟨_, Tryz.func53, rfl, by kernel_rfl⟩⟩
theorem cf54 : CF Tryz.prog 54 := ⟨⟨_, Tryz.func54, rfl, by kernel_rfl⟩⟩
theorem cf55 : CF Tryz.prog 55 := ⟨⟨_, Tryz.func55, rfl, by kernel_rfl⟩⟩
theorem cf56 : CF Tryz.prog 56 := ⟨⟨_, Tryz.func56, rfl, by kernel_rfl⟩⟩
theorem cf57 : CF Tryz.prog 57 := ⟨⟨_, Tryz.func57, rfl, by kernel_rfl⟩⟩
theorem cf58 : CF Tryz.prog 58 := ⟨⟨_, Tryz.func58, rfl, by kernel_rfl⟩⟩
theorem cf59 : CF Tryz.prog 59 := ⟨⟨_, Tryz.func59, rfl, by kernel_rfl⟩⟩
theorem cf60 : CF Tryz.prog 60 := ⟨⟨_, Tryz.func60, rfl, by kernel_rfl⟩⟩
theorem cf61 : CF Tryz.prog 61 := ⟨⟨_, Tryz.func61, rfl, by kernel_rfl⟩⟩
theorem cf62 : CF Tryz.prog 62 := ⟨⟨_, Tryz.func62, rfl, by kernel_rfl⟩⟩
theorem cf64 : CF Tryz.prog 64 := ⟨⟨_, Tryz.func64, rfl, by kernel_rfl⟩⟩
theorem cf65 : CF Tryz.prog 65 := ⟨⟨_, Tryz.func65, rfl, by kernel_rfl⟩⟩
theorem cf66 : CF Tryz.prog 66 := ⟨⟨_, Tryz.func66, rfl, by kernel_rfl⟩⟩
theorem cf67 : CF Tryz.prog 67 := ⟨⟨_, Tryz.func67, rfl, by kernel_rfl⟩⟩
theorem cf68 : CF Tryz.prog 68 := ⟨⟨_, Tryz.func68, rfl, by kernel_rfl⟩⟩
theorem cf69 : CF Tryz.prog 69 := ⟨⟨_, Tryz.func69, rfl, by kernel_rfl⟩⟩
theorem cf70 : CF Tryz.prog 70 := ⟨⟨_, Tryz.func70, rfl, by kernel_rfl⟩⟩
theorem cf71 : CF Tryz.prog 71 := ⟨⟨_, Tryz.func71, rfl, by kernel_rfl⟩⟩
theorem cf72 : CF Tryz.prog 72 := ⟨⟨_, Tryz.func72, rfl, by kernel_rfl⟩⟩
theorem cf73 : CF Tryz.prog 73 := ⟨⟨_, Tryz.func73, rfl, by kernel_rfl⟩⟩
theorem cf74 : CF Tryz.prog 74 := ⟨⟨_, Tryz.func74, rfl, by kernel_rfl⟩⟩
theorem cf75 : CF Tryz.prog 75 := ⟨⟨_, Tryz.func75, rfl, by kernel_rfl⟩⟩
theorem cf76 : CF Tryz.prog 76 := ⟨⟨_, Tryz.func76, rfl, by kernel_rfl⟩⟩
theorem cf77 : CF Tryz.prog 77 := ⟨⟨_, Tryz.func77, rfl, by kernel_rfl⟩⟩
theorem cf78 : CF Tryz.prog 78 := ⟨⟨_, Tryz.func78, rfl, by kernel_rfl⟩⟩
theorem cf79 : CF Tryz.prog 79 := ⟨⟨_, Tryz.func79, rfl, by kernel_rfl⟩⟩
theorem cf80 : CF Tryz.prog 80 := ⟨⟨_, Tryz.func80, rfl, by kernel_rfl⟩⟩
theorem cf81 : CF Tryz.prog 81 := ⟨⟨_, Tryz.func81, rfl, by kernel_rfl⟩⟩
theorem cf82 : CF Tryz.prog 82 := ⟨⟨_, Tryz.func82, rfl, by kernel_rfl⟩⟩
theorem cf83 : CF Tryz.prog 83 := ⟨⟨_, Tryz.func83, rfl, by kernel_rfl⟩⟩
theorem cf84 : CF Tryz.prog 84 := ⟨⟨_, Tryz.func84, rfl, by kernel_rfl⟩⟩
theorem cf85 : CF Tryz.prog 85 := ⟨⟨_, Tryz.func85, rfl, by kernel_rfl⟩⟩
theorem cf86 : CF Tryz.prog 86 := ⟨⟨_, Tryz.func86, rfl, by kernel_rfl⟩⟩
theorem cf87 : CF Tryz.prog 87 := ⟨⟨_, Tryz.func87, rfl, by kernel_rfl⟩⟩
theorem cf88 : CF Tryz.prog 88 := ⟨⟨_, Tryz.func88, rfl, by kernel_rfl⟩⟩
theorem cf89 : CF Tryz.prog 89 := ⟨⟨_, Tryz.func89, rfl, by kernel_rfl⟩⟩
theorem cf90 : CF Tryz.prog 90 := ⟨⟨_, Tryz.func90, rfl, by kernel_rfl⟩⟩
theorem cf91 : CF Tryz.prog 91 := ⟨⟨_, Tryz.func91, rfl, by kernel_rfl⟩⟩
theorem cf92 : CF Tryz.prog 92 := ⟨⟨_, Tryz.func92, rfl, by kernel_rfl⟩⟩
theorem cf93 : CF Tryz.prog 93 := ⟨⟨_, Tryz.func93, rfl, by kernel_rfl⟩⟩
theorem cf94 : CF Tryz.prog 94 := ⟨⟨_, Tryz.func94, rfl, by kernel_rfl⟩⟩
theorem cf95 : CF Tryz.prog 95 := ⟨⟨_, Tryz.func95, rfl, by kernel_rfl⟩⟩
theorem cf96 : CF Tryz.prog 96 := ⟨⟨_, Tryz.func96, rfl, by kernel_rfl⟩⟩
theorem cf97 : CF Tryz.prog 97 := ⟨⟨_, Tryz.func97, rfl, by kernel_rfl⟩⟩
theorem cf98 : CF Tryz.prog 98 := ⟨⟨_, Tryz.func98, rfl, by kernel_rfl⟩⟩
theorem cf99 : CF Tryz.prog 99 := ⟨⟨_, Tryz.func99, rfl, by kernel_rfl⟩⟩
theorem cf100 : CF Tryz.prog 100 := ⟨⟨_, Tryz.func100, rfl, by kernel_rfl⟩⟩
theorem cf101 : CF Tryz.prog 101 := ⟨⟨_, Tryz.func101, rfl, by kernel_rfl⟩⟩
theorem cf102 : CF Tryz.prog 102 := ⟨⟨_, Tryz.func102, rfl, by kernel_rfl⟩⟩
theorem cf103 : CF Tryz.prog 103 := ⟨⟨_, Tryz.func103, rfl, by kernel_rfl⟩⟩
theorem cf104 : CF Tryz.prog 104 := ⟨⟨_, Tryz.func104, rfl, by kernel_rfl⟩⟩
theorem cf105 : CF Tryz.prog 105 := ⟨⟨_, Tryz.func105, rfl, by kernel_rfl⟩⟩
theorem cf106 : CF Tryz.prog 106 := ⟨⟨_, Tryz.func106, rfl, by kernel_rfl⟩⟩
theorem cf107 : CF Tryz.prog 107 := ⟨⟨_, Tryz.func107, rfl, by kernel_rfl⟩⟩
theorem cf108 : CF Tryz.prog 108 := ⟨⟨_, Tryz.func108, rfl, by kernel_rfl⟩⟩
theorem cf109 : CF Tryz.prog 109 := ⟨⟨_, Tryz.func109, rfl, by kernel_rfl⟩⟩
theorem cf110 : CF Tryz.prog 110 := ⟨⟨_, Tryz.func110, rfl, by kernel_rfl⟩⟩
theorem cf111 : CF Tryz.prog 111 := ⟨⟨_, Tryz.func111, rfl, by kernel_rfl⟩⟩
theorem cf112 : CF Tryz.prog 112 := ⟨⟨_, Tryz.func112, rfl, by kernel_rfl⟩⟩
theorem cf113 : CF Tryz.prog 113 := ⟨⟨_, Tryz.func113, rfl, by kernel_rfl⟩⟩
theorem cf114 : CF Tryz.prog 114 := ⟨⟨_, Tryz.func114, rfl, by kernel_rfl⟩⟩
theorem cf115 : CF Tryz.prog 115 := ⟨⟨_, Tryz.func115, rfl, by kernel_rfl⟩⟩
theorem cf116 : CF Tryz.prog 116 := ⟨⟨_, Tryz.func116, rfl, by kernel_rfl⟩⟩
theorem cf117 : CF Tryz.prog 117 := ⟨⟨_, Tryz.func117, rfl, by kernel_rfl⟩⟩
theorem cf118 : CF Tryz.prog 118 := ⟨⟨_, Tryz.func118, rfl, by kernel_rfl⟩⟩
theorem cf119 : CF Tryz.prog 119 := ⟨⟨_, Tryz.func119, rfl, by kernel_rfl⟩⟩
theorem cf120 : CF Tryz.prog 120 := ⟨⟨_, Tryz.func120, rfl, by kernel_rfl⟩⟩
theorem cf121 : CF Tryz.prog 121 := ⟨⟨_, Tryz.func121, rfl, by kernel_rfl⟩⟩
theorem cf122 : CF Tryz.prog 122 := ⟨⟨_, Tryz.func122, rfl, by kernel_rfl⟩⟩
theorem cf123 : CF Tryz.prog 123 := ⟨⟨_, Tryz.func123, rfl, by kernel_rfl⟩⟩
theorem cf124 : CF Tryz.prog 124 := ⟨⟨_, Tryz.func124, rfl, by kernel_rfl⟩⟩
theorem cf125 : CF Tryz.prog 125 := ⟨⟨_, Tryz.func125, rfl, by kernel_rfl⟩⟩
theorem cf126 : CF Tryz.prog 126 := ⟨⟨_, Tryz.func126, rfl, by kernel_rfl⟩⟩
theorem cf127 : CF Tryz.prog 127 := ⟨⟨_, Tryz.func127, rfl, by kernel_rfl⟩⟩
theorem cf128 : CF Tryz.prog 128 := ⟨⟨_, Tryz.func128, rfl, by kernel_rfl⟩⟩
theorem cf129 : CF Tryz.prog 129 := ⟨⟨_, Tryz.func129, rfl, by kernel_rfl⟩⟩
theorem cf130 : CF Tryz.prog 130 := ⟨⟨_, Tryz.func130, rfl, by kernel_rfl⟩⟩
theorem cf131 : CF Tryz.prog 131 := ⟨⟨_, Tryz.func131, rfl, by kernel_rfl⟩⟩
theorem cf133 : CF Tryz.prog 133 := ⟨⟨_, Tryz.func133, rfl, by kernel_rfl⟩⟩
theorem cf134 : CF Tryz.prog 134 := ⟨⟨_, Tryz.func134, rfl, by kernel_rfl⟩⟩
theorem cf135 : CF Tryz.prog 135 := ⟨⟨_, Tryz.func135, rfl, by kernel_rfl⟩⟩
theorem cf136 : CF Tryz.prog 136 := ⟨⟨_, Tryz.func136, rfl, by kernel_rfl⟩⟩
theorem cf137 : CF Tryz.prog 137 := ⟨⟨_, Tryz.func137, rfl, by kernel_rfl⟩⟩
theorem cf138 : CF Tryz.prog 138 := ⟨⟨_, Tryz.func138, rfl, by kernel_rfl⟩⟩
theorem cf139 : CF Tryz.prog 139 := ⟨⟨_, Tryz.func139, rfl, by kernel_rfl⟩⟩
theorem cf140 : CF Tryz.prog 140 := ⟨⟨_, Tryz.func140, rfl, by kernel_rfl⟩⟩
theorem cf141 : CF Tryz.prog 141 := ⟨⟨_, Tryz.func141, rfl, by kernel_rfl⟩⟩
theorem cf142 : CF Tryz.prog 142 := ⟨⟨_, Tryz.func142, rfl, by kernel_rfl⟩⟩
theorem cf143 : CF Tryz.prog 143 := ⟨⟨_, Tryz.func143, rfl, by kernel_rfl⟩⟩
theorem cf144 : CF Tryz.prog 144 := ⟨⟨_, Tryz.func144, rfl, by kernel_rfl⟩⟩
theorem cf145 : CF Tryz.prog 145 := ⟨⟨_, Tryz.func145, rfl, by kernel_rfl⟩⟩
theorem cf146 : CF Tryz.prog 146 := ⟨⟨_, Tryz.func146, rfl, by kernel_rfl⟩⟩
theorem cf147 : CF Tryz.prog 147 := ⟨⟨_, Tryz.func147, rfl, by kernel_rfl⟩⟩
theorem cf148 : CF Tryz.prog 148 := ⟨⟨_, Tryz.func148, rfl, by kernel_rfl⟩⟩
theorem cf149 : CF Tryz.prog 149 := ⟨⟨_, Tryz.func149, rfl, by kernel_rfl⟩⟩
theorem cf150 : CF Tryz.prog 150 := ⟨⟨_, Tryz.func150, rfl, by kernel_rfl⟩⟩
theorem cf151 : CF Tryz.prog 151 := ⟨⟨_, Tryz.func151, rfl, by kernel_rfl⟩⟩
theorem cf152 : CF Tryz.prog 152 := ⟨⟨_, Tryz.func152, rfl, by kernel_rfl⟩⟩
theorem cf153 : CF Tryz.prog 153 := ⟨⟨_, Tryz.func153, rfl, by kernel_rfl⟩⟩
theorem cf154 : CF Tryz.prog 154 := ⟨⟨_, Tryz.func154, rfl, by kernel_rfl⟩⟩
theorem sl23 : SlT Tryz.prog Int 23 3 8 (0 : Int) := SlT.mk' (zv := .int .i64 0) Tryz.underlying23 (by kernel_rfl) rfl (by decide)
theorem sl24 : SlT Tryz.prog F 24 57 40 (⟨false, (⟨0, 0⟩ : K), 0, 0⟩ : F) := SlT.mk' (zv := .agg #[.bool false, .int .i64 0, .int .i64 0, .int .i64 0, .int .i64 0]) Tryz.underlying24 (by kernel_rfl) rfl (by decide)
theorem sl27 : SlT Tryz.prog Ln 27 104 48 (⟨false, 0, 0, 0, 0, false⟩ : Ln) := SlT.mk' (zv := .agg #[.bool false, .int .i64 0, .int .i64 0, .int .i64 0, .int .i64 0, .bool false]) Tryz.underlying27 (by kernel_rfl) rfl (by decide)
theorem sl30 : SlT Tryz.prog Ow 30 70 16 (⟨0, 0⟩ : Ow) := SlT.mk' (zv := .agg #[.int .i64 0, .int .i64 0]) Tryz.underlying30 (by kernel_rfl) rfl (by decide)
theorem sl35 : SlT Tryz.prog Bool 35 4 1 false := SlT.mk' (zv := .bool false) Tryz.underlying35 (by kernel_rfl) rfl (by decide)
theorem te50 : TyEq Tryz.prog 50 K := ⟨fun w x y => by
  rw [beqK]
  show (Op.equalIn (9996 + 1 + 1 + 1 + 1) 50 (.agg #[.int .i64 x.s, .int .i64 x.p]) (.agg #[.int .i64 y.s, .int .i64 y.p])).run _ w = _
  generalize 9996 = d
  go_simp
  (repeat' split) <;> simp_all, by kernel_rfl⟩
theorem te57 : TyEq Tryz.prog 57 F := ⟨fun w x y => by
  rw [beqF]
  show (Op.equalIn (9996 + 1 + 1 + 1 + 1) 57 (.agg #[.bool x.u, .int .i64 x.k.s, .int .i64 x.k.p, .int .i64 x.r, .int .i64 x.nx]) (.agg #[.bool y.u, .int .i64 y.k.s, .int .i64 y.k.p, .int .i64 y.r, .int .i64 y.nx])).run _ w = _
  generalize 9996 = d
  go_simp
  (repeat' split) <;> simp_all, by kernel_rfl⟩
theorem te70 : TyEq Tryz.prog 70 Ow := ⟨fun w x y => by
  rw [beqOw]
  show (Op.equalIn (9996 + 1 + 1 + 1 + 1) 70 (.agg #[.int .i64 x.sp, .int .i64 x.tg]) (.agg #[.int .i64 y.sp, .int .i64 y.tg])).run _ w = _
  generalize 9996 = d
  go_simp
  (repeat' split) <;> simp_all, by kernel_rfl⟩
theorem te104 : TyEq Tryz.prog 104 Ln := ⟨fun w x y => by
  rw [beqLn]
  show (Op.equalIn (9996 + 1 + 1 + 1 + 1) 104 (.agg #[.bool x.va, .int .i64 x.tg, .int .i64 x.pg, .int .i64 x.fr, .int .i64 x.ri, .bool x.wi]) (.agg #[.bool y.va, .int .i64 y.tg, .int .i64 y.pg, .int .i64 y.fr, .int .i64 y.ri, .bool y.wi])).run _ w = _
  generalize 9996 = d
  go_simp
  (repeat' split) <;> simp_all, by kernel_rfl⟩
theorem ts3 : TyS Tryz.prog 3 1 false := ⟨⟨_, Tryz.underlying3, rfl⟩, by kernel_rfl⟩
theorem ts4 : TyS Tryz.prog 4 1 false := ⟨⟨_, Tryz.underlying4, rfl⟩, by kernel_rfl⟩
theorem ts5 : TyS Tryz.prog 5 1 false := ⟨⟨_, Tryz.underlying5, rfl⟩, by kernel_rfl⟩
theorem ts22 : TyS Tryz.prog 22 1 false := ⟨⟨_, Tryz.underlying22, rfl⟩, by kernel_rfl⟩
theorem ts23 : TyS Tryz.prog 23 1 false := ⟨⟨_, Tryz.underlying23, rfl⟩, by kernel_rfl⟩
theorem ts24 : TyS Tryz.prog 24 1 false := ⟨⟨_, Tryz.underlying24, rfl⟩, by kernel_rfl⟩
theorem ts26 : TyS Tryz.prog 26 2 true := ⟨⟨_, Tryz.underlying26, rfl⟩, by kernel_rfl⟩
theorem ts27 : TyS Tryz.prog 27 1 false := ⟨⟨_, Tryz.underlying27, rfl⟩, by kernel_rfl⟩
theorem ts29 : TyS Tryz.prog 29 2 true := ⟨⟨_, Tryz.underlying29, rfl⟩, by kernel_rfl⟩
theorem ts30 : TyS Tryz.prog 30 1 false := ⟨⟨_, Tryz.underlying30, rfl⟩, by kernel_rfl⟩
theorem ts32 : TyS Tryz.prog 32 4 true := ⟨⟨_, Tryz.underlying32, rfl⟩, by kernel_rfl⟩
theorem ts34 : TyS Tryz.prog 34 9 true := ⟨⟨_, Tryz.underlying34, rfl⟩, by kernel_rfl⟩
theorem ts35 : TyS Tryz.prog 35 1 false := ⟨⟨_, Tryz.underlying35, rfl⟩, by kernel_rfl⟩
theorem ts37 : TyS Tryz.prog 37 11 true := ⟨⟨_, Tryz.underlying37, rfl⟩, by kernel_rfl⟩
theorem ts50 : TyS Tryz.prog 50 2 true := ⟨⟨_, Tryz.underlying50, rfl⟩, by kernel_rfl⟩
theorem ts57 : TyS Tryz.prog 57 5 true := ⟨⟨_, Tryz.underlying57, rfl⟩, by kernel_rfl⟩
theorem ts70 : TyS Tryz.prog 70 2 true := ⟨⟨_, Tryz.underlying70, rfl⟩, by kernel_rfl⟩
theorem ts104 : TyS Tryz.prog 104 6 true := ⟨⟨_, Tryz.underlying104, rfl⟩, by kernel_rfl⟩
theorem tz3 : TyZ Tryz.prog 3 (.int .i64 0) := ⟨by kernel_rfl⟩
theorem tz4 : TyZ Tryz.prog 4 (.bool false) := ⟨by kernel_rfl⟩
theorem tz26 : TyZ Tryz.prog 26 (.agg #[.slice none 0 0, .slice none 0 0]) := ⟨by kernel_rfl⟩
theorem tz29 : TyZ Tryz.prog 29 (.agg #[.slice none 0 0, .int .i64 0]) := ⟨by kernel_rfl⟩
theorem tz32 : TyZ Tryz.prog 32 (.agg #[.int .i64 0, .int .i64 0, .int .i64 0, .slice none 0 0]) := ⟨by kernel_rfl⟩
theorem tz34 : TyZ Tryz.prog 34 (.agg #[.slice none 0 0, .slice none 0 0, .slice none 0 0, .int .i64 0, .int .i64 0, .int .i64 0, .int .i64 0, .slice none 0 0, .int .i64 0]) := ⟨by kernel_rfl⟩
theorem tz37 : TyZ Tryz.prog 37 (.agg #[.slice none 0 0, .slice none 0 0, .slice none 0 0, .int .i64 0, .int .i64 0, .int .i64 0, .int .i64 0, .slice none 0 0, .int .i64 0, .slice none 0 0, .int .i64 0]) := ⟨by kernel_rfl⟩
theorem tz50 : TyZ Tryz.prog 50 (.agg #[.int .i64 0, .int .i64 0]) := ⟨by kernel_rfl⟩
theorem tz57 : TyZ Tryz.prog 57 (.agg #[.bool false, .int .i64 0, .int .i64 0, .int .i64 0, .int .i64 0]) := ⟨by kernel_rfl⟩
theorem tz70 : TyZ Tryz.prog 70 (.agg #[.int .i64 0, .int .i64 0]) := ⟨by kernel_rfl⟩
theorem tz104 : TyZ Tryz.prog 104 (.agg #[.bool false, .int .i64 0, .int .i64 0, .int .i64 0, .int .i64 0, .bool false]) := ⟨by kernel_rfl⟩
set_option maxRecDepth 100000 in
theorem bt26_0  : Tryz.prog.built 26 [] = some #[.slice none 0 0, .slice none 0 0] := by kernel_rfl
set_option maxRecDepth 100000 in
theorem bt57_1 {a0 : Int} : Tryz.prog.built 57 [(3, .int .i64 a0)] = some #[.bool false, .int .i64 0, .int .i64 0, .int .i64 0, .int .i64 a0] := by kernel_rfl
set_option maxRecDepth 100000 in
theorem bt29_2  : Tryz.prog.built 29 [] = some #[.slice none 0 0, .int .i64 0] := by kernel_rfl
set_option maxRecDepth 100000 in
theorem bt29_3 {p0 : Option Addr} {n0 c0 : Nat} : Tryz.prog.built 29 [(0, .slice p0 n0 c0)] = some #[.slice p0 n0 c0, .int .i64 0] := by kernel_rfl
set_option maxRecDepth 100000 in
theorem bt32_4  : Tryz.prog.built 32 [] = some #[.int .i64 0, .int .i64 0, .int .i64 0, .slice none 0 0] := by kernel_rfl
set_option maxRecDepth 100000 in
theorem bt32_5 {a0 : Int} {p1 : Option Addr} {n1 c1 : Nat} : Tryz.prog.built 32 [(0, .int .i64 a0), (3, .slice p1 n1 c1)] = some #[.int .i64 a0, .int .i64 0, .int .i64 0, .slice p1 n1 c1] := by kernel_rfl
set_option maxRecDepth 100000 in
theorem bt34_6  : Tryz.prog.built 34 [] = some #[.slice none 0 0, .slice none 0 0, .slice none 0 0, .int .i64 0, .int .i64 0, .int .i64 0, .int .i64 0, .slice none 0 0, .int .i64 0] := by kernel_rfl
set_option maxRecDepth 100000 in
theorem bt32_7 {a0 : Int} {a1 : Int} {a2 : Int} {p3 : Option Addr} {n3 c3 : Nat} : Tryz.prog.built 32 [(0, .int .i64 a0), (1, .int .i64 a1), (2, .int .i64 a2), (3, .slice p3 n3 c3)] = some #[.int .i64 a0, .int .i64 a1, .int .i64 a2, .slice p3 n3 c3] := by kernel_rfl
set_option maxRecDepth 100000 in
theorem bt32_8 {a0 : Int} {a1 : Int} {p2 : Option Addr} {n2 c2 : Nat} : Tryz.prog.built 32 [(0, .int .i64 a0), (2, .int .i64 a1), (3, .slice p2 n2 c2)] = some #[.int .i64 a0, .int .i64 0, .int .i64 a1, .slice p2 n2 c2] := by kernel_rfl
set_option maxRecDepth 100000 in
theorem bt70_9 {a0 : Int} {a1 : Int} : Tryz.prog.built 70 [(0, .int .i64 a0), (1, .int .i64 a1)] = some #[.int .i64 a0, .int .i64 a1] := by kernel_rfl
set_option maxRecDepth 100000 in
theorem bt34_10 {p0 : Option Addr} {n0 c0 : Nat} {p1 : Option Addr} {n1 c1 : Nat} {p2 : Option Addr} {n2 c2 : Nat} {a3 : Int} {a4 : Int} {a5 : Int} {a6 : Int} {p7 : Option Addr} {n7 c7 : Nat} : Tryz.prog.built 34 [(0, .agg #[.slice p0 n0 c0, .slice p1 n1 c1]), (1, .agg #[.slice p2 n2 c2, .int .i64 a3]), (2, .agg #[.int .i64 a4, .int .i64 a5, .int .i64 a6, .slice p7 n7 c7])] = some #[.slice p0 n0 c0, .slice p1 n1 c1, .slice p2 n2 c2, .int .i64 a3, .int .i64 a4, .int .i64 a5, .int .i64 a6, .slice p7 n7 c7, .int .i64 0] := by kernel_rfl
set_option maxRecDepth 100000 in
theorem bt104_11  : Tryz.prog.built 104 [] = some #[.bool false, .int .i64 0, .int .i64 0, .int .i64 0, .int .i64 0, .bool false] := by kernel_rfl
set_option maxRecDepth 100000 in
theorem bt50_12 {a0 : Int} : Tryz.prog.built 50 [(1, .int .i64 a0)] = some #[.int .i64 0, .int .i64 a0] := by kernel_rfl
set_option maxRecDepth 100000 in
theorem bt50_13 {a0 : Int} {a1 : Int} : Tryz.prog.built 50 [(0, .int .i64 a0), (1, .int .i64 a1)] = some #[.int .i64 a0, .int .i64 a1] := by kernel_rfl
set_option maxRecDepth 100000 in
theorem bt26_14 {p0 : Option Addr} {n0 c0 : Nat} {p1 : Option Addr} {n1 c1 : Nat} : Tryz.prog.built 26 [(0, .slice p0 n0 c0), (1, .slice p1 n1 c1)] = some #[.slice p0 n0 c0, .slice p1 n1 c1] := by kernel_rfl
set_option maxRecDepth 100000 in
theorem bt29_15 {p0 : Option Addr} {n0 c0 : Nat} {a1 : Int} : Tryz.prog.built 29 [(0, .slice p0 n0 c0), (1, .int .i64 a1)] = some #[.slice p0 n0 c0, .int .i64 a1] := by kernel_rfl
set_option maxRecDepth 100000 in
theorem bt34_16 {p0 : Option Addr} {n0 c0 : Nat} {p1 : Option Addr} {n1 c1 : Nat} {p2 : Option Addr} {n2 c2 : Nat} {a3 : Int} {a4 : Int} {a5 : Int} {a6 : Int} {p7 : Option Addr} {n7 c7 : Nat} {a8 : Int} : Tryz.prog.built 34 [(0, .agg #[.slice p0 n0 c0, .slice p1 n1 c1]), (1, .agg #[.slice p2 n2 c2, .int .i64 a3]), (2, .agg #[.int .i64 a4, .int .i64 a5, .int .i64 a6, .slice p7 n7 c7]), (3, .int .i64 a8)] = some #[.slice p0 n0 c0, .slice p1 n1 c1, .slice p2 n2 c2, .int .i64 a3, .int .i64 a4, .int .i64 a5, .int .i64 a6, .slice p7 n7 c7, .int .i64 a8] := by kernel_rfl
set_option maxRecDepth 100000 in
theorem bt57_17 {a0 : Bool} {a1 : Int} {a2 : Int} {a3 : Int} {a4 : Int} : Tryz.prog.built 57 [(0, .bool a0), (1, .agg #[.int .i64 a1, .int .i64 a2]), (2, .int .i64 a3), (3, .int .i64 a4)] = some #[.bool a0, .int .i64 a1, .int .i64 a2, .int .i64 a3, .int .i64 a4] := by kernel_rfl
set_option maxRecDepth 100000 in
theorem bt104_18 {a0 : Bool} {a1 : Int} {a2 : Int} {a3 : Int} {a4 : Int} : Tryz.prog.built 104 [(0, .bool a0), (1, .int .i64 a1), (2, .int .i64 a2), (3, .int .i64 a3), (4, .int .i64 a4)] = some #[.bool a0, .int .i64 a1, .int .i64 a2, .int .i64 a3, .int .i64 a4, .bool false] := by kernel_rfl
set_option maxRecDepth 100000 in
theorem bt37_19  : Tryz.prog.built 37 [] = some #[.slice none 0 0, .slice none 0 0, .slice none 0 0, .int .i64 0, .int .i64 0, .int .i64 0, .int .i64 0, .slice none 0 0, .int .i64 0, .slice none 0 0, .int .i64 0] := by kernel_rfl
set_option maxRecDepth 100000 in
theorem bt37_20 {p0 : Option Addr} {n0 c0 : Nat} {p1 : Option Addr} {n1 c1 : Nat} {p2 : Option Addr} {n2 c2 : Nat} {a3 : Int} {a4 : Int} {a5 : Int} {a6 : Int} {p7 : Option Addr} {n7 c7 : Nat} {a8 : Int} {p9 : Option Addr} {n9 c9 : Nat} : Tryz.prog.built 37 [(0, .agg #[.slice p0 n0 c0, .slice p1 n1 c1, .slice p2 n2 c2, .int .i64 a3, .int .i64 a4, .int .i64 a5, .int .i64 a6, .slice p7 n7 c7, .int .i64 a8]), (1, .slice p9 n9 c9)] = some #[.slice p0 n0 c0, .slice p1 n1 c1, .slice p2 n2 c2, .int .i64 a3, .int .i64 a4, .int .i64 a5, .int .i64 a6, .slice p7 n7 c7, .int .i64 a8, .slice p9 n9 c9, .int .i64 0] := by kernel_rfl
set_option maxRecDepth 100000 in
theorem bt37_21 {p0 : Option Addr} {n0 c0 : Nat} {p1 : Option Addr} {n1 c1 : Nat} {p2 : Option Addr} {n2 c2 : Nat} {a3 : Int} {a4 : Int} {a5 : Int} {a6 : Int} {p7 : Option Addr} {n7 c7 : Nat} {a8 : Int} {p9 : Option Addr} {n9 c9 : Nat} {a10 : Int} : Tryz.prog.built 37 [(0, .agg #[.slice p0 n0 c0, .slice p1 n1 c1, .slice p2 n2 c2, .int .i64 a3, .int .i64 a4, .int .i64 a5, .int .i64 a6, .slice p7 n7 c7, .int .i64 a8]), (1, .slice p9 n9 c9), (2, .int .i64 a10)] = some #[.slice p0 n0 c0, .slice p1 n1 c1, .slice p2 n2 c2, .int .i64 a3, .int .i64 a4, .int .i64 a5, .int .i64 a6, .slice p7 n7 c7, .int .i64 a8, .slice p9 n9 c9, .int .i64 a10] := by kernel_rfl
set_option maxRecDepth 100000 in
theorem bt104_22 {a0 : Bool} {a1 : Int} {a2 : Int} {a3 : Int} {a4 : Int} {a5 : Bool} : Tryz.prog.built 104 [(0, .bool a0), (1, .int .i64 a1), (2, .int .i64 a2), (3, .int .i64 a3), (4, .int .i64 a4), (5, .bool a5)] = some #[.bool a0, .int .i64 a1, .int .i64 a2, .int .i64 a3, .int .i64 a4, .bool a5] := by kernel_rfl
set_option maxRecDepth 100000 in
theorem bt95_23 {p0 : Option Addr} {n0 c0 : Nat} : Tryz.prog.built 95 [(0, .slice p0 n0 c0)] = some #[.slice p0 n0 c0, .int .i64 0] := by kernel_rfl
abbrev u3 := Tryz.underlying3
abbrev u4 := Tryz.underlying4
abbrev u5 := Tryz.underlying5
abbrev u22 := Tryz.underlying22
abbrev u23 := Tryz.underlying23
abbrev u24 := Tryz.underlying24
abbrev u26 := Tryz.underlying26
abbrev u27 := Tryz.underlying27
abbrev u29 := Tryz.underlying29
abbrev u30 := Tryz.underlying30
abbrev u32 := Tryz.underlying32
abbrev u34 := Tryz.underlying34
abbrev u35 := Tryz.underlying35
abbrev u37 := Tryz.underlying37
abbrev u50 := Tryz.underlying50
abbrev u57 := Tryz.underlying57
abbrev u70 := Tryz.underlying70
abbrev u95 := Tryz.underlying95
abbrev u104 := Tryz.underlying104
abbrev u107 := Tryz.underlying107
abbrev u109 := Tryz.underlying109
end Go.Proofs.YtbfbfkpcabkchaaGreatDoor
