/- Facts on the program's table of types and of functions, each a look into it. Printed by a program (gen.py). -/
import Derived.Test.YtfnliecmagnkdabDoorDp
import Derived.Test.YtfnliecmagnkdabDoorE6
import Derived.Test.YtfnliecmagnkdabDoorDat
import Derived.Test.YtfnliecmagnkdabDoorProg
import Derived.KernelRfl
set_option linter.unusedSimpArgs false
set_option linter.unusedVariables false
set_option linter.unusedSectionVars false
namespace Go.Proofs.YtfnliecmagnkdabDoor
open Go.RowKit
theorem g_mixed : Tryd.prog.follows .mixedOrders = true := by kernel_rfl
theorem cf10 : CF Tryd.prog 10 := ⟨⟨_, Tryd.func10, rfl, by kernel_rfl⟩⟩
theorem cf11 : CF Tryd.prog 11 := ⟨⟨_, Tryd.func11, rfl, by kernel_rfl⟩⟩
theorem cf12 : CF Tryd.prog 12 := ⟨⟨_, Tryd.func12, rfl, by kernel_rfl⟩⟩
theorem cf13 : CF Tryd.prog 13 := ⟨⟨_, Tryd.func13, rfl, by kernel_rfl⟩⟩
theorem cf14 : CF Tryd.prog 14 := ⟨⟨_, Tryd.func14, rfl, by kernel_rfl⟩⟩
theorem cf15 : CF Tryd.prog 15 := ⟨⟨_, Tryd.func15, rfl, by kernel_rfl⟩⟩
theorem cf16 : CF Tryd.prog 16 := ⟨⟨_, Tryd.func16, rfl, by kernel_rfl⟩⟩
theorem cf17 : CF Tryd.prog 17 := ⟨⟨_, Tryd.func17, rfl, by kernel_rfl⟩⟩
theorem cf18 : CF Tryd.prog 18 := ⟨⟨_, Tryd.func18, rfl, by kernel_rfl⟩⟩
theorem cf19 : CF Tryd.prog 19 := ⟨⟨_, Tryd.func19, rfl, by kernel_rfl⟩⟩
theorem cf20 : CF Tryd.prog 20 := ⟨⟨_, Tryd.func20, rfl, by kernel_rfl⟩⟩
theorem cf21 : CF Tryd.prog 21 := ⟨⟨_, Tryd.func21, rfl, by kernel_rfl⟩⟩
theorem cf22 : CF Tryd.prog 22 := ⟨⟨_, Tryd.func22, rfl, by kernel_rfl⟩⟩
theorem cf23 : CF Tryd.prog 23 := ⟨⟨_, Tryd.func23, rfl, by kernel_rfl⟩⟩
theorem cf24 : CF Tryd.prog 24 := ⟨⟨_, Tryd.func24, rfl, by kernel_rfl⟩⟩
theorem cf25 : CF Tryd.prog 25 := ⟨⟨_, Tryd.func25, rfl, by kernel_rfl⟩⟩
theorem cf26 : CF Tryd.prog 26 := ⟨⟨_, Tryd.func26, rfl, by kernel_rfl⟩⟩
theorem cf27 : CF Tryd.prog 27 := ⟨⟨_, Tryd.func27, rfl, by kernel_rfl⟩⟩
theorem cf28 : CF Tryd.prog 28 := ⟨⟨_, Tryd.func28, rfl, by kernel_rfl⟩⟩
theorem cf29 : CF Tryd.prog 29 := ⟨⟨_, Tryd.func29, rfl, by kernel_rfl⟩⟩
theorem cf30 : CF Tryd.prog 30 := ⟨⟨_, Tryd.func30, rfl, by kernel_rfl⟩⟩
theorem cf31 : CF Tryd.prog 31 := ⟨⟨_, Tryd.func31, rfl, by kernel_rfl⟩⟩
theorem cf32 : CF Tryd.prog 32 := ⟨⟨_, Tryd.func32, rfl, by kernel_rfl⟩⟩
theorem cf33 : CF Tryd.prog 33 := ⟨⟨_, Tryd.func33, rfl, by kernel_rfl⟩⟩
theorem cf34 : CF Tryd.prog 34 := ⟨⟨_, Tryd.func34, rfl, by kernel_rfl⟩⟩
theorem cf35 : CF Tryd.prog 35 := ⟨⟨_, Tryd.func35, rfl, by kernel_rfl⟩⟩
theorem cf36 : CF Tryd.prog 36 := ⟨⟨_, Tryd.func36, rfl, by kernel_rfl⟩⟩
theorem cf37 : CF Tryd.prog 37 := ⟨⟨_, Tryd.func37, rfl, by kernel_rfl⟩⟩
theorem cf38 : CF Tryd.prog 38 := ⟨⟨_, Tryd.func38, rfl, by kernel_rfl⟩⟩
theorem cf39 : CF Tryd.prog 39 := ⟨⟨_, Tryd.func39, rfl, by kernel_rfl⟩⟩
theorem cf40 : CF Tryd.prog 40 := ⟨⟨_, Tryd.func40, rfl, by kernel_rfl⟩⟩
theorem cf41 : CF Tryd.prog 41 := ⟨⟨_, Tryd.func41, rfl, by kernel_rfl⟩⟩
theorem cf42 : CF Tryd.prog 42 := ⟨⟨_, Tryd.func42, rfl, by kernel_rfl⟩⟩
theorem cf43 : CF Tryd.prog 43 := ⟨⟨_, Tryd.func43, rfl, by kernel_rfl⟩⟩
theorem cf44 : CF Tryd.prog 44 := ⟨⟨_, Tryd.func44, rfl, by kernel_rfl⟩⟩
theorem cf45 : CF Tryd.prog 45 := ⟨⟨_, Tryd.func45, rfl, by kernel_rfl⟩⟩
theorem cf46 : CF Tryd.prog 46 := ⟨⟨_, Tryd.func46, rfl, by kernel_rfl⟩⟩
theorem cf47 : CF Tryd.prog 47 := ⟨⟨_, Tryd.func47, rfl, by kernel_rfl⟩⟩
theorem cf48 : CF Tryd.prog 48 := ⟨⟨_, Tryd.func48, rfl, by kernel_rfl⟩⟩
theorem cf49 : CF Tryd.prog 49 := ⟨⟨_, Tryd.func49, rfl, by kernel_rfl⟩⟩
theorem cf50 : CF Tryd.prog 50 := ⟨⟨_, Tryd.func50, rfl, by kernel_rfl⟩⟩
theorem cf51 : CF Tryd.prog 51 := ⟨⟨_, Tryd.func51, rfl, by kernel_rfl⟩⟩
theorem cf52 : CF Tryd.prog 52 := ⟨⟨_, Tryd.func52, rfl, by kernel_rfl⟩⟩
theorem cf53 : CF Tryd.prog 53 := ⟨⟨_, Tryd.func53, rfl, by kernel_rfl⟩⟩
theorem cf54 : CF Tryd.prog 54 := ⟨⟨_, Tryd.func54, rfl, by kernel_rfl⟩⟩
theorem cf55 : CF Tryd.prog 55 := ⟨⟨_, Tryd.func55, rfl, by kernel_rfl⟩⟩
theorem cf56 : CF Tryd.prog 56 := ⟨⟨_, Tryd.func56, rfl, by kernel_rfl⟩⟩
theorem cf57 : CF Tryd.prog 57 := ⟨⟨_, Tryd.func57, rfl, by kernel_rfl⟩⟩
theorem cf58 : CF Tryd.prog 58 := ⟨⟨_, Tryd.func58, rfl, by kernel_rfl⟩⟩
theorem cf59 : CF Tryd.prog 59 := ⟨⟨_, Tryd.func59, rfl, by kernel_rfl⟩⟩
theorem cf60 : CF Tryd.prog 60 := ⟨⟨_, Tryd.func60, rfl, by kernel_rfl⟩⟩
theorem cf61 : CF Tryd.prog 61 := ⟨⟨_, Tryd.func61, rfl, by kernel_rfl⟩⟩
theorem cf62 : CF Tryd.prog 62 := ⟨⟨_, Tryd.func62, rfl, by kernel_rfl⟩⟩
theorem cf63 : CF Tryd.prog 63 := ⟨⟨_, Tryd.func63, rfl, by kernel_rfl⟩⟩
theorem cf64 : CF Tryd.prog 64 := ⟨⟨_, Tryd.func64, rfl, by kernel_rfl⟩⟩
theorem cf65 : CF Tryd.prog 65 := ⟨⟨_, Tryd.func65, rfl, by kernel_rfl⟩⟩
theorem cf66 : CF Tryd.prog 66 := ⟨⟨_, Tryd.func66, rfl, by kernel_rfl⟩⟩
theorem cf67 : CF Tryd.prog 67 := ⟨⟨_, Tryd.func67, rfl, by kernel_rfl⟩⟩
theorem cf68 : CF Tryd.prog 68 := ⟨⟨_, Tryd.func68, rfl, by kernel_rfl⟩⟩
theorem cf69 : CF Tryd.prog 69 := ⟨⟨_, Tryd.func69, rfl, by kernel_rfl⟩⟩
theorem cf70 : CF Tryd.prog 70 := ⟨⟨_, Tryd.func70, rfl, by kernel_rfl⟩⟩
theorem cf71 : CF Tryd.prog 71 := ⟨⟨_, Tryd.func71, rfl, by kernel_rfl⟩⟩
theorem cf72 : CF Tryd.prog 72 := ⟨⟨_, Tryd.func72, rfl, by kernel_rfl⟩⟩
theorem cf73 : CF Tryd.prog 73 := ⟨⟨_, Tryd.func73, rfl, by kernel_rfl⟩⟩
theorem cf74 : CF Tryd.prog 74 := ⟨⟨_, Tryd.func74, rfl, by kernel_rfl⟩⟩
theorem cf75 : CF Tryd.prog 75 := ⟨⟨_, Tryd.func75, rfl, by kernel_rfl⟩⟩
theorem cf76 : CF Tryd.prog 76 := ⟨⟨_, Tryd.func76, rfl, by kernel_rfl⟩⟩
theorem cf77 : CF Tryd.prog 77 := ⟨⟨_, Tryd.func77, rfl, by kernel_rfl⟩⟩
theorem cf78 : CF Tryd.prog 78 := ⟨⟨_, Tryd.func78, rfl, by kernel_rfl⟩⟩
theorem cf79 : CF Tryd.prog 79 := ⟨⟨_, Tryd.func79, rfl, by kernel_rfl⟩⟩
theorem cf80 : CF Tryd.prog 80 := ⟨⟨_, Tryd.func80, rfl, by kernel_rfl⟩⟩
theorem cf81 : CF Tryd.prog 81 := ⟨⟨_, Tryd.func81, rfl, by kernel_rfl⟩⟩
theorem cf82 : CF Tryd.prog 82 := ⟨⟨_, Tryd.func82, rfl, by kernel_rfl⟩⟩
theorem cf83 : CF Tryd.prog 83 := ⟨⟨_, Tryd.func83, rfl, by kernel_rfl⟩⟩
theorem cf84 : CF Tryd.prog 84 := ⟨⟨_, Tryd.func84, rfl, by kernel_rfl⟩⟩
theorem cf85 : CF Tryd.prog 85 := ⟨⟨_, Tryd.func85, rfl, by kernel_rfl⟩⟩
theorem cf86 : CF Tryd.prog 86 := ⟨⟨_, Tryd.func86, rfl, by kernel_rfl⟩⟩
theorem cf87 : CF Tryd.prog 87 := ⟨⟨_, Tryd.func87, rfl, by kernel_rfl⟩⟩
theorem cf88 : CF Tryd.prog 88 := ⟨⟨_, Tryd.func88, rfl, by kernel_rfl⟩⟩
theorem cf89 : CF Tryd.prog 89 := ⟨⟨_, Tryd.func89, rfl, by kernel_rfl⟩⟩
theorem cf90 : CF Tryd.prog 90 := ⟨⟨_, Tryd.func90, rfl, by kernel_rfl⟩⟩
theorem cf91 : CF Tryd.prog 91 := ⟨⟨_, Tryd.func91, rfl, by kernel_rfl⟩⟩
theorem cf92 : CF Tryd.prog 92 := ⟨⟨_, Tryd.func92, rfl, by kernel_rfl⟩⟩
theorem cf93 : CF Tryd.prog 93 := ⟨⟨_, Tryd.func93, rfl, by kernel_rfl⟩⟩
theorem cf94 : CF Tryd.prog 94 := ⟨⟨_, Tryd.func94, rfl, by kernel_rfl⟩⟩
theorem cf95 : CF Tryd.prog 95 := ⟨⟨_, Tryd.func95, rfl, by kernel_rfl⟩⟩
theorem cf96 : CF Tryd.prog 96 := ⟨⟨_, Tryd.func96, rfl, by kernel_rfl⟩⟩
theorem cf97 : CF Tryd.prog 97 := ⟨⟨_, Tryd.func97, rfl, by kernel_rfl⟩⟩
theorem cf98 : CF Tryd.prog 98 := ⟨⟨_, Tryd.func98, rfl, by kernel_rfl⟩⟩
theorem cf99 : CF Tryd.prog 99 := ⟨⟨_, Tryd.func99, rfl, by kernel_rfl⟩⟩
theorem cf100 : CF Tryd.prog 100 := ⟨⟨_, Tryd.func100, rfl, by kernel_rfl⟩⟩
theorem cf101 : CF Tryd.prog 101 := ⟨⟨_, Tryd.func101, rfl, by kernel_rfl⟩⟩
theorem cf102 : CF Tryd.prog 102 := ⟨⟨_, Tryd.func102, rfl, by kernel_rfl⟩⟩
theorem cf103 : CF Tryd.prog 103 := ⟨⟨_, Tryd.func103, rfl, by kernel_rfl⟩⟩
theorem cf104 : CF Tryd.prog 104 := ⟨⟨_, Tryd.func104, rfl, by kernel_rfl⟩⟩
theorem cf105 : CF Tryd.prog 105 := ⟨⟨_, Tryd.func105, rfl, by kernel_rfl⟩⟩
theorem cf106 : CF Tryd.prog 106 := ⟨⟨_, Tryd.func106, rfl, by kernel_rfl⟩⟩
theorem cf107 : CF Tryd.prog 107 := ⟨⟨_, Tryd.func107, rfl, by kernel_rfl⟩⟩
theorem cf108 : CF Tryd.prog 108 := ⟨⟨_, Tryd.func108, rfl, by kernel_rfl⟩⟩
theorem cf109 : CF Tryd.prog 109 := ⟨⟨_, Tryd.func109, rfl, by kernel_rfl⟩⟩
theorem cf110 : CF Tryd.prog 110 := ⟨⟨_, Tryd.func110, rfl, by kernel_rfl⟩⟩
theorem cf111 : CF Tryd.prog 111 := ⟨⟨_, Tryd.func111, rfl, by kernel_rfl⟩⟩
theorem cf112 : CF Tryd.prog 112 := ⟨⟨_, Tryd.func112, rfl, by kernel_rfl⟩⟩
theorem cf113 : CF Tryd.prog 113 := ⟨⟨_, Tryd.func113, rfl, by kernel_rfl⟩⟩
theorem cf114 : CF Tryd.prog 114 := ⟨⟨_, Tryd.func114, rfl, by kernel_rfl⟩⟩
theorem cf115 : CF Tryd.prog 115 := ⟨⟨_, Tryd.func115, rfl, by kernel_rfl⟩⟩
theorem cf116 : CF Tryd.prog 116 := ⟨⟨_, Tryd.func116, rfl, by kernel_rfl⟩⟩
theorem cf117 : CF Tryd.prog 117 := ⟨⟨_, Tryd.func117, rfl, by kernel_rfl⟩⟩
theorem cf118 : CF Tryd.prog 118 := ⟨⟨_, Tryd.func118, rfl, by kernel_rfl⟩⟩
theorem cf119 : CF Tryd.prog 119 := ⟨⟨_, Tryd.func119, rfl, by kernel_rfl⟩⟩
theorem cf120 : CF Tryd.prog 120 := ⟨⟨_, Tryd.func120, rfl, by kernel_rfl⟩⟩
theorem cf122 : CF Tryd.prog 122 := ⟨⟨_, Tryd.func122, rfl, by kernel_rfl⟩⟩
theorem cf123 : CF Tryd.prog 123 := ⟨⟨_, Tryd.func123, rfl, by kernel_rfl⟩⟩
theorem cf126 : CF Tryd.prog 126 := ⟨⟨_, Tryd.func126, rfl, by kernel_rfl⟩⟩
theorem cf127 : CF Tryd.prog 127 := ⟨⟨_, Tryd.func127, rfl, by kernel_rfl⟩⟩
theorem cf128 : CF Tryd.prog 128 := ⟨⟨_, Tryd.func128, rfl, by kernel_rfl⟩⟩
theorem cf129 : CF Tryd.prog 129 := ⟨⟨_, Tryd.func129, rfl, by kernel_rfl⟩⟩
theorem cf130 : CF Tryd.prog 130 := ⟨⟨_, Tryd.func130, rfl, by kernel_rfl⟩⟩
theorem cf131 : CF Tryd.prog 131 := ⟨⟨_, Tryd.func131, rfl, by kernel_rfl⟩⟩
theorem cf132 : CF Tryd.prog 132 := ⟨⟨_, Tryd.func132, rfl, by kernel_rfl⟩⟩
theorem cf133 : CF Tryd.prog 133 := ⟨⟨_, Tryd.func133, rfl, by kernel_rfl⟩⟩
theorem cf134 : CF Tryd.prog 134 := ⟨⟨_, Tryd.func134, rfl, by kernel_rfl⟩⟩
theorem cf135 : CF Tryd.prog 135 := ⟨⟨_, Tryd.func135, rfl, by kernel_rfl⟩⟩
theorem cf136 : CF Tryd.prog 136 := ⟨⟨_, Tryd.func136, rfl, by kernel_rfl⟩⟩
theorem cf137 : CF Tryd.prog 137 := ⟨⟨_, Tryd.func137, rfl, by kernel_rfl⟩⟩
theorem cf138 : CF Tryd.prog 138 := ⟨⟨_, Tryd.func138, rfl, by kernel_rfl⟩⟩
theorem cf151 : CF Tryd.prog 151 := ⟨⟨_, Tryd.func151, rfl, by kernel_rfl⟩⟩
theorem cf152 : CF Tryd.prog 152 := ⟨⟨_, Tryd.func152, rfl, by kernel_rfl⟩⟩
theorem cf153 : CF Tryd.prog 153 := ⟨⟨_, Tryd.func153, rfl, by kernel_rfl⟩⟩
theorem cf154 : CF Tryd.prog 154 := ⟨⟨_, Tryd.func154, rfl, by kernel_rfl⟩⟩
theorem cf155 : CF Tryd.prog 155 := ⟨⟨_, Tryd.func155, rfl, by kernel_rfl⟩⟩
theorem cf162 : CF Tryd.prog 162 := ⟨⟨_, Tryd.func162, rfl, by kernel_rfl⟩⟩
theorem sl22 : SlT Tryd.prog Int 22 3 8 (0 : Int) := SlT.mk' (zv := .int .i64 0) Tryd.underlying22 (by kernel_rfl) rfl (by decide)
theorem sl32 : SlT Tryd.prog F 32 71 40 (⟨false, (⟨0, 0⟩ : K), 0, 0⟩ : F) := SlT.mk' (zv := .agg #[.bool false, .int .i64 0, .int .i64 0, .int .i64 0, .int .i64 0]) Tryd.underlying32 (by kernel_rfl) rfl (by decide)
theorem sl35 : SlT Tryd.prog CpS 35 53 48 cpz := SlT.mk' (zv := .agg #[.slice none 0 0, .slice none 0 0]) Tryd.underlying35 (by kernel_rfl) rfl (by decide)
theorem sl51 : SlT Tryd.prog Nt 51 55 24 (⟨(⟨0, 0⟩ : K), 0⟩ : Nt) := SlT.mk' (zv := .agg #[.int .i64 0, .int .i64 0, .int .i64 0]) Tryd.underlying51 (by kernel_rfl) rfl (by decide)
theorem sl132 : SlT Tryd.prog K 132 41 16 (⟨0, 0⟩ : K) := SlT.mk' (zv := .agg #[.int .i64 0, .int .i64 0]) Tryd.underlying132 (by kernel_rfl) rfl (by decide)
theorem te41 : TyEq Tryd.prog 41 K := ⟨fun w x y => by
  rw [beqK]
  show (Op.equalIn (9996 + 1 + 1 + 1 + 1) 41 (.agg #[.int .i64 x.s, .int .i64 x.p]) (.agg #[.int .i64 y.s, .int .i64 y.p])).run _ w = _
  generalize 9996 = d
  go_simp
  (repeat' split) <;> simp_all, by kernel_rfl⟩
theorem te55 : TyEq Tryd.prog 55 Nt := ⟨fun w x y => by
  rw [beqNt]
  show (Op.equalIn (9996 + 1 + 1 + 1 + 1) 55 (.agg #[.int .i64 x.k.s, .int .i64 x.k.p, .int .i64 x.fr]) (.agg #[.int .i64 y.k.s, .int .i64 y.k.p, .int .i64 y.fr])).run _ w = _
  generalize 9996 = d
  go_simp
  (repeat' split) <;> simp_all, by kernel_rfl⟩
theorem te71 : TyEq Tryd.prog 71 F := ⟨fun w x y => by
  rw [beqF]
  show (Op.equalIn (9996 + 1 + 1 + 1 + 1) 71 (.agg #[.bool x.u, .int .i64 x.k.s, .int .i64 x.k.p, .int .i64 x.r, .int .i64 x.nx]) (.agg #[.bool y.u, .int .i64 y.k.s, .int .i64 y.k.p, .int .i64 y.r, .int .i64 y.nx])).run _ w = _
  generalize 9996 = d
  go_simp
  (repeat' split) <;> simp_all, by kernel_rfl⟩
theorem ts3 : TyS Tryd.prog 3 1 false := ⟨⟨_, Tryd.underlying3, rfl⟩, by kernel_rfl⟩
theorem ts4 : TyS Tryd.prog 4 1 false := ⟨⟨_, Tryd.underlying4, rfl⟩, by kernel_rfl⟩
theorem ts5 : TyS Tryd.prog 5 1 false := ⟨⟨_, Tryd.underlying5, rfl⟩, by kernel_rfl⟩
theorem ts22 : TyS Tryd.prog 22 1 false := ⟨⟨_, Tryd.underlying22, rfl⟩, by kernel_rfl⟩
theorem ts23 : TyS Tryd.prog 23 1 false := ⟨⟨_, Tryd.underlying23, rfl⟩, by kernel_rfl⟩
theorem ts25 : TyS Tryd.prog 25 2 true := ⟨⟨_, Tryd.underlying25, rfl⟩, by kernel_rfl⟩
theorem ts26 : TyS Tryd.prog 26 1 false := ⟨⟨_, Tryd.underlying26, rfl⟩, by kernel_rfl⟩
theorem ts28 : TyS Tryd.prog 28 3 true := ⟨⟨_, Tryd.underlying28, rfl⟩, by kernel_rfl⟩
theorem ts30 : TyS Tryd.prog 30 2 true := ⟨⟨_, Tryd.underlying30, rfl⟩, by kernel_rfl⟩
theorem ts32 : TyS Tryd.prog 32 1 false := ⟨⟨_, Tryd.underlying32, rfl⟩, by kernel_rfl⟩
theorem ts34 : TyS Tryd.prog 34 2 true := ⟨⟨_, Tryd.underlying34, rfl⟩, by kernel_rfl⟩
theorem ts35 : TyS Tryd.prog 35 1 false := ⟨⟨_, Tryd.underlying35, rfl⟩, by kernel_rfl⟩
theorem ts37 : TyS Tryd.prog 37 3 true := ⟨⟨_, Tryd.underlying37, rfl⟩, by kernel_rfl⟩
theorem ts41 : TyS Tryd.prog 41 2 true := ⟨⟨_, Tryd.underlying41, rfl⟩, by kernel_rfl⟩
theorem ts46 : TyS Tryd.prog 46 1 false := ⟨⟨_, Tryd.underlying46, rfl⟩, by kernel_rfl⟩
theorem ts51 : TyS Tryd.prog 51 1 false := ⟨⟨_, Tryd.underlying51, rfl⟩, by kernel_rfl⟩
theorem ts53 : TyS Tryd.prog 53 2 true := ⟨⟨_, Tryd.underlying53, rfl⟩, by kernel_rfl⟩
theorem ts55 : TyS Tryd.prog 55 3 true := ⟨⟨_, Tryd.underlying55, rfl⟩, by kernel_rfl⟩
theorem ts71 : TyS Tryd.prog 71 5 true := ⟨⟨_, Tryd.underlying71, rfl⟩, by kernel_rfl⟩
theorem ts114 : TyS Tryd.prog 114 1 false := ⟨⟨_, Tryd.underlying114, rfl⟩, by kernel_rfl⟩
theorem ts116 : TyS Tryd.prog 116 2 true := ⟨⟨_, Tryd.underlying116, rfl⟩, by kernel_rfl⟩
theorem ts150 : TyS Tryd.prog 150 5 true := ⟨⟨_, Tryd.underlying150, rfl⟩, by kernel_rfl⟩
theorem ts170 : TyS Tryd.prog 170 3 true := ⟨⟨_, Tryd.underlying170, rfl⟩, by kernel_rfl⟩
theorem tz34 : TyZ Tryd.prog 34 (.agg #[.slice none 0 0, .slice none 0 0]) := ⟨by kernel_rfl⟩
theorem tz37 : TyZ Tryd.prog 37 (.agg #[.slice none 0 0, .slice none 0 0, .slice none 0 0]) := ⟨by kernel_rfl⟩
theorem tz41 : TyZ Tryd.prog 41 (.agg #[.int .i64 0, .int .i64 0]) := ⟨by kernel_rfl⟩
theorem tz53 : TyZ Tryd.prog 53 (.agg #[.slice none 0 0, .slice none 0 0]) := ⟨by kernel_rfl⟩
theorem tz55 : TyZ Tryd.prog 55 (.agg #[.int .i64 0, .int .i64 0, .int .i64 0]) := ⟨by kernel_rfl⟩
theorem tz71 : TyZ Tryd.prog 71 (.agg #[.bool false, .int .i64 0, .int .i64 0, .int .i64 0, .int .i64 0]) := ⟨by kernel_rfl⟩
set_option maxRecDepth 100000 in
theorem bt37_0  : Tryd.prog.built 37 [] = some #[.slice none 0 0, .slice none 0 0, .slice none 0 0] := by kernel_rfl
set_option maxRecDepth 100000 in
theorem bt34_1 {p0 : Option Addr} {n0 c0 : Nat} {p1 : Option Addr} {n1 c1 : Nat} : Tryd.prog.built 34 [(0, .slice p0 n0 c0), (1, .slice p1 n1 c1)] = some #[.slice p0 n0 c0, .slice p1 n1 c1] := by kernel_rfl
set_option maxRecDepth 100000 in
theorem bt37_2 {p0 : Option Addr} {n0 c0 : Nat} {p1 : Option Addr} {n1 c1 : Nat} : Tryd.prog.built 37 [(0, .agg #[.slice p0 n0 c0, .slice p1 n1 c1])] = some #[.slice p0 n0 c0, .slice p1 n1 c1, .slice none 0 0] := by kernel_rfl
set_option maxRecDepth 100000 in
theorem bt53_3 {p0 : Option Addr} {n0 c0 : Nat} {p1 : Option Addr} {n1 c1 : Nat} : Tryd.prog.built 53 [(0, .slice p0 n0 c0), (1, .slice p1 n1 c1)] = some #[.slice p0 n0 c0, .slice p1 n1 c1] := by kernel_rfl
set_option maxRecDepth 100000 in
theorem bt55_4 {a0 : Int} {a1 : Int} {a2 : Int} : Tryd.prog.built 55 [(0, .agg #[.int .i64 a0, .int .i64 a1]), (1, .int .i64 a2)] = some #[.int .i64 a0, .int .i64 a1, .int .i64 a2] := by kernel_rfl
set_option maxRecDepth 100000 in
theorem bt37_5 {p0 : Option Addr} {n0 c0 : Nat} {p1 : Option Addr} {n1 c1 : Nat} {p2 : Option Addr} {n2 c2 : Nat} : Tryd.prog.built 37 [(0, .agg #[.slice p0 n0 c0, .slice p1 n1 c1]), (1, .slice p2 n2 c2)] = some #[.slice p0 n0 c0, .slice p1 n1 c1, .slice p2 n2 c2] := by kernel_rfl
set_option maxRecDepth 100000 in
theorem bt34_6  : Tryd.prog.built 34 [] = some #[.slice none 0 0, .slice none 0 0] := by kernel_rfl
set_option maxRecDepth 100000 in
theorem bt71_7 {a0 : Int} : Tryd.prog.built 71 [(3, .int .i64 a0)] = some #[.bool false, .int .i64 0, .int .i64 0, .int .i64 0, .int .i64 a0] := by kernel_rfl
set_option maxRecDepth 100000 in
theorem bt41_8 {a0 : Int} {a1 : Int} : Tryd.prog.built 41 [(0, .int .i64 a0), (1, .int .i64 a1)] = some #[.int .i64 a0, .int .i64 a1] := by kernel_rfl
set_option maxRecDepth 100000 in
theorem bt71_9 {a0 : Bool} {a1 : Int} {a2 : Int} {a3 : Int} {a4 : Int} : Tryd.prog.built 71 [(0, .bool a0), (1, .agg #[.int .i64 a1, .int .i64 a2]), (2, .int .i64 a3), (3, .int .i64 a4)] = some #[.bool a0, .int .i64 a1, .int .i64 a2, .int .i64 a3, .int .i64 a4] := by kernel_rfl
set_option maxRecDepth 100000 in
theorem bt53_10  : Tryd.prog.built 53 [] = some #[.slice none 0 0, .slice none 0 0] := by kernel_rfl
set_option maxRecDepth 100000 in
theorem bt41_11 {a0 : Int} : Tryd.prog.built 41 [(0, .int .i64 a0)] = some #[.int .i64 a0, .int .i64 0] := by kernel_rfl
set_option maxRecDepth 100000 in
theorem bt136_12 {p0 : Option Addr} {n0 c0 : Nat} : Tryd.prog.built 136 [(0, .slice p0 n0 c0)] = some #[.slice p0 n0 c0, .int .i64 0] := by kernel_rfl
end Go.Proofs.YtfnliecmagnkdabDoor
