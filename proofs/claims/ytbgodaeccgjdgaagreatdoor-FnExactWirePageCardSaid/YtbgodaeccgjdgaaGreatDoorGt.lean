/- Facts on the program's table of types and of functions, each a look into it. Printed by a program (gen.py). -/
import Derived.Test.YtbgodaeccgjdgaaGreatDoorE6
import Derived.Test.YtbgodaeccgjdgaaGreatDoorDat
import Derived.Test.YtbgodaeccgjdgaaGreatDoorProg
import Derived.KernelRfl
set_option linter.unusedSimpArgs false
set_option linter.unusedVariables false
set_option linter.unusedSectionVars false
namespace Go.Proofs.YtbgodaeccgjdgaaGreatDoor
open Go.RowKit
theorem g_mixed : Tryz.prog.follows .mixedOrders = true := by kernel_rfl
theorem cf14 : CF Tryz.prog 14 := ⟨⟨_, Tryz.func14, rfl, by kernel_rfl⟩⟩
theorem cf15 : CF Tryz.prog 15 := ⟨⟨_, Tryz.func15, rfl, by kernel_rfl⟩⟩
theorem cf16 : CF Tryz.prog 16 := ⟨⟨_, Tryz.func16, rfl, by kernel_rfl⟩⟩
theorem cf17 : CF Tryz.prog 17 := ⟨⟨_, Tryz.func17, rfl, by kernel_rfl⟩⟩
theorem cf18 : CF Tryz.prog 18 := ⟨⟨_, Tryz.func18, rfl, by kernel_rfl⟩⟩
theorem cf19 : CF Tryz.prog 19 := ⟨⟨_, Tryz.func19, rfl, by kernel_rfl⟩⟩
theorem cf20 : CF Tryz.prog 20 := ⟨⟨_, Tryz.func20, rfl, by kernel_rfl⟩⟩
theorem cf21 : CF Tryz.prog 21 := ⟨⟨_, Tryz.func21, rfl, by kernel_rfl⟩⟩
theorem cf22 : CF Tryz.prog 22 := ⟨⟨_, Tryz.func22, rfl, by kernel_rfl⟩⟩
theorem cf23 : CF Tryz.prog 23 := ⟨⟨_, Tryz.func23, rfl, by kernel_rfl⟩⟩
theorem cf24 : CF Tryz.prog 24 := ⟨⟨_, Tryz.func24, rfl, by kernel_rfl⟩⟩
theorem cf25 : CF Tryz.prog 25 := ⟨⟨_, Tryz.func25, rfl, by kernel_rfl⟩⟩
theorem cf26 : CF Tryz.prog 26 := ⟨⟨_, Tryz.func26, rfl, by kernel_rfl⟩⟩
theorem cf27 : CF Tryz.prog 27 := ⟨⟨_, Tryz.func27, rfl, by kernel_rfl⟩⟩
theorem cf28 : CF Tryz.prog 28 := ⟨⟨_, Tryz.func28, rfl, by kernel_rfl⟩⟩
theorem cf29 : CF Tryz.prog 29 := ⟨⟨_, Tryz.func29, rfl, by kernel_rfl⟩⟩
theorem cf30 : CF Tryz.prog 30 := ⟨⟨_, Tryz.func30, rfl, by kernel_rfl⟩⟩
theorem cf31 : CF Tryz.prog 31 := ⟨⟨_, Tryz.func31, rfl, by kernel_rfl⟩⟩
theorem cf38 : CF Tryz.prog 38 := ⟨⟨_, Tryz.func38, rfl, by kernel_rfl⟩⟩
theorem cf39 : CF Tryz.prog 39 := ⟨⟨_, Tryz.func39, rfl, by kernel_rfl⟩⟩
theorem cf40 : CF Tryz.prog 40 := ⟨⟨_, Tryz.func40, rfl, by kernel_rfl⟩⟩
theorem cf41 : CF Tryz.prog 41 := ⟨⟨_, Tryz.func41, rfl, by kernel_rfl⟩⟩
theorem cf42 : CF Tryz.prog 42 := ⟨⟨_, Tryz.func42, rfl, by kernel_rfl⟩⟩
theorem cf43 : CF Tryz.prog 43 := ⟨⟨_, Tryz.func43, rfl, by kernel_rfl⟩⟩
theorem cf44 : CF Tryz.prog 44 := ⟨⟨_, Tryz.func44, rfl, by kernel_rfl⟩⟩
theorem cf45 : CF Tryz.prog 45 := ⟨⟨_, Tryz.func45, rfl, by kernel_rfl⟩⟩
theorem cf46 : CF Tryz.prog 46 := ⟨⟨_, Tryz.func46, rfl, by kernel_rfl⟩⟩
theorem cf47 : CF Tryz.prog 47 := ⟨⟨_, Tryz.func47, rfl, by kernel_rfl⟩⟩
theorem cf48 : CF Tryz.prog 48 := ⟨⟨_, Tryz.func48, rfl, by kernel_rfl⟩⟩
theorem cf49 : CF Tryz.prog 49 := ⟨⟨_, Tryz.func49, rfl, by kernel_rfl⟩⟩
theorem cf50 : CF Tryz.prog 50 := ⟨⟨_, Tryz.func50, rfl, by kernel_rfl⟩⟩
theorem cf51 : CF Tryz.prog 51 := ⟨⟨_, Tryz.func51, rfl, by kernel_rfl⟩⟩
theorem cf52 : CF Tryz.prog 52 := ⟨⟨_, Tryz.func52, rfl, by kernel_rfl⟩⟩
theorem cf53 : CF Tryz.prog 53 := ⟨⟨_, Tryz.func53, rfl, by kernel_rfl⟩⟩
theorem cf54 : CF Tryz.prog 54 := ⟨⟨_, Tryz.func54, rfl, by kernel_rfl⟩⟩
theorem cf55 : CF Tryz.prog 55 := ⟨⟨_, Tryz.func55, rfl, by kernel_rfl⟩⟩
theorem cf56 : CF Tryz.prog 56 := ⟨⟨_, Tryz.func56, rfl, by kernel_rfl⟩⟩
theorem cf57 : CF Tryz.prog 57 := ⟨⟨_, Tryz.func57, rfl, by kernel_rfl⟩⟩
theorem cf58 : CF Tryz.prog 58 := ⟨⟨_, Tryz.func58, rfl, by kernel_rfl⟩⟩
theorem cf59 : CF Tryz.prog 59 := ⟨⟨_, Tryz.func59, rfl, by kernel_rfl⟩⟩
theorem cf60 : CF Tryz.prog 60 := ⟨⟨_, Tryz.func60, rfl, by kernel_rfl⟩⟩
theorem cf61 : CF Tryz.prog 61 := ⟨⟨_, Tryz.func61, rfl, by kernel_rfl⟩⟩
theorem cf62 : CF Tryz.prog 62 := ⟨⟨_, Tryz.func62, rfl, by kernel_rfl⟩⟩
theorem cf63 : CF Tryz.prog 63 := ⟨⟨_, Tryz.func63, rfl, by kernel_rfl⟩⟩
theorem cf64 : CF Tryz.prog 64 := ⟨⟨_, Tryz.func64, rfl, by kernel_rfl⟩⟩
theorem cf65 : CF Tryz.prog 65 := ⟨⟨_, Tryz.func65, rfl, by kernel_rfl⟩⟩
theorem cf66 : CF Tryz.prog 66 := ⟨⟨_, Tryz.func66, rfl, by kernel_rfl⟩⟩
theorem cf67 : CF Tryz.prog 67 := ⟨⟨_, Tryz.func67, rfl, by kernel_rfl⟩⟩
theorem cf68 : CF Tryz.prog 68 := ⟨⟨_, Tryz.func68, rfl, by kernel_rfl⟩⟩
theorem cf69 : CF Tryz.prog 69 := ⟨⟨_, Tryz.func69, rfl, by kernel_rfl⟩⟩
theorem cf70 : CF Tryz.prog 70 := ⟨⟨_, Tryz.func70, rfl, by kernel_rfl⟩⟩
theorem cf71 : CF Tryz.prog 71 := ⟨⟨_, Tryz.func71, rfl, by kernel_rfl⟩⟩
theorem cf72 : CF Tryz.prog 72 := ⟨⟨_, Tryz.func72, rfl, by kernel_rfl⟩⟩
theorem cf73 : CF Tryz.prog 73 := ⟨⟨_, Tryz.func73, rfl, by kernel_rfl⟩⟩
theorem cf74 : CF Tryz.prog 74 := ⟨⟨_, Tryz.func74, rfl, by kernel_rfl⟩⟩
theorem cf75 : CF Tryz.prog 75 := ⟨⟨_, Tryz.func75, rfl, by kernel_rfl⟩⟩
theorem cf76 : CF Tryz.prog 76 := ⟨⟨_, Tryz.func76, rfl, by kernel_rfl⟩⟩
theorem cf77 : CF Tryz.prog 77 := ⟨⟨_, Tryz.func77, rfl, by kernel_rfl⟩⟩
theorem cf78 : CF Tryz.prog 78 := ⟨⟨_, Tryz.func78, rfl, by kernel_rfl⟩⟩
theorem cf79 : CF Tryz.prog 79 := ⟨⟨_, Tryz.func79, rfl, by kernel_rfl⟩⟩
theorem cf80 : CF Tryz.prog 80 := ⟨⟨_, Tryz.func80, rfl, by kernel_rfl⟩⟩
theorem cf81 : CF Tryz.prog 81 := ⟨⟨_, Tryz.func81, rfl, by kernel_rfl⟩⟩
theorem cf82 : CF Tryz.prog 82 := ⟨⟨_, Tryz.func82, rfl, by kernel_rfl⟩⟩
theorem cf83 : CF Tryz.prog 83 := ⟨⟨_, Tryz.func83, rfl, by kernel_rfl⟩⟩
theorem cf84 : CF Tryz.prog 84 := ⟨⟨_, Tryz.func84, rfl, by kernel_rfl⟩⟩
theorem cf85 : CF Tryz.prog 85 := ⟨⟨_, Tryz.func85, rfl, by kernel_rfl⟩⟩
theorem cf86 : CF Tryz.prog 86 := ⟨⟨_, Tryz.func86, rfl, by kernel_rfl⟩⟩
theorem cf87 : CF Tryz.prog 87 := ⟨⟨_, Tryz.func87, rfl, by kernel_rfl⟩⟩
theorem cf88 : CF Tryz.prog 88 := ⟨⟨_, Tryz.func88, rfl, by kernel_rfl⟩⟩
theorem cf89 : CF Tryz.prog 89 := ⟨⟨_, Tryz.func89, rfl, by kernel_rfl⟩⟩
theorem cf90 : CF Tryz.prog 90 := ⟨⟨_, Tryz.func90, rfl, by kernel_rfl⟩⟩
theorem cf91 : CF Tryz.prog 91 := ⟨⟨_, Tryz.func91, rfl, by kernel_rfl⟩⟩
theorem cf92 : CF Tryz.prog 92 := ⟨⟨_, Tryz.func92, rfl, by kernel_rfl⟩⟩
theorem cf93 : CF Tryz.prog 93 := ⟨⟨_, Tryz.func93, rfl, by kernel_rfl⟩⟩
theorem cf94 : CF Tryz.prog 94 := ⟨⟨_, Tryz.func94, rfl, by kernel_rfl⟩⟩
theorem cf95 : CF Tryz.prog 95 := ⟨⟨_, Tryz.func95, rfl, by kernel_rfl⟩⟩
theorem cf96 : CF Tryz.prog 96 := ⟨⟨_, Tryz.func96, rfl, by kernel_rfl⟩⟩
theorem cf97 : CF Tryz.prog 97 := ⟨⟨_, Tryz.func97, rfl, by kernel_rfl⟩⟩
theorem cf98 : CF Tryz.prog 98 := ⟨⟨_, Tryz.func98, rfl, by kernel_rfl⟩⟩
theorem cf104 : CF Tryz.prog 104 := ⟨⟨_, Tryz.func104, rfl, by kernel_rfl⟩⟩
theorem cf106 : CF Tryz.prog 106 := ⟨⟨_, Tryz.func106, rfl, by kernel_rfl⟩⟩
theorem cf107 : CF Tryz.prog 107 := ⟨⟨_, Tryz.func107, rfl, by kernel_rfl⟩⟩
theorem cf112 : CF Tryz.prog 112 := ⟨⟨_, Tryz.func112, rfl, by kernel_rfl⟩⟩
theorem cf113 : CF Tryz.prog 113 := ⟨⟨_, Tryz.func113, rfl, by kernel_rfl⟩⟩
theorem cf114 : CF Tryz.prog 114 := ⟨⟨_, Tryz.func114, rfl, by kernel_rfl⟩⟩
theorem cf115 : CF Tryz.prog 115 := ⟨⟨_, Tryz.func115, rfl, by kernel_rfl⟩⟩
theorem cf116 : CF Tryz.prog 116 := ⟨⟨_, Tryz.func116, rfl, by kernel_rfl⟩⟩
theorem cf117 : CF Tryz.prog 117 := ⟨⟨_, Tryz.func117, rfl, by kernel_rfl⟩⟩
theorem cf118 : CF Tryz.prog 118 := ⟨⟨_, Tryz.func118, rfl, by kernel_rfl⟩⟩
theorem cf119 : CF Tryz.prog 119 := ⟨⟨_, Tryz.func119, rfl, by kernel_rfl⟩⟩
theorem cf120 : CF Tryz.prog 120 := ⟨⟨_, Tryz.func120, rfl, by kernel_rfl⟩⟩
theorem cf121 : CF Tryz.prog 121 := ⟨⟨_, Tryz.func121, rfl, by kernel_rfl⟩⟩
theorem cf122 : CF Tryz.prog 122 := ⟨⟨_, Tryz.func122, rfl, by kernel_rfl⟩⟩
theorem cf123 : CF Tryz.prog 123 := ⟨⟨_, Tryz.func123, rfl, by kernel_rfl⟩⟩
theorem cf124 : CF Tryz.prog 124 := ⟨⟨_, Tryz.func124, rfl, by kernel_rfl⟩⟩
theorem cf125 : CF Tryz.prog 125 := ⟨⟨_, Tryz.func125, rfl, by kernel_rfl⟩⟩
theorem cf126 : CF Tryz.prog 126 := ⟨⟨_, Tryz.func126, rfl, by kernel_rfl⟩⟩
theorem cf127 : CF Tryz.prog 127 := ⟨⟨_, Tryz.func127, rfl, by kernel_rfl⟩⟩
theorem cf128 : CF Tryz.prog 128 := ⟨⟨_, Tryz.func128, rfl, by kernel_rfl⟩⟩
theorem cf129 : CF Tryz.prog 129 := ⟨⟨_, Tryz.func129, rfl, by kernel_rfl⟩⟩
theorem cf130 : CF Tryz.prog 130 := ⟨⟨_, Tryz.func130, rfl, by kernel_rfl⟩⟩
theorem cf131 : CF Tryz.prog 131 := ⟨⟨_, Tryz.func131, rfl, by kernel_rfl⟩⟩
theorem cf132 : CF Tryz.prog 132 := ⟨⟨_, Tryz.func132, rfl, by kernel_rfl⟩⟩
theorem cf133 : CF Tryz.prog 133 := ⟨⟨_, Tryz.func133, rfl, by kernel_rfl⟩⟩
theorem cf134 : CF Tryz.prog 134 := ⟨⟨_, Tryz.func134, rfl, by kernel_rfl⟩⟩
theorem cf135 : CF Tryz.prog 135 := ⟨⟨_, Tryz.func135, rfl, by kernel_rfl⟩⟩
theorem cf136 : CF Tryz.prog 136 := ⟨⟨_, Tryz.func136, rfl, by kernel_rfl⟩⟩
theorem cf137 : CF Tryz.prog 137 := ⟨⟨_, Tryz.func137, rfl, by kernel_rfl⟩⟩
theorem cf138 : CF Tryz.prog 138 := ⟨⟨_, Tryz.func138, rfl, by kernel_rfl⟩⟩
theorem cf139 : CF Tryz.prog 139 := ⟨⟨_, Tryz.func139, rfl, by kernel_rfl⟩⟩
theorem cf140 : CF Tryz.prog 140 := ⟨⟨_, Tryz.func140, rfl, by kernel_rfl⟩⟩
theorem cf141 : CF Tryz.prog 141 := ⟨⟨_, Tryz.func141, rfl, by kernel_rfl⟩⟩
theorem cf142 : CF Tryz.prog 142 := ⟨⟨_, Tryz.func142, rfl, by kernel_rfl⟩⟩
theorem cf143 : CF Tryz.prog 143 := ⟨⟨_, Tryz.func143, rfl, by kernel_rfl⟩⟩
theorem cf144 : CF Tryz.prog 144 := ⟨⟨_, Tryz.func144, rfl, by kernel_rfl⟩⟩
theorem cf145 : CF Tryz.prog 145 := ⟨⟨_, Tryz.func145, rfl, by kernel_rfl⟩⟩
theorem cf146 : CF Tryz.prog 146 := ⟨⟨_, Tryz.func146, rfl, by kernel_rfl⟩⟩
theorem cf147 : CF Tryz.prog 147 := ⟨⟨_, Tryz.func147, rfl, by kernel_rfl⟩⟩
theorem cf148 : CF Tryz.prog 148 := ⟨⟨_, Tryz.func148, rfl, by kernel_rfl⟩⟩
theorem cf149 : CF Tryz.prog 149 := ⟨⟨_, Tryz.func149, rfl, by kernel_rfl⟩⟩
theorem cf150 : CF Tryz.prog 150 := ⟨⟨_, Tryz.func150, rfl, by kernel_rfl⟩⟩
theorem cf151 : CF Tryz.prog 151 := ⟨⟨_, Tryz.func151, rfl, by kernel_rfl⟩⟩
theorem cf152 : CF Tryz.prog 152 := ⟨⟨_, Tryz.func152, rfl, by kernel_rfl⟩⟩
theorem cf153 : CF Tryz.prog 153 := ⟨⟨_, Tryz.func153, rfl, by kernel_rfl⟩⟩
theorem cf154 : CF Tryz.prog 154 := ⟨⟨_, Tryz.func154, rfl, by kernel_rfl⟩⟩
theorem cf155 : CF Tryz.prog 155 := ⟨⟨_, Tryz.func155, rfl, by kernel_rfl⟩⟩
theorem cf156 : CF Tryz.prog 156 := ⟨⟨_, Tryz.func156, rfl, by kernel_rfl⟩⟩
theorem cf157 : CF Tryz.prog 157 := ⟨⟨_, Tryz.func157, rfl, by kernel_rfl⟩⟩
theorem cf158 : CF Tryz.prog 158 := ⟨⟨_, Tryz.func158, rfl, by kernel_rfl⟩⟩
theorem cf159 : CF Tryz.prog 159 := ⟨⟨_, Tryz.func159, rfl, by kernel_rfl⟩⟩
theorem cf160 : CF Tryz.prog 160 := ⟨⟨_, Tryz.func160, rfl, by kernel_rfl⟩⟩
theorem cf161 : CF Tryz.prog 161 := ⟨⟨_, Tryz.func161, rfl, by kernel_rfl⟩⟩
theorem cf162 : CF Tryz.prog 162 := ⟨⟨_, Tryz.func162, rfl, by kernel_rfl⟩⟩
theorem cf163 : CF Tryz.prog 163 := ⟨⟨_, Tryz.func163, rfl, by kernel_rfl⟩⟩
theorem cf164 : CF Tryz.prog 164 := ⟨⟨_, Tryz.func164, rfl, by kernel_rfl⟩⟩
theorem cf165 : CF Tryz.prog 165 := ⟨⟨_, Tryz.func165, rfl, by kernel_rfl⟩⟩
theorem cf166 : CF Tryz.prog 166 := ⟨⟨_, Tryz.func166, rfl, by kernel_rfl⟩⟩
theorem cf167 : CF Tryz.prog 167 := ⟨⟨_, Tryz.func167, rfl, by kernel_rfl⟩⟩
theorem cf168 : CF Tryz.prog 168 := ⟨⟨_, Tryz.func168, rfl, by kernel_rfl⟩⟩
theorem cf169 : CF Tryz.prog 169 := ⟨⟨_, Tryz.func169, rfl, by kernel_rfl⟩⟩
theorem cf170 : CF Tryz.prog 170 := ⟨⟨_, Tryz.func170, rfl, by kernel_rfl⟩⟩
theorem cf171 : CF Tryz.prog 171 := ⟨⟨_, Tryz.func171, rfl, by kernel_rfl⟩⟩
theorem cf172 : CF Tryz.prog 172 := ⟨⟨_, Tryz.func172, rfl, by kernel_rfl⟩⟩
theorem cf173 : CF Tryz.prog 173 := ⟨⟨_, Tryz.func173, rfl, by kernel_rfl⟩⟩
theorem cf174 : CF Tryz.prog 174 := ⟨⟨_, Tryz.func174, rfl, by kernel_rfl⟩⟩
theorem cf175 : CF Tryz.prog 175 := ⟨⟨_, Tryz.func175, rfl, by kernel_rfl⟩⟩
theorem cf176 : CF Tryz.prog 176 := ⟨⟨_, Tryz.func176, rfl, by kernel_rfl⟩⟩
theorem cf177 : CF Tryz.prog 177 := ⟨⟨_, Tryz.func177, rfl, by kernel_rfl⟩⟩
theorem cf178 : CF Tryz.prog 178 := ⟨⟨_, Tryz.func178, rfl, by kernel_rfl⟩⟩
theorem cf181 : CF Tryz.prog 181 := ⟨⟨_, Tryz.func181, rfl, by kernel_rfl⟩⟩
theorem cf182 : CF Tryz.prog 182 := ⟨⟨_, Tryz.func182, rfl, by kernel_rfl⟩⟩
theorem cf187 : CF Tryz.prog 187 := ⟨⟨_, Tryz.func187, rfl, by kernel_rfl⟩⟩
theorem cf190 : CF Tryz.prog 190 := ⟨⟨_, Tryz.func190, rfl, by kernel_rfl⟩⟩
theorem cf191 : CF Tryz.prog 191 := ⟨⟨_, Tryz.func191, rfl, by kernel_rfl⟩⟩
theorem cf192 : CF Tryz.prog 192 := ⟨⟨_, Tryz.func192, rfl, by kernel_rfl⟩⟩
theorem cf193 : CF Tryz.prog 193 := ⟨⟨_, Tryz.func193, rfl, by kernel_rfl⟩⟩
theorem cf194 : CF Tryz.prog 194 := ⟨⟨_, Tryz.func194, rfl, by kernel_rfl⟩⟩
theorem cf196 : CF Tryz.prog 196 := ⟨⟨_, Tryz.func196, rfl, by kernel_rfl⟩⟩
theorem cf197 : CF Tryz.prog 197 := ⟨⟨_, Tryz.func197, rfl, by kernel_rfl⟩⟩
theorem cf198 : CF Tryz.prog 198 := ⟨⟨_, Tryz.func198, rfl, by kernel_rfl⟩⟩
theorem cf199 : CF Tryz.prog 199 := ⟨⟨_, Tryz.func199, rfl, by kernel_rfl⟩⟩
theorem cf200 : CF Tryz.prog 200 := ⟨⟨_, Tryz.func200, rfl, by kernel_rfl⟩⟩
theorem cf201 : CF Tryz.prog 201 := ⟨⟨_, Tryz.func201, rfl, by kernel_rfl⟩⟩
theorem cf202 : CF Tryz.prog 202 := ⟨⟨_, Tryz.func202, rfl, by kernel_rfl⟩⟩
theorem cf203 : CF Tryz.prog 203 := ⟨⟨_, Tryz.func203, rfl, by kernel_rfl⟩⟩
theorem cf204 : CF Tryz.prog 204 := ⟨⟨_, Tryz.func204, rfl, by kernel_rfl⟩⟩
theorem cf205 : CF Tryz.prog 205 := ⟨⟨_, Tryz.func205, rfl, by kernel_rfl⟩⟩
theorem cf206 : CF Tryz.prog 206 := ⟨⟨_, Tryz.func206, rfl, by kernel_rfl⟩⟩
theorem cf207 : CF Tryz.prog 207 := ⟨⟨_, Tryz.func207, rfl, by kernel_rfl⟩⟩
theorem cf208 : CF Tryz.prog 208 := ⟨⟨_, Tryz.func208, rfl, by kernel_rfl⟩⟩
theorem cf215 : CF Tryz.prog 215 := ⟨⟨_, Tryz.func215, rfl, by kernel_rfl⟩⟩
theorem cf216 : CF Tryz.prog 216 := ⟨⟨_, Tryz.func216, rfl, by kernel_rfl⟩⟩
theorem sl22 : SlT Tryz.prog Int 22 3 8 (0 : Int) := SlT.mk' (zv := .int .i64 0) Tryz.underlying22 (by kernel_rfl) rfl (by decide)
theorem sl37 : SlT Tryz.prog F 37 127 40 (⟨false, (⟨0, 0⟩ : K), 0, 0⟩ : F) := SlT.mk' (zv := .agg #[.bool false, .int .i64 0, .int .i64 0, .int .i64 0, .int .i64 0]) Tryz.underlying37 (by kernel_rfl) rfl (by decide)
theorem sl40 : SlT Tryz.prog Ln 40 112 48 (⟨false, 0, 0, 0, 0, false⟩ : Ln) := SlT.mk' (zv := .agg #[.bool false, .int .i64 0, .int .i64 0, .int .i64 0, .int .i64 0, .bool false]) Tryz.underlying40 (by kernel_rfl) rfl (by decide)
theorem sl43 : SlT Tryz.prog Ow 43 148 16 (⟨0, 0⟩ : Ow) := SlT.mk' (zv := .agg #[.int .i64 0, .int .i64 0]) Tryz.underlying43 (by kernel_rfl) rfl (by decide)
theorem sl66 : SlT Tryz.prog Bool 66 4 1 false := SlT.mk' (zv := .bool false) Tryz.underlying66 (by kernel_rfl) rfl (by decide)
theorem te51 : TyEq Tryz.prog 51 K := ⟨fun w x y => by
  rw [beqK]
  show (Op.equalIn (9996 + 1 + 1 + 1 + 1) 51 (.agg #[.int .i64 x.s, .int .i64 x.p]) (.agg #[.int .i64 y.s, .int .i64 y.p])).run _ w = _
  generalize 9996 = d
  go_simp
  (repeat' split) <;> simp_all, by kernel_rfl⟩
theorem te112 : TyEq Tryz.prog 112 Ln := ⟨fun w x y => by
  rw [beqLn]
  show (Op.equalIn (9996 + 1 + 1 + 1 + 1) 112 (.agg #[.bool x.va, .int .i64 x.tg, .int .i64 x.pg, .int .i64 x.fr, .int .i64 x.ri, .bool x.wi]) (.agg #[.bool y.va, .int .i64 y.tg, .int .i64 y.pg, .int .i64 y.fr, .int .i64 y.ri, .bool y.wi])).run _ w = _
  generalize 9996 = d
  go_simp
  (repeat' split) <;> simp_all, by kernel_rfl⟩
theorem ts3 : TyS Tryz.prog 3 1 false := ⟨⟨_, Tryz.underlying3, rfl⟩, by kernel_rfl⟩
theorem ts4 : TyS Tryz.prog 4 1 false := ⟨⟨_, Tryz.underlying4, rfl⟩, by kernel_rfl⟩
theorem ts22 : TyS Tryz.prog 22 1 false := ⟨⟨_, Tryz.underlying22, rfl⟩, by kernel_rfl⟩
theorem ts23 : TyS Tryz.prog 23 1 false := ⟨⟨_, Tryz.underlying23, rfl⟩, by kernel_rfl⟩
theorem ts25 : TyS Tryz.prog 25 2 true := ⟨⟨_, Tryz.underlying25, rfl⟩, by kernel_rfl⟩
theorem ts26 : TyS Tryz.prog 26 1 false := ⟨⟨_, Tryz.underlying26, rfl⟩, by kernel_rfl⟩
theorem ts28 : TyS Tryz.prog 28 2 true := ⟨⟨_, Tryz.underlying28, rfl⟩, by kernel_rfl⟩
theorem ts29 : TyS Tryz.prog 29 1 false := ⟨⟨_, Tryz.underlying29, rfl⟩, by kernel_rfl⟩
theorem ts31 : TyS Tryz.prog 31 4 true := ⟨⟨_, Tryz.underlying31, rfl⟩, by kernel_rfl⟩
theorem ts33 : TyS Tryz.prog 33 9 true := ⟨⟨_, Tryz.underlying33, rfl⟩, by kernel_rfl⟩
theorem ts35 : TyS Tryz.prog 35 2 true := ⟨⟨_, Tryz.underlying35, rfl⟩, by kernel_rfl⟩
theorem ts37 : TyS Tryz.prog 37 1 false := ⟨⟨_, Tryz.underlying37, rfl⟩, by kernel_rfl⟩
theorem ts39 : TyS Tryz.prog 39 2 true := ⟨⟨_, Tryz.underlying39, rfl⟩, by kernel_rfl⟩
theorem ts40 : TyS Tryz.prog 40 1 false := ⟨⟨_, Tryz.underlying40, rfl⟩, by kernel_rfl⟩
theorem ts42 : TyS Tryz.prog 42 2 true := ⟨⟨_, Tryz.underlying42, rfl⟩, by kernel_rfl⟩
theorem ts43 : TyS Tryz.prog 43 1 false := ⟨⟨_, Tryz.underlying43, rfl⟩, by kernel_rfl⟩
theorem ts45 : TyS Tryz.prog 45 4 true := ⟨⟨_, Tryz.underlying45, rfl⟩, by kernel_rfl⟩
theorem ts47 : TyS Tryz.prog 47 9 true := ⟨⟨_, Tryz.underlying47, rfl⟩, by kernel_rfl⟩
theorem ts51 : TyS Tryz.prog 51 2 true := ⟨⟨_, Tryz.underlying51, rfl⟩, by kernel_rfl⟩
theorem ts66 : TyS Tryz.prog 66 1 false := ⟨⟨_, Tryz.underlying66, rfl⟩, by kernel_rfl⟩
theorem ts68 : TyS Tryz.prog 68 11 true := ⟨⟨_, Tryz.underlying68, rfl⟩, by kernel_rfl⟩
theorem ts83 : TyS Tryz.prog 83 11 true := ⟨⟨_, Tryz.underlying83, rfl⟩, by kernel_rfl⟩
theorem ts112 : TyS Tryz.prog 112 6 true := ⟨⟨_, Tryz.underlying112, rfl⟩, by kernel_rfl⟩
theorem ts127 : TyS Tryz.prog 127 5 true := ⟨⟨_, Tryz.underlying127, rfl⟩, by kernel_rfl⟩
theorem ts148 : TyS Tryz.prog 148 2 true := ⟨⟨_, Tryz.underlying148, rfl⟩, by kernel_rfl⟩
theorem ts202 : TyS Tryz.prog 202 5 true := ⟨⟨_, Tryz.underlying202, rfl⟩, by kernel_rfl⟩
theorem ts204 : TyS Tryz.prog 204 6 true := ⟨⟨_, Tryz.underlying204, rfl⟩, by kernel_rfl⟩
theorem ts206 : TyS Tryz.prog 206 2 true := ⟨⟨_, Tryz.underlying206, rfl⟩, by kernel_rfl⟩
theorem tz3 : TyZ Tryz.prog 3 (.int .i64 0) := ⟨by kernel_rfl⟩
theorem tz4 : TyZ Tryz.prog 4 (.bool false) := ⟨by kernel_rfl⟩
theorem tz39 : TyZ Tryz.prog 39 (.agg #[.slice none 0 0, .slice none 0 0]) := ⟨by kernel_rfl⟩
theorem tz42 : TyZ Tryz.prog 42 (.agg #[.slice none 0 0, .int .i64 0]) := ⟨by kernel_rfl⟩
theorem tz45 : TyZ Tryz.prog 45 (.agg #[.int .i64 0, .int .i64 0, .int .i64 0, .slice none 0 0]) := ⟨by kernel_rfl⟩
theorem tz47 : TyZ Tryz.prog 47 (.agg #[.slice none 0 0, .slice none 0 0, .slice none 0 0, .int .i64 0, .int .i64 0, .int .i64 0, .int .i64 0, .slice none 0 0, .int .i64 0]) := ⟨by kernel_rfl⟩
theorem tz51 : TyZ Tryz.prog 51 (.agg #[.int .i64 0, .int .i64 0]) := ⟨by kernel_rfl⟩
theorem tz68 : TyZ Tryz.prog 68 (.agg #[.slice none 0 0, .slice none 0 0, .slice none 0 0, .int .i64 0, .int .i64 0, .int .i64 0, .int .i64 0, .slice none 0 0, .int .i64 0, .slice none 0 0, .int .i64 0]) := ⟨by kernel_rfl⟩
theorem tz112 : TyZ Tryz.prog 112 (.agg #[.bool false, .int .i64 0, .int .i64 0, .int .i64 0, .int .i64 0, .bool false]) := ⟨by kernel_rfl⟩
theorem tz127 : TyZ Tryz.prog 127 (.agg #[.bool false, .int .i64 0, .int .i64 0, .int .i64 0, .int .i64 0]) := ⟨by kernel_rfl⟩
theorem tz148 : TyZ Tryz.prog 148 (.agg #[.int .i64 0, .int .i64 0]) := ⟨by kernel_rfl⟩
set_option maxRecDepth 100000 in
theorem bt112_0  : Tryz.prog.built 112 [] = some #[.bool false, .int .i64 0, .int .i64 0, .int .i64 0, .int .i64 0, .bool false] := by kernel_rfl
set_option maxRecDepth 100000 in
theorem bt51_1 {a0 : Int} : Tryz.prog.built 51 [(1, .int .i64 a0)] = some #[.int .i64 0, .int .i64 a0] := by kernel_rfl
set_option maxRecDepth 100000 in
theorem bt51_2 {a0 : Int} {a1 : Int} : Tryz.prog.built 51 [(0, .int .i64 a0), (1, .int .i64 a1)] = some #[.int .i64 a0, .int .i64 a1] := by kernel_rfl
set_option maxRecDepth 100000 in
theorem bt47_3  : Tryz.prog.built 47 [] = some #[.slice none 0 0, .slice none 0 0, .slice none 0 0, .int .i64 0, .int .i64 0, .int .i64 0, .int .i64 0, .slice none 0 0, .int .i64 0] := by kernel_rfl
set_option maxRecDepth 100000 in
theorem bt39_4  : Tryz.prog.built 39 [] = some #[.slice none 0 0, .slice none 0 0] := by kernel_rfl
set_option maxRecDepth 100000 in
theorem bt39_5 {p0 : Option Addr} {n0 c0 : Nat} {p1 : Option Addr} {n1 c1 : Nat} : Tryz.prog.built 39 [(0, .slice p0 n0 c0), (1, .slice p1 n1 c1)] = some #[.slice p0 n0 c0, .slice p1 n1 c1] := by kernel_rfl
set_option maxRecDepth 100000 in
theorem bt127_6 {a0 : Bool} {a1 : Int} {a2 : Int} {a3 : Int} {a4 : Int} : Tryz.prog.built 127 [(0, .bool a0), (1, .agg #[.int .i64 a1, .int .i64 a2]), (2, .int .i64 a3), (3, .int .i64 a4)] = some #[.bool a0, .int .i64 a1, .int .i64 a2, .int .i64 a3, .int .i64 a4] := by kernel_rfl
set_option maxRecDepth 100000 in
theorem bt42_7 {p0 : Option Addr} {n0 c0 : Nat} {a1 : Int} : Tryz.prog.built 42 [(0, .slice p0 n0 c0), (1, .int .i64 a1)] = some #[.slice p0 n0 c0, .int .i64 a1] := by kernel_rfl
set_option maxRecDepth 100000 in
theorem bt45_8 {a0 : Int} {a1 : Int} {a2 : Int} {p3 : Option Addr} {n3 c3 : Nat} : Tryz.prog.built 45 [(0, .int .i64 a0), (1, .int .i64 a1), (2, .int .i64 a2), (3, .slice p3 n3 c3)] = some #[.int .i64 a0, .int .i64 a1, .int .i64 a2, .slice p3 n3 c3] := by kernel_rfl
set_option maxRecDepth 100000 in
theorem bt47_9 {p0 : Option Addr} {n0 c0 : Nat} {p1 : Option Addr} {n1 c1 : Nat} {p2 : Option Addr} {n2 c2 : Nat} {a3 : Int} {a4 : Int} {a5 : Int} {a6 : Int} {p7 : Option Addr} {n7 c7 : Nat} {a8 : Int} : Tryz.prog.built 47 [(0, .agg #[.slice p0 n0 c0, .slice p1 n1 c1]), (1, .agg #[.slice p2 n2 c2, .int .i64 a3]), (2, .agg #[.int .i64 a4, .int .i64 a5, .int .i64 a6, .slice p7 n7 c7]), (3, .int .i64 a8)] = some #[.slice p0 n0 c0, .slice p1 n1 c1, .slice p2 n2 c2, .int .i64 a3, .int .i64 a4, .int .i64 a5, .int .i64 a6, .slice p7 n7 c7, .int .i64 a8] := by kernel_rfl
set_option maxRecDepth 100000 in
theorem bt45_10  : Tryz.prog.built 45 [] = some #[.int .i64 0, .int .i64 0, .int .i64 0, .slice none 0 0] := by kernel_rfl
set_option maxRecDepth 100000 in
theorem bt45_11 {a0 : Int} {a1 : Int} {p2 : Option Addr} {n2 c2 : Nat} : Tryz.prog.built 45 [(0, .int .i64 a0), (2, .int .i64 a1), (3, .slice p2 n2 c2)] = some #[.int .i64 a0, .int .i64 0, .int .i64 a1, .slice p2 n2 c2] := by kernel_rfl
set_option maxRecDepth 100000 in
theorem bt148_12 {a0 : Int} {a1 : Int} : Tryz.prog.built 148 [(0, .int .i64 a0), (1, .int .i64 a1)] = some #[.int .i64 a0, .int .i64 a1] := by kernel_rfl
set_option maxRecDepth 100000 in
theorem bt45_13 {a0 : Int} {a1 : Int} : Tryz.prog.built 45 [(0, .int .i64 a0), (2, .int .i64 a1)] = some #[.int .i64 a0, .int .i64 0, .int .i64 a1, .slice none 0 0] := by kernel_rfl
set_option maxRecDepth 100000 in
theorem bt42_14  : Tryz.prog.built 42 [] = some #[.slice none 0 0, .int .i64 0] := by kernel_rfl
set_option maxRecDepth 100000 in
theorem bt127_15 {a0 : Int} : Tryz.prog.built 127 [(3, .int .i64 a0)] = some #[.bool false, .int .i64 0, .int .i64 0, .int .i64 0, .int .i64 a0] := by kernel_rfl
set_option maxRecDepth 100000 in
theorem bt112_16 {a0 : Bool} {a1 : Int} {a2 : Int} {a3 : Int} {a4 : Int} : Tryz.prog.built 112 [(0, .bool a0), (1, .int .i64 a1), (2, .int .i64 a2), (3, .int .i64 a3), (4, .int .i64 a4)] = some #[.bool a0, .int .i64 a1, .int .i64 a2, .int .i64 a3, .int .i64 a4, .bool false] := by kernel_rfl
set_option maxRecDepth 100000 in
theorem bt112_17 {a0 : Bool} {a1 : Int} {a2 : Int} {a3 : Int} {a4 : Int} {a5 : Bool} : Tryz.prog.built 112 [(0, .bool a0), (1, .int .i64 a1), (2, .int .i64 a2), (3, .int .i64 a3), (4, .int .i64 a4), (5, .bool a5)] = some #[.bool a0, .int .i64 a1, .int .i64 a2, .int .i64 a3, .int .i64 a4, .bool a5] := by kernel_rfl
set_option maxRecDepth 100000 in
theorem bt68_18  : Tryz.prog.built 68 [] = some #[.slice none 0 0, .slice none 0 0, .slice none 0 0, .int .i64 0, .int .i64 0, .int .i64 0, .int .i64 0, .slice none 0 0, .int .i64 0, .slice none 0 0, .int .i64 0] := by kernel_rfl
set_option maxRecDepth 100000 in
theorem bt68_19 {p0 : Option Addr} {n0 c0 : Nat} {p1 : Option Addr} {n1 c1 : Nat} {p2 : Option Addr} {n2 c2 : Nat} {a3 : Int} {a4 : Int} {a5 : Int} {a6 : Int} {p7 : Option Addr} {n7 c7 : Nat} {a8 : Int} {p9 : Option Addr} {n9 c9 : Nat} : Tryz.prog.built 68 [(0, .agg #[.slice p0 n0 c0, .slice p1 n1 c1, .slice p2 n2 c2, .int .i64 a3, .int .i64 a4, .int .i64 a5, .int .i64 a6, .slice p7 n7 c7, .int .i64 a8]), (1, .slice p9 n9 c9)] = some #[.slice p0 n0 c0, .slice p1 n1 c1, .slice p2 n2 c2, .int .i64 a3, .int .i64 a4, .int .i64 a5, .int .i64 a6, .slice p7 n7 c7, .int .i64 a8, .slice p9 n9 c9, .int .i64 0] := by kernel_rfl
set_option maxRecDepth 100000 in
theorem bt68_20 {p0 : Option Addr} {n0 c0 : Nat} {p1 : Option Addr} {n1 c1 : Nat} {p2 : Option Addr} {n2 c2 : Nat} {a3 : Int} {a4 : Int} {a5 : Int} {a6 : Int} {p7 : Option Addr} {n7 c7 : Nat} {a8 : Int} {p9 : Option Addr} {n9 c9 : Nat} {a10 : Int} : Tryz.prog.built 68 [(0, .agg #[.slice p0 n0 c0, .slice p1 n1 c1, .slice p2 n2 c2, .int .i64 a3, .int .i64 a4, .int .i64 a5, .int .i64 a6, .slice p7 n7 c7, .int .i64 a8]), (1, .slice p9 n9 c9), (2, .int .i64 a10)] = some #[.slice p0 n0 c0, .slice p1 n1 c1, .slice p2 n2 c2, .int .i64 a3, .int .i64 a4, .int .i64 a5, .int .i64 a6, .slice p7 n7 c7, .int .i64 a8, .slice p9 n9 c9, .int .i64 a10] := by kernel_rfl
end Go.Proofs.YtbgodaeccgjdgaaGreatDoor
