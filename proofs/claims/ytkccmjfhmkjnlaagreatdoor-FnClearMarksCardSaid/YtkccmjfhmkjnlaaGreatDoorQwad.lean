/- The walks: functions of the program return what their pure functions say. Printed by a program (gen.py). -/
import Derived.Test.YtkccmjfhmkjnlaaGreatDoorQp
import Derived.Test.YtkccmjfhmkjnlaaGreatDoorQt
import Derived.Test.YtkccmjfhmkjnlaaGreatDoorMan
import Derived.Test.YtkccmjfhmkjnlaaGreatDoorMap
import Derived.Test.YtkccmjfhmkjnlaaGreatDoorCpy
import Derived.Test.YtkccmjfhmkjnlaaGreatDoorQe
import Derived.Test.YtkccmjfhmkjnlaaGreatDoorQwab
import Derived.Test.YtkccmjfhmkjnlaaGreatDoorQwac
set_option linter.unusedSimpArgs false
set_option linter.unusedVariables false
set_option linter.unusedSectionVars false
namespace Go.Proofs.YtkccmjfhmkjnlaaGreatDoor
open Go.RowKit
set_option maxHeartbeats 4000000
set_option maxRecDepth 20000
variable {p0_0 p0_1 p0_2 p0_3 p0_4 : Option Addr} {n0_0 n0_1 n0_2 n0_3 n0_4 : Nat} {c0_0 c0_1 c0_2 c0_3 c0_4 : Nat}
theorem c_s_DrawClearMarks (fl : Nat) (w : World) (a0 : (List UInt8)) (hn0_0 : n0_0 = (a0).length) (hr0_0 : RO w (hkeys []) (RdL p0_0 c0_0 a0)) (r : Mm) (H0 : s_DrawClearMarks fl a0 = some r) :
  Ct Tryz.prog 6 [.slice p0_0 n0_0 c0_0] w [] (fun rv h' => ∃ (x0 : Option Addr) (y0 z0 : Nat) (C0 : Res) (x1 : Option Addr) (y1 z1 : Nat) (C1 : Res) (x2 : Option Addr) (y2 z2 : Nat) (C2 : Res) (x3 : Option Addr) (y3 z3 : Nat) (C3 : Res) (x4 : Option Addr) (y4 z4 : Nat) (C4 : Res), rv = .agg #[.slice x0 y0 z0, .slice x1 y1 z1, .slice x2 y2 z2, .int .i64 r.m.c.h, .int .i64 r.m.g.c, .int .i64 r.m.g.n, .int .i64 r.m.g.r, .slice x3 y3 z3, .int .i64 r.m.s, .slice x4 y4 z4, .int .i64 r.h] ∧ h' = [(0, C0), (1, C1), (2, C2), (3, C3), (4, C4)] ∧ y0 = (r.m.t.b).length ∧ OwnC 3 x0 z0 r.m.t.b C0 ∧ y1 = (r.m.t.f).length ∧ OwnC 51 x1 z1 r.m.t.f C1 ∧ y2 = (r.m.c.l).length ∧ OwnC 47 x2 z2 r.m.c.l C2 ∧ y3 = (r.m.g.o).length ∧ OwnC 89 x3 z3 r.m.g.o C3 ∧ y4 = (r.k).length ∧ OwnC 4 x4 z4 r.k C4) := by
 subst hn0_0
 unfold s_DrawClearMarks at H0
 refine ct_of_cw Tryz.func6 rfl Tryz.ntmps6 rfl (Sat.refl _ _) ?_
 refine sr (oE (stpU_alloc 0 tz37 rfl) rfl ?_)
 rintro _ _ ⟨b1, rfl, rfl⟩
 obtain ⟨x2, e2, H0⟩ := bS H0
 refine nn (sr (oM rfl (oE (stpU_call (fun i => 1 + i) cf16 (fun w hw => c_s_l7Case fl w a0 rfl (RO.pass hr0_0 hw) x2 e2) (yA rfl)) rfl ?_)))
 rintro _ _ ⟨_, ⟨p3, _, c5, C6, p7, _, c9, C10, p11, _, c13, C14, p15, _, c17, C18, p19, _, c21, C22, rfl, rfl, rfl, o6, rfl, o10, rfl, o14, rfl, o18, rfl, o22⟩, rfl⟩
 refine oC11 0 ts37 rfl rfl (nn (cw_ret ?_))
 obtain rfl := sI H0
 exact kr Tryz.results6 (rC11 0 ts37 rfl rfl) [1, 2, 3, 4, 5] ⟨_, _, _, _, _, _, _, _, _, _, _, _, _, _, _, _, _, _, _, _, rfl, rfl, rfl, o6, rfl, o10, rfl, o14, rfl, o18, rfl, o22⟩

theorem c_i_ClearMarks (fl : Nat) (w : World) (a0 : Mm) (hn0_0 : n0_0 = (a0.m.t.b).length) (hr0_0 : RO w (hkeys []) (RdL p0_0 c0_0 a0.m.t.b)) (hn0_1 : n0_1 = (a0.m.t.f).length) (hr0_1 : RO w (hkeys []) (RdL p0_1 c0_1 a0.m.t.f)) (hn0_2 : n0_2 = (a0.m.c.l).length) (hr0_2 : RO w (hkeys []) (RdL p0_2 c0_2 a0.m.c.l)) (hn0_3 : n0_3 = (a0.m.g.o).length) (hr0_3 : RO w (hkeys []) (RdL p0_3 c0_3 a0.m.g.o)) (hn0_4 : n0_4 = (a0.k).length) (hr0_4 : RO w (hkeys []) (RdL p0_4 c0_4 a0.k)) (hg : RO w (hkeys []) (fun w' => w'.rangeAt 0 0 [.bool false, .int .i64 0, .int .i64 0, .int .i64 0, .int .i64 (-1)])) (r : Mm × Bool) (H0 : i_ClearMarks fl a0 = some r) :
  Ct Tryz.prog 7 [.agg #[.slice p0_0 n0_0 c0_0, .slice p0_1 n0_1 c0_1, .slice p0_2 n0_2 c0_2, .int .i64 a0.m.c.h, .int .i64 a0.m.g.c, .int .i64 a0.m.g.n, .int .i64 a0.m.g.r, .slice p0_3 n0_3 c0_3, .int .i64 a0.m.s, .slice p0_4 n0_4 c0_4, .int .i64 a0.h]] w [] (fun rv h' => ∃ (x0 : Option Addr) (y0 z0 : Nat) (C0 : Res) (x1 : Option Addr) (y1 z1 : Nat) (C1 : Res) (x2 : Option Addr) (y2 z2 : Nat) (C2 : Res) (x3 : Option Addr) (y3 z3 : Nat) (C3 : Res) (x4 : Option Addr) (y4 z4 : Nat) (C4 : Res), rv = .tuple #[.agg #[.slice x0 y0 z0, .slice x1 y1 z1, .slice x2 y2 z2, .int .i64 r.1.m.c.h, .int .i64 r.1.m.g.c, .int .i64 r.1.m.g.n, .int .i64 r.1.m.g.r, .slice x3 y3 z3, .int .i64 r.1.m.s, .slice x4 y4 z4, .int .i64 r.1.h], .bool r.2] ∧ h' = [(0, C0), (1, C1), (2, C2), (3, C3), (4, C4)] ∧ y0 = (r.1.m.t.b).length ∧ OwnC 3 x0 z0 r.1.m.t.b C0 ∧ y1 = (r.1.m.t.f).length ∧ OwnC 51 x1 z1 r.1.m.t.f C1 ∧ y2 = (r.1.m.c.l).length ∧ OwnC 47 x2 z2 r.1.m.c.l C2 ∧ y3 = (r.1.m.g.o).length ∧ OwnC 89 x3 z3 r.1.m.g.o C3 ∧ y4 = (r.1.k).length ∧ OwnC 4 x4 z4 r.1.k C4) := by
 subst hn0_0 hn0_1 hn0_2 hn0_3 hn0_4
 unfold i_ClearMarks at H0
 refine ct_of_cw Tryz.func7 rfl Tryz.ntmps7 rfl (Sat.refl _ _) ?_
 refine sr (oE (stpU_box 0 rfl rfl) rfl ?_)
 rintro _ _ ⟨b1, rfl, rfl⟩
 refine oE (stpU_alloc 1 tz37 rfl) rfl ?_
 rintro _ _ ⟨b2, rfl, rfl⟩
 obtain ⟨x3, e3, H0⟩ := bS H0
 refine oS rfl (nn (cw_seq (sr (oB11 0 ts37 rfl (oE (stpU_call (fun i => 2 + i) cf10 (fun w hw => c_i_MemoryValid fl w a0 rfl (RO.pass hr0_0 hw) rfl (RO.pass hr0_1 hw) rfl (RO.pass hr0_2 hw) rfl (RO.pass hr0_3 hw) rfl (RO.pass hr0_4 hw) (RO.pass hg hw) x3 e3) (yA rfl)) rfl ?_)))))
 rintro _ _ ⟨_, ⟨rfl, rfl⟩, rfl⟩
 refine oK rfl (nn (cw_cond rfl (fun h4 => ?_) (fun h4 => ?_)))
 ·have H0 := cond_t H0 h4
  refine sr (oD (stp_build (cs := #[.slice none 0 0, .slice none 0 0, .slice none 0 0, .int .i64 0, .int .i64 0, .int .i64 0, .int .i64 0, .slice none 0 0, .int .i64 0, .slice none 0 0, .int .i64 0]) sevp_nil bt37_19) rfl (oC11 1 ts37 rfl rfl (oS rfl (nn (cw_ret (kw_nx_ret (kw_addNil 2 (kw_addNil 3 (kw_addNil 4 (kw_addNil 5 (kw_addNil 6 ?_)))))))))))
  obtain rfl := sI H0
  exact kr Tryz.results7 (.cons (.cellN (us := [_, _, _, _, _, _, _, _, _, _, _]) ts37 rfl (Cells.box (id := 1) rfl 11 rfl)) (rT rfl)) [2, 3, 4, 5, 6] ⟨_, _, _, _, _, _, _, _, _, _, _, _, _, _, _, _, _, _, _, _, rfl, rfl, rfl, (OwnC.nil _ _), rfl, (OwnC.nil _ _), rfl, (OwnC.nil _ _), rfl, (OwnC.nil _ _), rfl, (OwnC.nil _ _)⟩
 have H0 := cond_f H0 h4
 obtain ⟨x5, e5, H0⟩ := bS H0
 refine cw_skip (kw_nx (sr (oB11 0 ts37 rfl (oE (stpU_call (fun i => 7 + i) cf17 (fun w hw => c_i_Memory_clone fl w a0 rfl (RO.pass hr0_0 hw) rfl (RO.pass hr0_1 hw) rfl (RO.pass hr0_2 hw) rfl (RO.pass hr0_3 hw) rfl (RO.pass hr0_4 hw) x5 e5) (yA rfl)) rfl ?_))))
 rintro _ _ ⟨_, ⟨p6, _, c8, C9, p10, _, c12, C13, p14, _, c16, C17, p18, _, c20, C21, p22, _, c24, C25, rfl, rfl, rfl, o9, rfl, o13, rfl, o17, rfl, o21, rfl, o25⟩, rfl⟩
 refine oE (stpU_alloc 12 tz37 rfl) rfl ?_
 rintro _ _ ⟨b26, rfl, rfl⟩
 refine oC11 12 ts37 rfl rfl (nn (sr (oA 9 Tryz.underlying37 rfl ts35 rfl (oL 12 ts35 rfl (oF (stpU_clear (id := 11) sl35 rfl rfl rfl o25) ?_)))))
 rintro _ _ ⟨C27, rfl, rfl, o27⟩
 refine nn (sr (oB11 12 ts37 rfl (oC11 1 ts37 rfl rfl (oS rfl (nn (cw_ret ?_))))))
 obtain rfl := sI H0
 exact kr Tryz.results7 (.cons (.cellN (us := [_, _, _, _, _, _, _, _, _, _, _]) ts37 rfl (Cells.box (id := 1) rfl 11 rfl)) (rT rfl)) [7, 8, 9, 10, 11] ⟨_, _, _, _, _, _, _, _, _, _, _, _, _, _, _, _, _, _, _, _, rfl, rfl, rfl, o9, rfl, o13, rfl, o17, rfl, o21, (by simp), o27⟩

theorem c_l_FnClearMarks (fl : Nat) (w : World) (a0 : (List UInt8)) (hn0_0 : n0_0 = (a0).length) (hr0_0 : RO w (hkeys []) (RdL p0_0 c0_0 a0)) (hg : RO w (hkeys []) (fun w' => w'.rangeAt 0 0 [.bool false, .int .i64 0, .int .i64 0, .int .i64 0, .int .i64 (-1)])) (r : Bool) (H0 : l_FnClearMarks fl a0 = some r) :
  Ct Tryz.prog 3 [.slice p0_0 n0_0 c0_0] w [] (fun rv h' => rv = .bool r ∧ h' = []) := by
 subst hn0_0
 unfold l_FnClearMarks at H0
 refine ct_of_cw Tryz.func3 rfl Tryz.ntmps3 rfl (Sat.refl _ _) ?_
 refine sr (oS rfl (nn (cw_seq (sr (oM rfl (oD (stp_len Tryz.underlying22 rfl) rfl (oJ rfl (nn (cw_cond rfl (fun h1 => ?_) (fun h1 => ?_))))))))))
 ·have H0 := cond_t H0 h1
  refine sr (oS rfl (nn (cw_ret (kw_nx_ret ?_))))
  obtain rfl := sI H0
  exact kr Tryz.results3 (rT rfl) [] ⟨rfl, rfl⟩
 have H0 := cond_f H0 h1
 obtain ⟨x2, e2, H0⟩ := bS H0
 refine cw_skip (kw_nx (sr (oM rfl (oE (stpU_call (fun i => 0 + i) cf6 (fun w hw => c_s_DrawClearMarks fl w a0 rfl (RO.pass hr0_0 hw) x2 e2) (yA rfl)) rfl ?_))))
 rintro _ _ ⟨_, ⟨p3, _, c5, C6, p7, _, c9, C10, p11, _, c13, C14, p15, _, c17, C18, p19, _, c21, C22, rfl, rfl, rfl, o6, rfl, o10, rfl, o14, rfl, o18, rfl, o22⟩, rfl⟩
 refine oE (stpU_alloc 5 tz37 rfl) rfl ?_
 rintro _ _ ⟨b23, rfl, rfl⟩
 obtain ⟨x24, e24, H0⟩ := bS H0
 refine oC11 5 ts37 rfl rfl (nn (sr (oB11 5 ts37 rfl (oE (stpU_call (fun i => 6 + i) cf7 (fun w hw => c_i_ClearMarks fl w x2 rfl (OwnC.pass (id := 0) rfl o6 hw) rfl (OwnC.pass (id := 1) rfl o10 hw) rfl (OwnC.pass (id := 2) rfl o14 hw) rfl (OwnC.pass (id := 3) rfl o18 hw) rfl (OwnC.pass (id := 4) rfl o22 hw) (RO.pass hg hw) x24 e24) (yA rfl)) rfl ?_))))
 rintro _ _ ⟨_, ⟨p25, _, c27, C28, p29, _, c31, C32, p33, _, c35, C36, p37, _, c39, C40, p41, _, c43, C44, rfl, rfl, rfl, o28, rfl, o32, rfl, o36, rfl, o40, rfl, o44⟩, rfl⟩
 refine oM rfl (oT rfl (oT rfl (oE (stpU_alloc 11 tz37 rfl) rfl ?_)))
 rintro _ _ ⟨b45, rfl, rfl⟩
 obtain ⟨x46, e46, H0⟩ := bS H0
 refine oC11 11 ts37 rfl rfl (oS rfl (nn (sr (oB11 5 ts37 rfl (oE (stpU_call (fun i => 12 + i) cf8 (fun w hw => c_s_ClearMarks fl w x2 rfl (OwnC.pass (id := 0) rfl o6 hw) rfl (OwnC.pass (id := 1) rfl o10 hw) rfl (OwnC.pass (id := 2) rfl o14 hw) rfl (OwnC.pass (id := 3) rfl o18 hw) rfl (OwnC.pass (id := 4) rfl o22 hw) x46 e46) (yA rfl)) rfl ?_)))))
 rintro _ _ ⟨_, ⟨p47, _, c49, C50, p51, _, c53, C54, p55, _, c57, C58, p59, _, c61, C62, p63, _, c65, C66, rfl, rfl, rfl, o50, rfl, o54, rfl, o58, rfl, o62, rfl, o66⟩, rfl⟩
 refine oM rfl (oT rfl (oT rfl (oE (stpU_alloc 17 tz37 rfl) rfl ?_)))
 rintro _ _ ⟨b67, rfl, rfl⟩
 obtain ⟨x68, e68, H0⟩ := bS H0
 refine oC11 17 ts37 rfl rfl (oS rfl (nn (cw_seq (sr (oB11 11 ts37 rfl (oB11 17 ts37 rfl (oE (stpU_call (fun i => 18 + i) cf9 (fun w hw => c_i_MemorySame fl w x24.1 x46.1 rfl (OwnC.pass (id := 6) rfl o28 hw) rfl (OwnC.pass (id := 7) rfl o32 hw) rfl (OwnC.pass (id := 8) rfl o36 hw) rfl (OwnC.pass (id := 9) rfl o40 hw) rfl (OwnC.pass (id := 10) rfl o44 hw) rfl (OwnC.pass (id := 12) rfl o50 hw) rfl (OwnC.pass (id := 13) rfl o54 hw) rfl (OwnC.pass (id := 14) rfl o58 hw) rfl (OwnC.pass (id := 15) rfl o62 hw) rfl (OwnC.pass (id := 16) rfl o66 hw) x68 e68) (yB rfl rfl)) rfl ?_)))))))
 rintro _ _ ⟨_, ⟨rfl, rfl⟩, rfl⟩
 obtain ⟨y69, ey69, H0⟩ := bS H0
 refine oK rfl (oM rfl (ow_cutY 4 38 y69 ?_ ?_))
 ·rcases Bool.eq_false_or_eq_true (!x68) with hy69 | hy69
  ·have ey69 := cond_t ey69 hy69
   refine oO rfl hy69 rfl (oO rfl hy69 rfl (oO rfl hy69 rfl (oD (stp_pick_t rfl hy69 rfl) rfl ?_)))
   obtain rfl := sI ey69
   exact ow_nil (jy 4 0)
  have ey69 := cond_f ey69 hy69
  refine oG rfl hy69 (mv rfl) rfl (oG rfl hy69 (mv rfl) rfl (oG rfl hy69 (stp_neqB Tryz.underlying4 rfl rfl) rfl (oD (stp_pick_f rfl hy69 rfl) rfl ?_)))
  obtain rfl := sI ey69
  exact ow_nil (jy 4 0)
 obtain ⟨y70, ey70, H0⟩ := bS H0
 refine oM rfl (ow_cutY 5 44 y70 ?_ ?_)
 ·rcases Bool.eq_false_or_eq_true y69 with hy70 | hy70
  ·have ey70 := cond_t ey70 hy70
   refine oO rfl hy70 rfl (oO rfl hy70 rfl (oO rfl hy70 rfl (oO rfl hy70 rfl (oD (stp_pick_t rfl hy70 rfl) rfl ?_))))
   obtain rfl := sI ey70
   exact ow_nil (jy 5 0)
  have ey70 := cond_f ey70 hy70
  obtain ⟨x71, e71, ey70⟩ := bS ey70
  refine oG rfl hy70 (mv rfl) rfl (oG rfl hy70 (stp_loadN (us := [_, _, _, _, _, _, _, _, _, _, _]) ts37 rfl (Cells.box (id := 5) rfl 11 rfl)) rfl (ow_eff (.some rfl hy70) (stpU_call (fun i => 18 + i) cf10 (fun w hw => c_i_MemoryValid fl w x2 rfl (OwnC.pass (id := 0) rfl o6 hw) rfl (OwnC.pass (id := 1) rfl o10 hw) rfl (OwnC.pass (id := 2) rfl o14 hw) rfl (OwnC.pass (id := 3) rfl o18 hw) rfl (OwnC.pass (id := 4) rfl o22 hw) (RO.pass hg hw) x71 e71) (yA rfl)) rfl ?_))
  rintro _ _ ⟨_, ⟨rfl, rfl⟩, rfl⟩
  refine oG rfl hy70 (stp_neqB Tryz.underlying4 rfl rfl) rfl (oD (stp_pick_f rfl hy70 rfl) rfl ?_)
  obtain rfl := sI ey70
  exact ow_nil (jy 5 0)
 obtain ⟨y72, ey72, H0⟩ := bS H0
 refine oM rfl (ow_cutY 5 50 y72 ?_ ?_)
 ·rcases Bool.eq_false_or_eq_true y70 with hy72 | hy72
  ·have ey72 := cond_t ey72 hy72
   refine oO rfl hy72 rfl (oO rfl hy72 rfl (oO rfl hy72 rfl (oO rfl hy72 rfl (oD (stp_pick_t rfl hy72 rfl) rfl ?_))))
   obtain rfl := sI ey72
   exact ow_nil (jy 5 0)
  have ey72 := cond_f ey72 hy72
  obtain ⟨x73, e73, ey72⟩ := bS ey72
  refine oG rfl hy72 (mv rfl) rfl (oG rfl hy72 (stp_loadN (us := [_, _, _, _, _, _, _, _, _, _, _]) ts37 rfl (Cells.box (id := 5) rfl 11 rfl)) rfl (ow_eff (.some rfl hy72) (stpU_call (fun i => 18 + i) cf11 (fun w hw => c_s_MemoryValid fl w x2 rfl (OwnC.pass (id := 0) rfl o6 hw) rfl (OwnC.pass (id := 1) rfl o10 hw) rfl (OwnC.pass (id := 2) rfl o14 hw) rfl (OwnC.pass (id := 3) rfl o18 hw) rfl (OwnC.pass (id := 4) rfl o22 hw) x73 e73) (yA rfl)) rfl ?_))
  rintro _ _ ⟨_, ⟨rfl, rfl⟩, rfl⟩
  refine oG rfl hy72 (stp_neqB Tryz.underlying4 rfl rfl) rfl (oD (stp_pick_f rfl hy72 rfl) rfl ?_)
  obtain rfl := sI ey72
  exact ow_nil (jy 5 0)
 obtain ⟨y74, ey74, H0⟩ := bS H0
 refine oM rfl (ow_cutY 3 54 y74 ?_ ?_)
 ·rcases Bool.eq_false_or_eq_true y72 with hy74 | hy74
  ·have ey74 := cond_t ey74 hy74
   refine oO rfl hy74 rfl (oO rfl hy74 rfl (oD (stp_pick_t rfl hy74 rfl) rfl ?_))
   obtain rfl := sI ey74
   exact ow_nil (jy 3 0)
  have ey74 := cond_f ey74 hy74
  refine oG rfl hy74 (mv rfl) rfl (oG rfl hy74 (stp_not rfl) rfl (oD (stp_pick_f rfl hy74 rfl) rfl ?_))
  obtain rfl := sI ey74
  exact ow_nil (jy 3 0)
 refine ow_nil (kw_nx (cw_cond rfl (fun h75 => ?_) (fun h75 => ?_)))
 ·have H0 := cond_t H0 h75
  refine sr (oB11 11 ts37 rfl (oB11 17 ts37 rfl (oE (stpU_call (fun i => 18 + i) cf9 (fun w hw => c_i_MemorySame fl w x24.1 x46.1 rfl (OwnC.pass (id := 6) rfl o28 hw) rfl (OwnC.pass (id := 7) rfl o32 hw) rfl (OwnC.pass (id := 8) rfl o36 hw) rfl (OwnC.pass (id := 9) rfl o40 hw) rfl (OwnC.pass (id := 10) rfl o44 hw) rfl (OwnC.pass (id := 12) rfl o50 hw) rfl (OwnC.pass (id := 13) rfl o54 hw) rfl (OwnC.pass (id := 14) rfl o58 hw) rfl (OwnC.pass (id := 15) rfl o62 hw) rfl (OwnC.pass (id := 16) rfl o66 hw) x68 e68) (yB rfl rfl)) rfl ?_)))
  rintro _ _ ⟨_, ⟨rfl, rfl⟩, rfl⟩
  obtain ⟨y76, ey76, H0⟩ := bS H0
  refine oM rfl (ow_cutY 4 62 y76 ?_ ?_)
  ·rcases Bool.eq_false_or_eq_true x68 with hy76 | hy76
   ·have ey76 := cond_t ey76 hy76
    refine oG rfl hy76 (mv rfl) rfl (oG rfl hy76 (mv rfl) rfl (oG rfl hy76 (stp_eqlB Tryz.underlying4 rfl rfl) rfl (oD (stp_pick_t rfl hy76 rfl) rfl ?_)))
    obtain rfl := sI ey76
    exact ow_nil (jy 4 0)
   have ey76 := cond_f ey76 hy76
   refine oO rfl hy76 rfl (oO rfl hy76 rfl (oO rfl hy76 rfl (oD (stp_pick_f rfl hy76 rfl) rfl ?_)))
   obtain rfl := sI ey76
   exact ow_nil (jy 4 0)
  obtain ⟨y77, ey77, H0⟩ := bS H0
  refine oM rfl (ow_cutY 5 68 y77 ?_ ?_)
  ·rcases Bool.eq_false_or_eq_true y76 with hy77 | hy77
   ·have ey77 := cond_t ey77 hy77
    obtain ⟨x78, e78, ey77⟩ := bS ey77
    refine oG rfl hy77 (mv rfl) rfl (oG rfl hy77 (stp_loadN (us := [_, _, _, _, _, _, _, _, _, _, _]) ts37 rfl (Cells.box (id := 5) rfl 11 rfl)) rfl (ow_eff (.some rfl hy77) (stpU_call (fun i => 18 + i) cf10 (fun w hw => c_i_MemoryValid fl w x2 rfl (OwnC.pass (id := 0) rfl o6 hw) rfl (OwnC.pass (id := 1) rfl o10 hw) rfl (OwnC.pass (id := 2) rfl o14 hw) rfl (OwnC.pass (id := 3) rfl o18 hw) rfl (OwnC.pass (id := 4) rfl o22 hw) (RO.pass hg hw) x78 e78) (yA rfl)) rfl ?_))
    rintro _ _ ⟨_, ⟨rfl, rfl⟩, rfl⟩
    refine oG rfl hy77 (stp_eqlB Tryz.underlying4 rfl rfl) rfl (oD (stp_pick_t rfl hy77 rfl) rfl ?_)
    obtain rfl := sI ey77
    exact ow_nil (jy 5 0)
   have ey77 := cond_f ey77 hy77
   refine oO rfl hy77 rfl (oO rfl hy77 rfl (oO rfl hy77 rfl (oO rfl hy77 rfl (oD (stp_pick_f rfl hy77 rfl) rfl ?_))))
   obtain rfl := sI ey77
   exact ow_nil (jy 5 0)
  obtain ⟨y79, ey79, H0⟩ := bS H0
  refine oM rfl (ow_cutY 5 74 y79 ?_ ?_)
  ·rcases Bool.eq_false_or_eq_true y77 with hy79 | hy79
   ·have ey79 := cond_t ey79 hy79
    obtain ⟨x80, e80, ey79⟩ := bS ey79
    refine oG rfl hy79 (mv rfl) rfl (oG rfl hy79 (stp_loadN (us := [_, _, _, _, _, _, _, _, _, _, _]) ts37 rfl (Cells.box (id := 5) rfl 11 rfl)) rfl (ow_eff (.some rfl hy79) (stpU_call (fun i => 18 + i) cf11 (fun w hw => c_s_MemoryValid fl w x2 rfl (OwnC.pass (id := 0) rfl o6 hw) rfl (OwnC.pass (id := 1) rfl o10 hw) rfl (OwnC.pass (id := 2) rfl o14 hw) rfl (OwnC.pass (id := 3) rfl o18 hw) rfl (OwnC.pass (id := 4) rfl o22 hw) x80 e80) (yA rfl)) rfl ?_))
    rintro _ _ ⟨_, ⟨rfl, rfl⟩, rfl⟩
    refine oG rfl hy79 (stp_eqlB Tryz.underlying4 rfl rfl) rfl (oD (stp_pick_t rfl hy79 rfl) rfl ?_)
    obtain rfl := sI ey79
    exact ow_nil (jy 5 0)
   have ey79 := cond_f ey79 hy79
   refine oO rfl hy79 rfl (oO rfl hy79 rfl (oO rfl hy79 rfl (oO rfl hy79 rfl (oD (stp_pick_f rfl hy79 rfl) rfl ?_))))
   obtain rfl := sI ey79
   exact ow_nil (jy 5 0)
  refine oS rfl (nn (cw_ret (kw_nx_ret ?_)))
  obtain rfl := sI H0
  exact kr Tryz.results3 (rT rfl) [] ⟨rfl, rfl⟩
 have H0 := cond_f H0 h75
 obtain ⟨o0_0, eo0_0, H0⟩ := bS H0
 refine cw_skip (kw_nx (cw_seq (sr (oS rfl (nn (cw_join (ι := Int) (fun | v81 => o0_0 = .out v81) (fun | v81 => [(3, .pointer (some ⟨b23, 0, none⟩)), (4, .pointer (some ⟨b45, 0, none⟩)), (8, .int .i64 v81)]) (fun | v81 => [(0, C6), (1, C10), (2, C14), (3, C18), (4, C22), (5, [(b23, .cells #[.slice p3 ((x2.m.t.b).length) c5, .slice p7 ((x2.m.t.f).length) c9, .slice p11 ((x2.m.c.l).length) c13, .int .i64 x2.m.c.h, .int .i64 x2.m.g.c, .int .i64 x2.m.g.n, .int .i64 x2.m.g.r, .slice p15 ((x2.m.g.o).length) c17, .int .i64 x2.m.s, .slice p19 ((x2.k).length) c21, .int .i64 x2.h] 37 (0, 0))]), (6, C28), (7, C32), (8, C36), (9, C40), (10, C44), (11, [(b45, .cells #[.slice p25 ((x24.1.m.t.b).length) c27, .slice p29 ((x24.1.m.t.f).length) c31, .slice p33 ((x24.1.m.c.l).length) c35, .int .i64 x24.1.m.c.h, .int .i64 x24.1.m.g.c, .int .i64 x24.1.m.g.n, .int .i64 x24.1.m.g.r, .slice p37 ((x24.1.m.g.o).length) c39, .int .i64 x24.1.m.s, .slice p41 ((x24.1.k).length) c43, .int .i64 x24.1.h] 37 (0, 0))])]) ?_ ?_))))))
 ·refine cw_block (cw_loopS (ι := Nat × Int) (js := [0, 1, 2, 3, 4, 5, 6, 7, 8, 9, 10, 11]) (fun x => x.1) (fun | (fuel, v81) => l_FnClearMarks_L0 fl x24 fuel v81 = some o0_0) (fun | (_, v81) => [(3, .pointer (some ⟨b23, 0, none⟩)), (4, .pointer (some ⟨b45, 0, none⟩)), (8, .int .i64 v81)]) (fun | (_, v81) => [(0, C6), (1, C10), (2, C14), (3, C18), (4, C22), (5, [(b23, .cells #[.slice p3 ((x2.m.t.b).length) c5, .slice p7 ((x2.m.t.f).length) c9, .slice p11 ((x2.m.c.l).length) c13, .int .i64 x2.m.c.h, .int .i64 x2.m.g.c, .int .i64 x2.m.g.n, .int .i64 x2.m.g.r, .slice p15 ((x2.m.g.o).length) c17, .int .i64 x2.m.s, .slice p19 ((x2.k).length) c21, .int .i64 x2.h] 37 (0, 0))]), (6, C28), (7, C32), (8, C36), (9, C40), (10, C44), (11, [(b45, .cells #[.slice p25 ((x24.1.m.t.b).length) c27, .slice p29 ((x24.1.m.t.f).length) c31, .slice p33 ((x24.1.m.c.l).length) c35, .int .i64 x24.1.m.c.h, .int .i64 x24.1.m.g.c, .int .i64 x24.1.m.g.n, .int .i64 x24.1.m.g.r, .slice p37 ((x24.1.m.g.o).length) c39, .int .i64 x24.1.m.s, .slice p41 ((x24.1.k).length) c43, .int .i64 x24.1.h] 37 (0, 0))])]) (fl, 0) eo0_0 ⟨rfl, rfl, rfl, trivial⟩ ⟨0, [1, 2, 3, 4, 5, 6, 7, 8, 9, 10, 11], rfl, rfl, 1, [2, 3, 4, 5, 6, 7, 8, 9, 10, 11], rfl, rfl, 2, [3, 4, 5, 6, 7, 8, 9, 10, 11], rfl, rfl, 3, [4, 5, 6, 7, 8, 9, 10, 11], rfl, rfl, 4, [5, 6, 7, 8, 9, 10, 11], rfl, rfl, 5, [6, 7, 8, 9, 10, 11], rfl, rfl, 6, [7, 8, 9, 10, 11], rfl, rfl, 7, [8, 9, 10, 11], rfl, rfl, 8, [9, 10, 11], rfl, rfl, 9, [10, 11], rfl, rfl, 10, [11], rfl, rfl, 11, [], rfl, rfl, trivial⟩ (by decide) ?_)
  rintro ⟨fuel, v81⟩ H1
  have H1 : l_FnClearMarks_L0 fl x24 fuel v81 = some o0_0 := H1
  rcases fuel with _ | fuel
  ·rw [l_FnClearMarks_L0.eq_1] at H1; cases H1
  rw [l_FnClearMarks_L0.eq_2] at H1
  dsimp only
  refine cw_seq (sr (oM rfl (oA 9 Tryz.underlying37 rfl ts35 rfl (oL 11 ts35 rfl (oD (stp_len Tryz.underlying35 rfl) rfl (oW rfl (nn (cw_cond rfl (fun h82 => ?_) (fun h82 => ?_)))))))))
  ·have H1 := cond_t H1 h82
   obtain ⟨x83, e83, H1⟩ := bS H1
   refine cw_skip (kw_nx (cw_seq (cw_block (sr (oA 9 Tryz.underlying37 rfl ts35 rfl (oL 11 ts35 rfl (oM rfl (oD (stp_indexAddr Tryz.underlying35 ts4 (by decide) rfl rfl rfl (Rdb.own (id := 10) rfl o44) e83) rfl (oD (stp_load1 ts4 rfl (Cells.el (Rdb.own (id := 10) rfl o44) (by decide) e83 0 1 rfl)) rfl (nn (cw_cond rfl (fun h84 => ?_) (fun h84 => ?_))))))))))))
   ·have H1 := cond_t H1 h84
    refine sr (oS rfl (nn (cw_ret (kw_bl_ret (kw_nx_ret (kw_lq_ret (kw_bl_ret (kw_join_ret (kw_nx_ret ?_)))))))))
    obtain rfl := sI H1
    obtain rfl := sI H0
    exact kr Tryz.results3 (rT rfl) [] ⟨rfl, rfl⟩
   have H1 := cond_f H1 h84
   obtain ⟨x85, e85, H1⟩ := bS H1
   exact cw_skip (kw_bl_normal (kw_nx (cw_region (oM rfl (oP e85 rfl (oS rfl (ow_nil (kw_lqS (js := [0, 1, 2, 3, 4, 5, 6, 7, 8, 9, 10, 11]) (fuel, x85) H1 (Nat.lt_succ_self _) ⟨rfl, rfl, rfl, trivial⟩ ⟨0, [1, 2, 3, 4, 5, 6, 7, 8, 9, 10, 11], rfl, rfl, 1, [2, 3, 4, 5, 6, 7, 8, 9, 10, 11], rfl, rfl, 2, [3, 4, 5, 6, 7, 8, 9, 10, 11], rfl, rfl, 3, [4, 5, 6, 7, 8, 9, 10, 11], rfl, rfl, 4, [5, 6, 7, 8, 9, 10, 11], rfl, rfl, 5, [6, 7, 8, 9, 10, 11], rfl, rfl, 6, [7, 8, 9, 10, 11], rfl, rfl, 7, [8, 9, 10, 11], rfl, rfl, 8, [9, 10, 11], rfl, rfl, 9, [10, 11], rfl, rfl, 10, [11], rfl, rfl, 11, [], rfl, rfl, trivial⟩ (by decide)))))))))
  have H1 := cond_f H1 h82
  refine cw_exit (kw_nx_exit (kw_lq_exit (kw_bl ?_)))
  obtain rfl := sI H1
  exact kw_joinS (js := [0, 1, 2, 3, 4, 5, 6, 7, 8, 9, 10, 11]) v81 rfl ⟨rfl, rfl, rfl, trivial⟩ ⟨0, [1, 2, 3, 4, 5, 6, 7, 8, 9, 10, 11], rfl, rfl, 1, [2, 3, 4, 5, 6, 7, 8, 9, 10, 11], rfl, rfl, 2, [3, 4, 5, 6, 7, 8, 9, 10, 11], rfl, rfl, 3, [4, 5, 6, 7, 8, 9, 10, 11], rfl, rfl, 4, [5, 6, 7, 8, 9, 10, 11], rfl, rfl, 5, [6, 7, 8, 9, 10, 11], rfl, rfl, 6, [7, 8, 9, 10, 11], rfl, rfl, 7, [8, 9, 10, 11], rfl, rfl, 8, [9, 10, 11], rfl, rfl, 9, [10, 11], rfl, rfl, 10, [11], rfl, rfl, 11, [], rfl, rfl, trivial⟩ (by decide)
 rintro v81 rfl
 dsimp only
 obtain ⟨x86, e86, H0⟩ := bS H0
 refine kw_nx (sr (oB11 11 ts37 rfl (oE (stpU_call (fun i => 18 + i) cf12 (fun w hw => c_i_FrameVictim fl w x24.1 rfl (OwnC.pass (id := 6) rfl o28 hw) rfl (OwnC.pass (id := 7) rfl o32 hw) rfl (OwnC.pass (id := 8) rfl o36 hw) rfl (OwnC.pass (id := 9) rfl o40 hw) rfl (OwnC.pass (id := 10) rfl o44 hw) (RO.pass hg hw) x86 e86) (yA rfl)) rfl ?_)))
 rintro _ _ ⟨_, ⟨p87, _, c89, C90, p91, _, c93, C94, p95, _, c97, C98, p99, _, c101, C102, p103, _, c105, C106, rfl, rfl, rfl, o90, rfl, o94, rfl, o98, rfl, o102, rfl, o106⟩, rfl⟩
 refine oM rfl (oT rfl (oT rfl (oT rfl (oE (stpU_alloc 23 tz37 rfl) rfl ?_))))
 rintro _ _ ⟨b107, rfl, rfl⟩
 obtain ⟨x108, e108, H0⟩ := bS H0
 refine oC11 23 ts37 rfl rfl (oS rfl (oS rfl (nn (sr (oB11 5 ts37 rfl (oE (stpU_call (fun i => 24 + i) cf12 (fun w hw => c_i_FrameVictim fl w x2 rfl (OwnC.pass (id := 0) rfl o6 hw) rfl (OwnC.pass (id := 1) rfl o10 hw) rfl (OwnC.pass (id := 2) rfl o14 hw) rfl (OwnC.pass (id := 3) rfl o18 hw) rfl (OwnC.pass (id := 4) rfl o22 hw) (RO.pass hg hw) x108 e108) (yA rfl)) rfl ?_))))))
 rintro _ _ ⟨_, ⟨p109, _, c111, C112, p113, _, c115, C116, p117, _, c119, C120, p121, _, c123, C124, p125, _, c127, C128, rfl, rfl, rfl, o112, rfl, o116, rfl, o120, rfl, o124, rfl, o128⟩, rfl⟩
 refine oM rfl (oT rfl (oT rfl (oT rfl (oE (stpU_alloc 29 tz37 rfl) rfl ?_))))
 rintro _ _ ⟨b129, rfl, rfl⟩
 obtain ⟨x130, e130, H0⟩ := bS H0
 refine oC11 29 ts37 rfl rfl (oS rfl (oS rfl (nn (sr (oB11 11 ts37 rfl (oE (stpU_call (fun i => 30 + i) cf10 (fun w hw => c_i_MemoryValid fl w x24.1 rfl (OwnC.pass (id := 6) rfl o28 hw) rfl (OwnC.pass (id := 7) rfl o32 hw) rfl (OwnC.pass (id := 8) rfl o36 hw) rfl (OwnC.pass (id := 9) rfl o40 hw) rfl (OwnC.pass (id := 10) rfl o44 hw) (RO.pass hg hw) x130 e130) (yA rfl)) rfl ?_))))))
 rintro _ _ ⟨_, ⟨rfl, rfl⟩, rfl⟩
 obtain ⟨y131, ey131, H0⟩ := bS H0
 refine oM rfl (ow_cutY 4 105 y131 ?_ ?_)
 ·rcases Bool.eq_false_or_eq_true x130 with hy131 | hy131
  ·have ey131 := cond_t ey131 hy131
   refine oG rfl hy131 (mv rfl) rfl (oG rfl hy131 (mv rfl) rfl (oG rfl hy131 (stp_eqlB Tryz.underlying4 rfl rfl) rfl (oD (stp_pick_t rfl hy131 rfl) rfl ?_)))
   obtain rfl := sI ey131
   exact ow_nil (jy 4 0)
  have ey131 := cond_f ey131 hy131
  refine oO rfl hy131 rfl (oO rfl hy131 rfl (oO rfl hy131 rfl (oD (stp_pick_f rfl hy131 rfl) rfl ?_)))
  obtain rfl := sI ey131
  exact ow_nil (jy 4 0)
 obtain ⟨y132, ey132, H0⟩ := bS H0
 refine oM rfl (ow_cutY 15 121 y132 ?_ ?_)
 ·rcases Bool.eq_false_or_eq_true y131 with hy132 | hy132
  ·have ey132 := cond_t ey132 hy132
   obtain ⟨y133, ey133, ey132⟩ := bS ey132
   refine oG rfl hy132 (mv rfl) rfl (oG rfl hy132 (stp_not rfl) rfl (oG rfl hy132 (mv rfl) rfl (ow_cutY 11 120 y133 ?_ ?_)))
   ·rcases Bool.eq_false_or_eq_true (!x86.2.2) with hy133 | hy133
    ·have ey133 := cond_t ey133 hy133
     refine oO rfl hy133 rfl (oO rfl hy133 rfl (oO rfl hy133 rfl (oX rfl rfl rfl (oX rfl rfl rfl (oO rfl hy133 rfl (oO rfl hy133 rfl (oX rfl rfl rfl (oX rfl rfl rfl (oO rfl hy133 rfl (oG rfl hy132 (stp_pick_t rfl hy133 rfl) rfl ?_))))))))))
     obtain rfl := sI ey133
     exact ow_nil (jy 11 0)
    have ey133 := cond_f ey133 hy133
    obtain ⟨y134, ey134, ey133⟩ := bS ey133
    refine oG rfl hy133 (mv rfl) rfl (oG rfl hy133 (stp_geq rfl rfl) rfl (oG rfl hy133 (mv rfl) rfl (ow_cutY 3 115 y134 ?_ ?_)))
    ·rcases Bool.eq_false_or_eq_true (decide (0 ≤ x86.2.1)) with hy134 | hy134
     ·have ey134 := cond_t ey134 hy134
      refine oG rfl hy134 (mv rfl) rfl (oG rfl hy134 (stp_geq rfl rfl) rfl (oG rfl hy133 (stp_pick_t rfl hy134 rfl) rfl ?_))
      obtain rfl := sI ey134
      exact ow_nil (jy 3 0)
     have ey134 := cond_f ey134 hy134
     refine oO rfl hy134 rfl (oO rfl hy134 rfl (oG rfl hy133 (stp_pick_f rfl hy134 rfl) rfl ?_))
     obtain rfl := sI ey134
     exact ow_nil (jy 3 0)
    obtain ⟨y135, ey135, ey133⟩ := bS ey133
    refine oG rfl hy133 (mv rfl) rfl (ow_cutY 3 119 y135 ?_ ?_)
    ·rcases Bool.eq_false_or_eq_true y134 with hy135 | hy135
     ·have ey135 := cond_t ey135 hy135
      obtain ⟨x136, e136, ey135⟩ := bS ey135
      refine oG rfl hy135 (stp_loadN (us := [_, _, _, _, _, _, _, _, _, _, _]) ts37 rfl (Cells.box (id := 29) rfl 11 rfl)) rfl (ow_eff (.some rfl hy135) (stpU_call (fun i => 30 + i) cf10 (fun w hw => c_i_MemoryValid fl w x108.1 rfl (OwnC.pass (id := 24) rfl o112 hw) rfl (OwnC.pass (id := 25) rfl o116 hw) rfl (OwnC.pass (id := 26) rfl o120 hw) rfl (OwnC.pass (id := 27) rfl o124 hw) rfl (OwnC.pass (id := 28) rfl o128 hw) (RO.pass hg hw) x136 e136) (yA rfl)) rfl ?_)
      rintro _ _ ⟨_, ⟨rfl, rfl⟩, rfl⟩
      refine oG rfl hy133 (stp_pick_t rfl hy135 rfl) rfl ?_
      obtain rfl := sI ey135
      exact ow_nil (jy 3 0)
     have ey135 := cond_f ey135 hy135
     refine oO rfl hy135 rfl (oO rfl hy135 rfl (oG rfl hy133 (stp_pick_f rfl hy135 rfl) rfl ?_))
     obtain rfl := sI ey135
     exact ow_nil (jy 3 0)
    refine oG rfl hy132 (stp_pick_f rfl hy133 rfl) rfl ?_
    obtain rfl := sI ey133
    exact ow_nil (jy 7 0)
   refine oD (stp_pick_t rfl hy132 rfl) rfl ?_
   obtain rfl := sI ey132
   exact ow_nil (jy 5 0)
  have ey132 := cond_f ey132 hy132
  refine oO rfl hy132 rfl (oO rfl hy132 rfl (oO rfl hy132 rfl (oX rfl rfl rfl (oX rfl rfl rfl (oX rfl rfl rfl (oX rfl rfl rfl (oX rfl rfl rfl (oX rfl rfl rfl (oX rfl rfl rfl (oX rfl rfl rfl (oX rfl rfl rfl (oX rfl rfl rfl (oO rfl hy132 rfl ?_)))))))))))))
  refine oD (stp_pick_f rfl hy132 rfl) rfl ?_
  obtain rfl := sI ey132
  exact ow_nil (jy 15 0)
 refine oS rfl (nn (cw_ret ?_))
 obtain rfl := sI H0
 exact kr Tryz.results3 (rT rfl) [] ⟨rfl, rfl⟩
end Go.Proofs.YtkccmjfhmkjnlaaGreatDoor
