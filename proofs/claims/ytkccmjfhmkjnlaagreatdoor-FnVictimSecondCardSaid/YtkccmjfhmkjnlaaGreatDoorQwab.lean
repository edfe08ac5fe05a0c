/- The walks: functions of the program return what their pure functions say. Printed by a program (gen.py). -/
import Derived.Test.YtkccmjfhmkjnlaaGreatDoorQp
import Derived.Test.YtkccmjfhmkjnlaaGreatDoorQt
import Derived.Test.YtkccmjfhmkjnlaaGreatDoorMan
import Derived.Test.YtkccmjfhmkjnlaaGreatDoorMap
import Derived.Test.YtkccmjfhmkjnlaaGreatDoorCpy
import Derived.Test.YtkccmjfhmkjnlaaGreatDoorQe
import Derived.Test.YtkccmjfhmkjnlaaGreatDoorQwaa
set_option linter.unusedSimpArgs false
set_option linter.unusedVariables false
set_option linter.unusedSectionVars false
namespace Go.Proofs.YtkccmjfhmkjnlaaGreatDoor
open Go.RowKit
set_option maxHeartbeats 4000000
set_option maxRecDepth 20000
variable {p0_0 p0_0_0 p0_1 p0_2 p0_3 p0_4 p1_0 p1_1 p1_2 p1_3 : Option Addr} {n0_0 n0_0_0 n0_1 n0_2 n0_3 n0_4 n1_0 n1_1 n1_2 n1_3 : Nat} {c0_0 c0_0_0 c0_1 c0_2 c0_3 c0_4 c1_0 c1_1 c1_2 c1_3 : Nat} {C1_0 C1_1 C1_2 C1_3 : Res}
theorem c_s_TouchPage (fl : Nat) (w : World) (a0 : Mc) (a1 : Int) (a2 : Int) (hn0_0 : n0_0 = (a0.t.b).length) (hr0_0 : RO w (hkeys []) (RdL p0_0 c0_0 a0.t.b)) (hn0_1 : n0_1 = (a0.t.f).length) (hr0_1 : RO w (hkeys []) (RdL p0_1 c0_1 a0.t.f)) (hn0_2 : n0_2 = (a0.c.l).length) (hr0_2 : RO w (hkeys []) (RdL p0_2 c0_2 a0.c.l)) (hn0_3 : n0_3 = (a0.g.o).length) (hr0_3 : RO w (hkeys []) (RdL p0_3 c0_3 a0.g.o)) (r : Mc × Int × Int × Bool) (H0 : s_TouchPage fl a0 a1 a2 = some r) :
  Ct Tryz.prog 110 [.agg #[.slice p0_0 n0_0 c0_0, .slice p0_1 n0_1 c0_1, .slice p0_2 n0_2 c0_2, .int .i64 a0.c.h, .int .i64 a0.g.c, .int .i64 a0.g.n, .int .i64 a0.g.r, .slice p0_3 n0_3 c0_3, .int .i64 a0.s], .int .i64 a1, .int .i64 a2] w [] (fun rv h' => ∃ (x0 : Option Addr) (y0 z0 : Nat) (C0 : Res) (x1 : Option Addr) (y1 z1 : Nat) (C1 : Res) (x2 : Option Addr) (y2 z2 : Nat) (C2 : Res) (x3 : Option Addr) (y3 z3 : Nat) (C3 : Res), rv = .tuple #[.agg #[.slice x0 y0 z0, .slice x1 y1 z1, .slice x2 y2 z2, .int .i64 r.1.c.h, .int .i64 r.1.g.c, .int .i64 r.1.g.n, .int .i64 r.1.g.r, .slice x3 y3 z3, .int .i64 r.1.s], .int .i64 r.2.1, .int .i64 r.2.2.1, .bool r.2.2.2] ∧ h' = [(0, C0), (1, C1), (2, C2), (3, C3)] ∧ y0 = (r.1.t.b).length ∧ OwnC 3 x0 z0 r.1.t.b C0 ∧ y1 = (r.1.t.f).length ∧ OwnC 51 x1 z1 r.1.t.f C1 ∧ y2 = (r.1.c.l).length ∧ OwnC 47 x2 z2 r.1.c.l C2 ∧ y3 = (r.1.g.o).length ∧ OwnC 89 x3 z3 r.1.g.o C3) := by
 subst hn0_0 hn0_1 hn0_2 hn0_3
 unfold s_TouchPage at H0
 refine ct_of_cw Tryz.func110 rfl Tryz.ntmps110 rfl (Sat.refl _ _) ?_
 refine sr (oE (stpU_box 0 rfl rfl) rfl ?_)
 rintro _ _ ⟨b1, rfl, rfl⟩
 refine oE (stpU_alloc 1 tz34 rfl) rfl ?_
 rintro _ _ ⟨b2, rfl, rfl⟩
 obtain ⟨x3, e3, H0⟩ := bS H0
 refine oS rfl (oS rfl (oS rfl (nn (cw_seq (sr (oB9 0 ts34 rfl (oE (stpU_call (fun i => 2 + i) cf22 (fun w hw => c_s_MachineValid fl w a0 rfl (RO.pass hr0_0 hw) rfl (RO.pass hr0_1 hw) rfl (RO.pass hr0_2 hw) rfl (RO.pass hr0_3 hw) x3 e3) (yA rfl)) rfl ?_)))))))
 rintro _ _ ⟨_, ⟨rfl, rfl⟩, rfl⟩
 obtain ⟨y4, ey4, H0⟩ := bS H0
 refine oK rfl (oM rfl (ow_cutY 4 25 y4 ?_ ?_))
 ·rcases Bool.eq_false_or_eq_true (!x3) with hy4 | hy4
  ·have ey4 := cond_t ey4 hy4
   refine oO rfl hy4 rfl (oO rfl hy4 rfl (oO rfl hy4 rfl (oD (stp_pick_t rfl hy4 rfl) rfl ?_)))
   obtain rfl := sI ey4
   exact ow_nil (jy 4 0)
  have ey4 := cond_f ey4 hy4
  obtain ⟨x5, e5, ey4⟩ := bS ey4
  refine oG rfl hy4 (mv rfl) rfl (ow_eff (.some rfl hy4) (stpU_call (fun i => 2 + i) cf101 (fun w hw => c_s_l1Page fl w a1 x5 e5) (yA rfl)) rfl ?_)
  rintro _ _ ⟨_, ⟨rfl, rfl⟩, rfl⟩
  refine oG rfl hy4 (stp_not rfl) rfl (oD (stp_pick_f rfl hy4 rfl) rfl ?_)
  obtain rfl := sI ey4
  exact ow_nil (jy 4 0)
 obtain ⟨y6, ey6, H0⟩ := bS H0
 refine oM rfl (ow_cutY 4 30 y6 ?_ ?_)
 ·rcases Bool.eq_false_or_eq_true y4 with hy6 | hy6
  ·have ey6 := cond_t ey6 hy6
   refine oO rfl hy6 rfl (oO rfl hy6 rfl (oO rfl hy6 rfl (oD (stp_pick_t rfl hy6 rfl) rfl ?_)))
   obtain rfl := sI ey6
   exact ow_nil (jy 4 0)
  have ey6 := cond_f ey6 hy6
  obtain ⟨x7, e7, ey6⟩ := bS ey6
  refine oG rfl hy6 (mv rfl) rfl (ow_eff (.some rfl hy6) (stpU_call (fun i => 2 + i) cf100 (fun w hw => c_s_RightsValid fl w a2 x7 e7) (yA rfl)) rfl ?_)
  rintro _ _ ⟨_, ⟨rfl, rfl⟩, rfl⟩
  refine oG rfl hy6 (stp_not rfl) rfl (oD (stp_pick_f rfl hy6 rfl) rfl ?_)
  obtain rfl := sI ey6
  exact ow_nil (jy 4 0)
 refine ow_nil (kw_nx (cw_cond rfl (fun h8 => ?_) (fun h8 => ?_)))
 ·have H0 := cond_t H0 h8
  refine sr (oD (stp_build (cs := #[.slice none 0 0, .slice none 0 0, .slice none 0 0, .int .i64 0, .int .i64 0, .int .i64 0, .int .i64 0, .slice none 0 0, .int .i64 0]) sevp_nil bt34_6) rfl (oC9 1 ts34 rfl rfl (oS rfl (oS rfl (oS rfl (nn (cw_ret (kw_nx_ret (kw_addNil 2 (kw_addNil 3 (kw_addNil 4 (kw_addNil 5 ?_))))))))))))
  obtain rfl := sI H0
  exact kr Tryz.results110 (.cons (.cellN (us := [_, _, _, _, _, _, _, _, _]) ts34 rfl (Cells.box (id := 1) rfl 9 rfl)) (.cons (.tmp rfl) (.cons (.tmp rfl) (rT rfl)))) [2, 3, 4, 5] ⟨_, _, _, _, _, _, _, _, _, _, _, _, _, _, _, _, rfl, rfl, rfl, (OwnC.nil _ _), rfl, (OwnC.nil _ _), rfl, (OwnC.nil _ _), rfl, (OwnC.nil _ _)⟩
 have H0 := cond_f H0 h8
 obtain ⟨x9, e9, H0⟩ := bS H0
 refine cw_skip (kw_nx (sr (oB9 0 ts34 rfl (oA 8 Tryz.underlying34 rfl ts3 rfl (oL 0 ts3 rfl (oM rfl (oE (stpU_call (fun i => 6 + i) cf117 (fun w hw => c_s_l6Tag fl w a0 a0.s a1 rfl (RO.pass hr0_0 hw) rfl (RO.pass hr0_1 hw) rfl (RO.pass hr0_2 hw) rfl (RO.pass hr0_3 hw) x9 e9) (yC rfl rfl rfl)) rfl ?_)))))))
 rintro _ _ ⟨_, ⟨rfl, rfl⟩, rfl⟩
 obtain ⟨x10, e10, H0⟩ := bS H0
 refine oM rfl (oT rfl (oT rfl (oS rfl (oS rfl (nn (sr (oB9 0 ts34 rfl (oE (stpU_call (fun i => 6 + i) cf35 (fun w hw => c_s_l6Copy fl w a0 rfl (RO.pass hr0_0 hw) rfl (RO.pass hr0_1 hw) rfl (RO.pass hr0_2 hw) rfl (RO.pass hr0_3 hw) x10 e10) (yA rfl)) rfl ?_))))))))
 rintro _ _ ⟨_, ⟨p11, _, c13, C14, p15, _, c17, C18, p19, _, c21, C22, p23, _, c25, C26, rfl, rfl, rfl, o14, rfl, o18, rfl, o22, rfl, o26⟩, rfl⟩
 refine oE (stpU_alloc 10 tz34 rfl) rfl ?_
 rintro _ _ ⟨b27, rfl, rfl⟩
 obtain ⟨x28, e28, H0⟩ := bS H0
 refine oC9 10 ts34 rfl rfl (nn (sr (oS rfl (nn (sr (oA 2 Tryz.underlying34 rfl ts29 rfl (oB2 0 ts29 rfl (oM rfl (oM rfl (oE (stpU_call (fun i => 11 + i) cf118 (fun w hw => c_s_l4Find fl w a0.c x9.1 a1 rfl (RO.pass hr0_2 hw) x28 e28) (yC rfl rfl rfl)) rfl ?_))))))))))
 rintro _ _ ⟨_, ⟨rfl, rfl⟩, rfl⟩
 refine oS rfl (nn (sr (oS rfl (nn (cw_seq (sr (oM rfl (oI rfl (nn (cw_cond rfl (fun h29 => ?_) (fun h29 => ?_)))))))))))
 ·have H0 := cond_t H0 h29
  obtain ⟨x30, e30, H0⟩ := bS H0
  refine cw_region (oA 2 Tryz.underlying34 rfl ts29 rfl (oA 0 Tryz.underlying29 rfl ts27 rfl (oL 0 ts27 rfl (oM rfl (oD (stp_indexAddr Tryz.underlying27 ts47 (by decide) rfl rfl rfl (Rdb.ro hr0_2) e30) rfl (oA 3 Tryz.underlying47 rfl ts3 rfl (oD (stp_load1 ts3 rfl (Cells.el (Rdb.ro hr0_2) (by decide) e30 3 1 rfl)) rfl (oS rfl (nn (cw_seq (sr (oA 0 Tryz.underlying34 rfl ts26 rfl (oA 1 Tryz.underlying26 rfl ts24 rfl ?_)))))))))))))
  obtain ⟨x31, e31, H0⟩ := bS H0
  obtain ⟨x32, e32, H0⟩ := bS H0
  refine oL 0 ts24 rfl (oM rfl (oD (stp_indexAddr Tryz.underlying24 ts51 (by decide) rfl rfl rfl (Rdb.ro hr0_1) e31) rfl (oA 3 Tryz.underlying51 rfl ts3 rfl (oD (stp_load1 ts3 rfl (Cells.el (Rdb.ro hr0_1) (by decide) e31 3 1 rfl)) rfl (oM rfl (oE (stpU_call (fun i => 11 + i) cf120 (fun w hw => c_s_Allows fl w x31.r a2 x32 e32) (yB rfl rfl)) rfl ?_))))))
  rintro _ _ ⟨_, ⟨rfl, rfl⟩, rfl⟩
  refine oK rfl (nn (cw_cond rfl (fun h33 => ?_) (fun h33 => ?_)))
  ·have H0 := cond_t H0 h33
   refine sr (oB9 10 ts34 rfl (oM rfl (oC9 1 ts34 rfl rfl (oS rfl (oS rfl (oS rfl (nn (cw_ret (kw_nx_ret ?_)))))))))
   obtain rfl := sI H0
   exact kr Tryz.results110 (.cons (.cellN (us := [_, _, _, _, _, _, _, _, _]) ts34 rfl (Cells.box (id := 1) rfl 9 rfl)) (.cons (.tmp rfl) (.cons (.tmp rfl) (rT rfl)))) [6, 7, 8, 9] ⟨_, _, _, _, _, _, _, _, _, _, _, _, _, _, _, _, rfl, rfl, rfl, o14, rfl, o18, rfl, o22, rfl, o26⟩
  have H0 := cond_f H0 h33
  refine cw_skip (kw_nx (sr (oB9 10 ts34 rfl (oM rfl (oM rfl (oC9 1 ts34 rfl rfl (oS rfl (oS rfl (oS rfl (nn (cw_ret ?_)))))))))))
  obtain rfl := sI H0
  exact kr Tryz.results110 (.cons (.cellN (us := [_, _, _, _, _, _, _, _, _]) ts34 rfl (Cells.box (id := 1) rfl 9 rfl)) (.cons (.tmp rfl) (.cons (.tmp rfl) (rT rfl)))) [6, 7, 8, 9] ⟨_, _, _, _, _, _, _, _, _, _, _, _, _, _, _, _, rfl, rfl, rfl, o14, rfl, o18, rfl, o22, rfl, o26⟩
 have H0 := cond_f H0 h29
 obtain ⟨x34, e34, H0⟩ := bS H0
 obtain ⟨x35, e35, H0⟩ := bS H0
 refine cw_seq (rdt g_mixed (rn 0 12) ⟨[[],[0],[],[0]], [], []⟩ (dA 0 rfl Tryz.underlying34 rfl ts26 rfl (dB2 0 ts26 rfl (dA 8 rfl Tryz.underlying34 rfl ts3 rfl (dL 0 ts3 rfl (dM rfl (dV rfl (fun hh => stpU_call (fun i => 11 + i) cf87 (fun w hw => c_s_KeyFor fl w a0.s a1 x34 e34) (yB rfl rfl)) rfl (dV rfl (fun hh => stpU_call (fun i => 11 + i) cf86 (fun w hw => c_s_l3Find fl w a0.t x34 rfl (RO.pass hr0_0 hw) rfl (RO.pass hr0_1 hw) x35 e35) (yB rfl rfl)) rfl (dM rfl (dT rfl (dT rfl (dS rfl (dS rfl ?_)))))))))))))
 refine dn (kw_nx (cw_seq (sr (oM rfl (oW rfl (nn (cw_cond rfl (fun h36 => ?_) (fun h36 => ?_))))))))
 ·have H0 := cond_t H0 h36
  refine sr (oB9 10 ts34 rfl (oC9 1 ts34 rfl rfl (oS rfl (oS rfl (oS rfl (nn (cw_ret (kw_nx_ret (kw_nx_ret ?_)))))))))
  obtain rfl := sI H0
  exact kr Tryz.results110 (.cons (.cellN (us := [_, _, _, _, _, _, _, _, _]) ts34 rfl (Cells.box (id := 1) rfl 9 rfl)) (.cons (.tmp rfl) (.cons (.tmp rfl) (rT rfl)))) [6, 7, 8, 9] ⟨_, _, _, _, _, _, _, _, _, _, _, _, _, _, _, _, rfl, rfl, rfl, o14, rfl, o18, rfl, o22, rfl, o26⟩
 have H0 := cond_f H0 h36
 obtain ⟨x37, e37, H0⟩ := bS H0
 refine cw_skip (kw_nx (sr (oB9 0 ts34 rfl (oM rfl (oM rfl (oM rfl (oE (stpU_call (fun i => 11 + i) cf119 (fun w hw => c_s_l6Fill fl w a0 a1 x35.1 x9.1 rfl (RO.pass hr0_0 hw) rfl (RO.pass hr0_1 hw) rfl (RO.pass hr0_2 hw) rfl (RO.pass hr0_3 hw) x37 e37) (yD rfl rfl rfl rfl)) rfl ?_)))))))
 rintro _ _ ⟨_, ⟨p38, _, c40, C41, p42, _, c44, C45, p46, _, c48, C49, p50, _, c52, C53, rfl, rfl, rfl, o41, rfl, o45, rfl, o49, rfl, o53⟩, rfl⟩
 refine oM rfl (oT rfl (oT rfl (oC9 10 ts34 rfl rfl (nn (sr (oM rfl (oS rfl (nn (cw_region (oS rfl (nn (cw_seq (sr ?_)))))))))))))
 obtain ⟨x54, e54, H0⟩ := bS H0
 obtain ⟨x55, e55, H0⟩ := bS H0
 refine oA 0 Tryz.underlying34 rfl ts26 rfl (oA 1 Tryz.underlying26 rfl ts24 rfl (oL 0 ts24 rfl (oM rfl (oD (stp_indexAddr Tryz.underlying24 ts51 (by decide) rfl rfl rfl (Rdb.ro hr0_1) e54) rfl (oA 3 Tryz.underlying51 rfl ts3 rfl (oD (stp_load1 ts3 rfl (Cells.el (Rdb.ro hr0_1) (by decide) e54 3 1 rfl)) rfl (oM rfl (oE (stpU_call (fun i => 15 + i) cf120 (fun w hw => c_s_Allows fl w x54.r a2 x55 e55) (yB rfl rfl)) rfl ?_))))))))
 rintro _ _ ⟨_, ⟨rfl, rfl⟩, rfl⟩
 refine oK rfl (nn (cw_cond rfl (fun h56 => ?_) (fun h56 => ?_)))
 ·have H0 := cond_t H0 h56
  refine sr (oB9 10 ts34 rfl (oM rfl (oC9 1 ts34 rfl rfl (oS rfl (oS rfl (oS rfl (nn (cw_ret (kw_nx_ret ?_)))))))))
  obtain rfl := sI H0
  exact kr Tryz.results110 (.cons (.cellN (us := [_, _, _, _, _, _, _, _, _]) ts34 rfl (Cells.box (id := 1) rfl 9 rfl)) (.cons (.tmp rfl) (.cons (.tmp rfl) (rT rfl)))) [11, 12, 13, 14] ⟨_, _, _, _, _, _, _, _, _, _, _, _, _, _, _, _, rfl, rfl, rfl, o41, rfl, o45, rfl, o49, rfl, o53⟩
 have H0 := cond_f H0 h56
 refine cw_skip (kw_nx (sr (oB9 10 ts34 rfl (oM rfl (oM rfl (oC9 1 ts34 rfl rfl (oS rfl (oS rfl (oS rfl (nn (cw_ret ?_)))))))))))
 obtain rfl := sI H0
 exact kr Tryz.results110 (.cons (.cellN (us := [_, _, _, _, _, _, _, _, _]) ts34 rfl (Cells.box (id := 1) rfl 9 rfl)) (.cons (.tmp rfl) (.cons (.tmp rfl) (rT rfl)))) [11, 12, 13, 14] ⟨_, _, _, _, _, _, _, _, _, _, _, _, _, _, _, _, rfl, rfl, rfl, o41, rfl, o45, rfl, o49, rfl, o53⟩

theorem c_s_WireLine (fl : Nat) (w : World) (a0 : Ca) (a1 : Int) (a2 : Bool) (hn0_0 : n0_0 = (a0.l).length) (hr0_0 : RO w (hkeys []) (RdL p0_0 c0_0 a0.l)) (r : Ca × Bool) (H0 : s_WireLine fl a0 a1 a2 = some r) :
  Ct Tryz.prog 121 [.agg #[.slice p0_0 n0_0 c0_0, .int .i64 a0.h], .int .i64 a1, .bool a2] w [] (fun rv h' => ∃ (x0 : Option Addr) (y0 z0 : Nat) (C0 : Res), rv = .tuple #[.agg #[.slice x0 y0 z0, .int .i64 r.1.h], .bool r.2] ∧ h' = [(0, C0)] ∧ y0 = (r.1.l).length ∧ OwnC 47 x0 z0 r.1.l C0) := by
 subst hn0_0
 unfold s_WireLine at H0
 refine ct_of_cw Tryz.func121 rfl Tryz.ntmps121 rfl (Sat.refl _ _) ?_
 refine sr (oE (stpU_box 0 rfl rfl) rfl ?_)
 rintro _ _ ⟨b1, rfl, rfl⟩
 refine oE (stpU_alloc 1 tz29 rfl) rfl ?_
 rintro _ _ ⟨b2, rfl, rfl⟩
 obtain ⟨x3, e3, H0⟩ := bS H0
 refine oS rfl (nn (cw_seq (sr (oB2 0 ts29 rfl (oE (stpU_call (fun i => 2 + i) cf44 (fun w hw => c_s_CacheValid fl w a0 rfl (RO.pass hr0_0 hw) x3 e3) (yA rfl)) rfl ?_)))))
 rintro _ _ ⟨_, ⟨rfl, rfl⟩, rfl⟩
 obtain ⟨y4, ey4, H0⟩ := bS H0
 refine oK rfl (oM rfl (ow_cutY 3 15 y4 ?_ ?_))
 ·rcases Bool.eq_false_or_eq_true (!x3) with hy4 | hy4
  ·have ey4 := cond_t ey4 hy4
   refine oO rfl hy4 rfl (oO rfl hy4 rfl (oD (stp_pick_t rfl hy4 rfl) rfl ?_))
   obtain rfl := sI ey4
   exact ow_nil (jy 3 0)
  have ey4 := cond_f ey4 hy4
  refine oG rfl hy4 (mv rfl) rfl (oG rfl hy4 (stp_lss rfl rfl) rfl (oD (stp_pick_f rfl hy4 rfl) rfl ?_))
  obtain rfl := sI ey4
  exact ow_nil (jy 3 0)
 obtain ⟨y5, ey5, H0⟩ := bS H0
 refine oM rfl (ow_cutY 6 22 y5 ?_ ?_)
 ·rcases Bool.eq_false_or_eq_true y4 with hy5 | hy5
  ·have ey5 := cond_t ey5 hy5
   refine oO rfl hy5 rfl (oO rfl hy5 rfl (oO rfl hy5 rfl (oO rfl hy5 rfl (oO rfl hy5 rfl (oD (stp_pick_t rfl hy5 rfl) rfl ?_)))))
   obtain rfl := sI ey5
   exact ow_nil (jy 6 0)
  have ey5 := cond_f ey5 hy5
  refine oG rfl hy5 (mv rfl) rfl (oG rfl hy5 (fA 0 Tryz.underlying29 rfl ts27 rfl rfl rfl) rfl (oG rfl hy5 (lB 0 ts27 rfl rfl rfl) rfl (oG rfl hy5 (stp_len Tryz.underlying27 rfl) rfl (oG rfl hy5 (stp_geq rfl rfl) rfl (oD (stp_pick_f rfl hy5 rfl) rfl ?_)))))
  obtain rfl := sI ey5
  exact ow_nil (jy 6 0)
 obtain ⟨y6, ey6, H0⟩ := bS H0
 refine oM rfl (ow_cutY 8 31 y6 ?_ ?_)
 ·rcases Bool.eq_false_or_eq_true y5 with hy6 | hy6
  ·have ey6 := cond_t ey6 hy6
   refine oO rfl hy6 rfl (oO rfl hy6 rfl (oO rfl hy6 rfl (oO rfl hy6 rfl (oO rfl hy6 rfl (oO rfl hy6 rfl (oO rfl hy6 rfl (oD (stp_pick_t rfl hy6 rfl) rfl ?_)))))))
   obtain rfl := sI ey6
   exact ow_nil (jy 8 0)
  have ey6 := cond_f ey6 hy6
  obtain ⟨x7, e7, ey6⟩ := bS ey6
  refine oG rfl hy6 (fA 0 Tryz.underlying29 rfl ts27 rfl rfl rfl) rfl (oG rfl hy6 (lB 0 ts27 rfl rfl rfl) rfl (oG rfl hy6 (mv rfl) rfl (oG rfl hy6 (stp_indexAddr Tryz.underlying27 ts47 (by decide) rfl rfl rfl (Rdb.ro hr0_0) e7) rfl (oG rfl hy6 (fA 0 Tryz.underlying47 rfl ts4 rfl rfl rfl) rfl (oG rfl hy6 (stp_load1 ts4 rfl (Cells.el (Rdb.ro hr0_0) (by decide) e7 0 1 rfl)) rfl (oG rfl hy6 (stp_not rfl) rfl (oD (stp_pick_f rfl hy6 rfl) rfl ?_)))))))
  obtain rfl := sI ey6
  exact ow_nil (jy 8 0)
 refine ow_nil (kw_nx (cw_cond rfl (fun h8 => ?_) (fun h8 => ?_)))
 ·have H0 := cond_t H0 h8
  refine sr (oD (stp_build (cs := #[.slice none 0 0, .int .i64 0]) sevp_nil bt29_2) rfl (oC2 1 ts29 rfl rfl (oS rfl (nn (cw_ret (kw_nx_ret (kw_addNil 2 ?_)))))))
  obtain rfl := sI H0
  exact kr Tryz.results121 (.cons (.cellN (us := [_, _]) ts29 rfl (Cells.box (id := 1) rfl 2 rfl)) (rT rfl)) [2] ⟨_, _, _, _, rfl, rfl, rfl, (OwnC.nil _ _)⟩
 have H0 := cond_f H0 h8
 obtain ⟨x9, e9, H0⟩ := bS H0
 refine cw_skip (kw_nx (sr (oB2 0 ts29 rfl (oE (stpU_call (fun i => 3 + i) cf67 (fun w hw => c_s_l4Copy fl w a0 rfl (RO.pass hr0_0 hw) x9 e9) (yA rfl)) rfl ?_))))
 rintro _ _ ⟨_, ⟨p10, _, c12, C13, rfl, rfl, rfl, o13⟩, rfl⟩
 refine oE (stpU_alloc 4 tz29 rfl) rfl ?_
 rintro _ _ ⟨b14, rfl, rfl⟩
 obtain ⟨x15, e15, H0⟩ := bS H0
 refine oC2 4 ts29 rfl rfl (nn (sr (oA 0 Tryz.underlying29 rfl ts27 rfl (oL 4 ts27 rfl (oM rfl (oM rfl (oD (stp_indexAddr Tryz.underlying27 ts47 (by decide) rfl rfl rfl (Rdb.own (id := 3) rfl o13) e15) rfl (oA 5 Tryz.underlying47 rfl ts4 rfl (oF (stpU_storeEl (id := 3) (i := 5) (⟨x15.va, x15.tg, x15.pg, x15.fr, x15.ri, a2⟩ : Ln) (by decide) ts4 rfl rfl rfl o13 e15 rfl rfl rfl rfl) ?_)))))))))
 rintro _ _ ⟨C16, rfl, o16⟩
 obtain ⟨x17, e17, H0⟩ := bS H0
 refine nn (cw_seq (sr (oB2 4 ts29 rfl (oE (stpU_call (fun i => 5 + i) cf44 (fun w hw => c_s_CacheValid fl w (⟨(x9.l.set (Int.toNat a1) (⟨x15.va, x15.tg, x15.pg, x15.fr, x15.ri, a2⟩ : Ln)), x9.h⟩ : Ca) (by simp) (OwnC.pass (id := 3) rfl o16 hw) x17 e17) (yA rfl)) rfl ?_))))
 rintro _ _ ⟨_, ⟨rfl, rfl⟩, rfl⟩
 refine oK rfl (nn (cw_cond rfl (fun h18 => ?_) (fun h18 => ?_)))
 ·have H0 := cond_t H0 h18
  refine sr (oD (stp_build (cs := #[.slice none 0 0, .int .i64 0]) sevp_nil bt29_2) rfl (oC2 1 ts29 rfl rfl (oS rfl (nn (cw_ret (kw_nx_ret (kw_addNil 5 ?_)))))))
  obtain rfl := sI H0
  exact kr Tryz.results121 (.cons (.cellN (us := [_, _]) ts29 rfl (Cells.box (id := 1) rfl 2 rfl)) (rT rfl)) [5] ⟨_, _, _, _, rfl, rfl, rfl, (OwnC.nil _ _)⟩
 have H0 := cond_f H0 h18
 refine cw_skip (kw_nx (sr (oB2 4 ts29 rfl (oC2 1 ts29 rfl rfl (oS rfl (nn (cw_ret ?_)))))))
 obtain rfl := sI H0
 exact kr Tryz.results121 (.cons (.cellN (us := [_, _]) ts29 rfl (Cells.box (id := 1) rfl 2 rfl)) (rT rfl)) [3] ⟨_, _, _, _, rfl, rfl, (by simp), o16⟩

theorem c_s_WirePage (fl : Nat) (w : World) (a0 : Mc) (a1 : Int) (hn0_0 : n0_0 = (a0.t.b).length) (hr0_0 : RO w (hkeys []) (RdL p0_0 c0_0 a0.t.b)) (hn0_1 : n0_1 = (a0.t.f).length) (hr0_1 : RO w (hkeys []) (RdL p0_1 c0_1 a0.t.f)) (hn0_2 : n0_2 = (a0.c.l).length) (hr0_2 : RO w (hkeys []) (RdL p0_2 c0_2 a0.c.l)) (hn0_3 : n0_3 = (a0.g.o).length) (hr0_3 : RO w (hkeys []) (RdL p0_3 c0_3 a0.g.o)) (r : Mc × Bool) (H0 : s_WirePage fl a0 a1 = some r) :
  Ct Tryz.prog 111 [.agg #[.slice p0_0 n0_0 c0_0, .slice p0_1 n0_1 c0_1, .slice p0_2 n0_2 c0_2, .int .i64 a0.c.h, .int .i64 a0.g.c, .int .i64 a0.g.n, .int .i64 a0.g.r, .slice p0_3 n0_3 c0_3, .int .i64 a0.s], .int .i64 a1] w [] (fun rv h' => ∃ (x0 : Option Addr) (y0 z0 : Nat) (C0 : Res) (x1 : Option Addr) (y1 z1 : Nat) (C1 : Res) (x2 : Option Addr) (y2 z2 : Nat) (C2 : Res) (x3 : Option Addr) (y3 z3 : Nat) (C3 : Res), rv = .tuple #[.agg #[.slice x0 y0 z0, .slice x1 y1 z1, .slice x2 y2 z2, .int .i64 r.1.c.h, .int .i64 r.1.g.c, .int .i64 r.1.g.n, .int .i64 r.1.g.r, .slice x3 y3 z3, .int .i64 r.1.s], .bool r.2] ∧ h' = [(0, C0), (1, C1), (2, C2), (3, C3)] ∧ y0 = (r.1.t.b).length ∧ OwnC 3 x0 z0 r.1.t.b C0 ∧ y1 = (r.1.t.f).length ∧ OwnC 51 x1 z1 r.1.t.f C1 ∧ y2 = (r.1.c.l).length ∧ OwnC 47 x2 z2 r.1.c.l C2 ∧ y3 = (r.1.g.o).length ∧ OwnC 89 x3 z3 r.1.g.o C3) := by
 subst hn0_0 hn0_1 hn0_2 hn0_3
 unfold s_WirePage at H0
 refine ct_of_cw Tryz.func111 rfl Tryz.ntmps111 rfl (Sat.refl _ _) ?_
 refine sr (oE (stpU_box 0 rfl rfl) rfl ?_)
 rintro _ _ ⟨b1, rfl, rfl⟩
 refine oE (stpU_alloc 1 tz34 rfl) rfl ?_
 rintro _ _ ⟨b2, rfl, rfl⟩
 obtain ⟨x3, e3, H0⟩ := bS H0
 refine oS rfl (nn (sr (oB9 0 ts34 rfl (oM rfl (oE (stpU_call (fun i => 2 + i) cf110 (fun w hw => c_s_TouchPage fl w a0 a1 0 rfl (RO.pass hr0_0 hw) rfl (RO.pass hr0_1 hw) rfl (RO.pass hr0_2 hw) rfl (RO.pass hr0_3 hw) x3 e3) (yC rfl rfl rfl)) rfl ?_)))))
 rintro _ _ ⟨_, ⟨p4, _, c6, C7, p8, _, c10, C11, p12, _, c14, C15, p16, _, c18, C19, rfl, rfl, rfl, o7, rfl, o11, rfl, o15, rfl, o19⟩, rfl⟩
 refine oM rfl (oT rfl (oT rfl (oT rfl (oT rfl (oE (stpU_alloc 6 tz34 rfl) rfl ?_)))))
 rintro _ _ ⟨b20, rfl, rfl⟩
 obtain ⟨y21, ey21, H0⟩ := bS H0
 refine oC9 6 ts34 rfl rfl (oS rfl (oS rfl (oS rfl (nn (cw_seq (sr (oM rfl (oK rfl (oM rfl (ow_cutY 3 25 y21 ?_ ?_))))))))))
 ·rcases Bool.eq_false_or_eq_true (!x3.2.2.2) with hy21 | hy21
  ·have ey21 := cond_t ey21 hy21
   refine oO rfl hy21 rfl (oO rfl hy21 rfl (oD (stp_pick_t rfl hy21 rfl) rfl ?_))
   obtain rfl := sI ey21
   exact ow_nil (jy 3 0)
  have ey21 := cond_f ey21 hy21
  refine oG rfl hy21 (mv rfl) rfl (oG rfl hy21 (stp_eql rfl rfl) rfl (oD (stp_pick_f rfl hy21 rfl) rfl ?_))
  obtain rfl := sI ey21
  exact ow_nil (jy 3 0)
 obtain ⟨y22, ey22, H0⟩ := bS H0
 refine oM rfl (ow_cutY 3 29 y22 ?_ ?_)
 ·rcases Bool.eq_false_or_eq_true y21 with hy22 | hy22
  ·have ey22 := cond_t ey22 hy22
   refine oO rfl hy22 rfl (oO rfl hy22 rfl (oD (stp_pick_t rfl hy22 rfl) rfl ?_))
   obtain rfl := sI ey22
   exact ow_nil (jy 3 0)
  have ey22 := cond_f ey22 hy22
  refine oG rfl hy22 (mv rfl) rfl (oG rfl hy22 (stp_lss rfl rfl) rfl (oD (stp_pick_f rfl hy22 rfl) rfl ?_))
  obtain rfl := sI ey22
  exact ow_nil (jy 3 0)
 refine ow_nil (kw_nx (cw_cond rfl (fun h23 => ?_) (fun h23 => ?_)))
 ·have H0 := cond_t H0 h23
  refine sr (oD (stp_build (cs := #[.slice none 0 0, .slice none 0 0, .slice none 0 0, .int .i64 0, .int .i64 0, .int .i64 0, .int .i64 0, .slice none 0 0, .int .i64 0]) sevp_nil bt34_6) rfl (oC9 1 ts34 rfl rfl (oS rfl (nn (cw_ret (kw_nx_ret (kw_addNil 7 (kw_addNil 8 (kw_addNil 9 (kw_addNil 10 ?_))))))))))
  obtain rfl := sI H0
  exact kr Tryz.results111 (.cons (.cellN (us := [_, _, _, _, _, _, _, _, _]) ts34 rfl (Cells.box (id := 1) rfl 9 rfl)) (rT rfl)) [7, 8, 9, 10] ⟨_, _, _, _, _, _, _, _, _, _, _, _, _, _, _, _, rfl, rfl, rfl, (OwnC.nil _ _), rfl, (OwnC.nil _ _), rfl, (OwnC.nil _ _), rfl, (OwnC.nil _ _)⟩
 have H0 := cond_f H0 h23
 obtain ⟨x24, e24, H0⟩ := bS H0
 obtain ⟨x25, e25, H0⟩ := bS H0
 refine cw_skip (kw_nx (cw_seq (rdt g_mixed [.n 0, .n 1, .n 2, .n 3, .n 4, .n 5, .d 6, .d 10, .o 6, .n 7, .n 8, .n 9, .o 10, .n 11, .n 12] ⟨[[],[6],[],[6],[],[4],[4],[],[],[],[],[12]], [[],[],[],[],[],[],[11],[],[],[],[12],[12]], [6,10]⟩ (dA 2 rfl Tryz.underlying34 rfl ts29 rfl (dB2 6 ts29 rfl (dA 2 rfl Tryz.underlying34 rfl ts29 rfl (dB2 6 ts29 rfl (dM rfl (dV rfl (fun hh => stpU_call (fun i => 11 + i) cf118 (fun w hw => c_s_l4Find fl w x3.1.c (-1) a1 rfl (OwnC.pass (id := 4) (hh _ _ rfl) o15 hw) x24 e24) (yC rfl rfl rfl)) rfl (dq rfl (fun hh => stpU_call (fun i => 11 + i) cf121 (fun w hw => c_s_WireLine fl w x3.1.c x24 true rfl (OwnC.pass (id := 4) (hh _ _ rfl) o15 hw) x25 e25) (yC rfl rfl rfl)) (by rintro _ _ ⟨_, ⟨_, _, _, _, rfl, rfl, _, _⟩, rfl⟩; rfl) (dq rfl (fun hh => stpU_alloc 12 tz29 rfl) (by rintro _ _ ⟨_, rfl, rfl⟩; rfl) (dp rfl ?_))))))))))))
 rintro _ _ ⟨_, ⟨p26, _, c28, C29, rfl, rfl, rfl, o29⟩, rfl⟩
 refine dM rfl (dT rfl (dT rfl (dp rfl ?_)))
 rintro _ _ ⟨b30, rfl, rfl⟩
 refine dC2 12 ts29 rfl rfl rfl (dS rfl (dn (kw_nx (cw_seq (sr (oM rfl (oK rfl (nn (cw_cond rfl (fun h31 => ?_) (fun h31 => ?_))))))))))
 ·have H0 := cond_t H0 h31
  refine sr (oD (stp_build (cs := #[.slice none 0 0, .slice none 0 0, .slice none 0 0, .int .i64 0, .int .i64 0, .int .i64 0, .int .i64 0, .slice none 0 0, .int .i64 0]) sevp_nil bt34_6) rfl (oC9 1 ts34 rfl rfl (oS rfl (nn (cw_ret (kw_nx_ret (kw_addNil 13 (kw_addNil 14 (kw_addNil 15 (kw_addNil 16 ?_))))))))))
  obtain rfl := sI H0
  exact kr Tryz.results111 (.cons (.cellN (us := [_, _, _, _, _, _, _, _, _]) ts34 rfl (Cells.box (id := 1) rfl 9 rfl)) (rT rfl)) [13, 14, 15, 16] ⟨_, _, _, _, _, _, _, _, _, _, _, _, _, _, _, _, rfl, rfl, rfl, (OwnC.nil _ _), rfl, (OwnC.nil _ _), rfl, (OwnC.nil _ _), rfl, (OwnC.nil _ _)⟩
 have H0 := cond_f H0 h31
 refine cw_skip (kw_nx (sr (oB2 12 ts29 rfl (oA 2 Tryz.underlying34 rfl ts29 rfl (oC9 6 ts29 rfl rfl (nn (sr (oB9 6 ts34 rfl (oC9 1 ts34 rfl rfl (oS rfl (nn (cw_ret ?_))))))))))))
 obtain rfl := sI H0
 exact kr Tryz.results111 (.cons (.cellN (us := [_, _, _, _, _, _, _, _, _]) ts34 rfl (Cells.box (id := 1) rfl 9 rfl)) (rT rfl)) [2, 3, 11, 5] ⟨_, _, _, _, _, _, _, _, _, _, _, _, _, _, _, _, rfl, rfl, rfl, o7, rfl, o11, rfl, o29, rfl, o19⟩

theorem c_s_FindPage (fl : Nat) (w : World) (a0 : T) (a1 : K) (hn0_0 : n0_0 = (a0.b).length) (hr0_0 : RO w (hkeys []) (RdL p0_0 c0_0 a0.b)) (hn0_1 : n0_1 = (a0.f).length) (hr0_1 : RO w (hkeys []) (RdL p0_1 c0_1 a0.f)) (r : Int × Int × Bool) (H0 : s_FindPage fl a0 a1 = some r) :
  Ct Tryz.prog 128 [.agg #[.slice p0_0 n0_0 c0_0, .slice p0_1 n0_1 c0_1], .agg #[.int .i64 a1.s, .int .i64 a1.p]] w [] (fun rv h' => rv = .tuple #[.int .i64 r.1, .int .i64 r.2.1, .bool r.2.2] ∧ h' = []) := by
 subst hn0_0 hn0_1
 unfold s_FindPage at H0
 refine ct_of_cw Tryz.func128 rfl Tryz.ntmps128 rfl (Sat.refl _ _) ?_
 refine sr (oE (stpU_box 0 rfl rfl) rfl ?_)
 rintro _ _ ⟨b1, rfl, rfl⟩
 refine oE (stpU_box 1 rfl rfl) rfl ?_
 rintro _ _ ⟨b2, rfl, rfl⟩
 obtain ⟨x3, e3, H0⟩ := bS H0
 refine oS rfl (oS rfl (oS rfl (nn (cw_seq (sr (oB2 0 ts26 rfl (oE (stpU_call (fun i => 2 + i) cf43 (fun w hw => c_s_TableValid fl w a0 rfl (RO.pass hr0_0 hw) rfl (RO.pass hr0_1 hw) x3 e3) (yA rfl)) rfl ?_)))))))
 rintro _ _ ⟨_, ⟨rfl, rfl⟩, rfl⟩
 obtain ⟨y4, ey4, H0⟩ := bS H0
 refine oK rfl (oM rfl (ow_cutY 4 16 y4 ?_ ?_))
 ·rcases Bool.eq_false_or_eq_true (!x3) with hy4 | hy4
  ·have ey4 := cond_t ey4 hy4
   refine oO rfl hy4 rfl (oO rfl hy4 rfl (oO rfl hy4 rfl (oD (stp_pick_t rfl hy4 rfl) rfl ?_)))
   obtain rfl := sI ey4
   exact ow_nil (jy 4 0)
  have ey4 := cond_f ey4 hy4
  obtain ⟨x5, e5, ey4⟩ := bS ey4
  refine oG rfl hy4 (stp_loadN (us := [_, _]) ts49 rfl (Cells.box (id := 1) rfl 2 rfl)) rfl (ow_eff (.some rfl hy4) (stpU_call (fun i => 2 + i) cf99 (fun w hw => c_s_KeyValid fl w a1 x5 e5) (yA rfl)) rfl ?_)
  rintro _ _ ⟨_, ⟨rfl, rfl⟩, rfl⟩
  refine oG rfl hy4 (stp_not rfl) rfl (oD (stp_pick_f rfl hy4 rfl) rfl ?_)
  obtain rfl := sI ey4
  exact ow_nil (jy 4 0)
 refine ow_nil (kw_nx (cw_cond rfl (fun h6 => ?_) (fun h6 => ?_)))
 ·have H0 := cond_t H0 h6
  refine sr (oS rfl (oS rfl (oS rfl (nn (cw_ret (kw_nx_ret ?_))))))
  obtain rfl := sI H0
  exact kr Tryz.results128 (.cons (.tmp rfl) (.cons (.tmp rfl) (rT rfl))) [] ⟨rfl, rfl⟩
 have H0 := cond_f H0 h6
 obtain ⟨x7, e7, H0⟩ := bS H0
 refine cw_skip (kw_nx (sr (oB2 0 ts26 rfl (oB2 1 ts49 rfl (oE (stpU_call (fun i => 2 + i) cf86 (fun w hw => c_s_l3Find fl w a0 a1 rfl (RO.pass hr0_0 hw) rfl (RO.pass hr0_1 hw) x7 e7) (yB rfl rfl)) rfl ?_)))))
 rintro _ _ ⟨_, ⟨rfl, rfl⟩, rfl⟩
 refine oM rfl (oT rfl (oT rfl (oS rfl (oS rfl (nn (cw_seq (sr (oM rfl (oW rfl (nn (cw_cond rfl (fun h8 => ?_) (fun h8 => ?_))))))))))))
 ·have H0 := cond_t H0 h8
  refine sr (oM rfl (oS rfl (oS rfl (oS rfl (nn (cw_ret (kw_nx_ret ?_)))))))
  obtain rfl := sI H0
  exact kr Tryz.results128 (.cons (.tmp rfl) (.cons (.tmp rfl) (rT rfl))) [] ⟨rfl, rfl⟩
 have H0 := cond_f H0 h8
 refine cw_skip (kw_nx (sr (oM rfl (oM rfl (oS rfl (oS rfl (oS rfl (nn (cw_ret ?_)))))))))
 obtain rfl := sI H0
 exact kr Tryz.results128 (.cons (.tmp rfl) (.cons (.tmp rfl) (rT rfl))) [] ⟨rfl, rfl⟩

theorem c_s_l3Unmap (fl : Nat) (w : World) (a0 : T) (a1 : Int) (hn0_0 : n0_0 = (a0.b).length) (hr0_0 : RO w (hkeys []) (RdL p0_0 c0_0 a0.b)) (hn0_1 : n0_1 = (a0.f).length) (hr0_1 : RO w (hkeys []) (RdL p0_1 c0_1 a0.f)) (r : T) (H0 : s_l3Unmap fl a0 a1 = some r) :
  Ct Tryz.prog 129 [.agg #[.slice p0_0 n0_0 c0_0, .slice p0_1 n0_1 c0_1], .int .i64 a1] w [] (fun rv h' => ∃ (x0 : Option Addr) (y0 z0 : Nat) (C0 : Res) (x1 : Option Addr) (y1 z1 : Nat) (C1 : Res), rv = .agg #[.slice x0 y0 z0, .slice x1 y1 z1] ∧ h' = [(0, C0), (1, C1)] ∧ y0 = (r.b).length ∧ OwnC 3 x0 z0 r.b C0 ∧ y1 = (r.f).length ∧ OwnC 51 x1 z1 r.f C1) := by
 subst hn0_0 hn0_1
 unfold s_l3Unmap at H0
 refine ct_of_cw Tryz.func129 rfl Tryz.ntmps129 rfl (Sat.refl _ _) ?_
 refine sr (oE (stpU_box 0 rfl rfl) rfl ?_)
 rintro _ _ ⟨b1, rfl, rfl⟩
 refine oE (stpU_alloc 1 tz26 rfl) rfl ?_
 rintro _ _ ⟨b2, rfl, rfl⟩
 obtain ⟨x3, e3, H0⟩ := bS H0
 refine nn (sr (oB2 0 ts26 rfl (oE (stpU_call (fun i => 2 + i) cf66 (fun w hw => c_s_l3Copy fl w a0 rfl (RO.pass hr0_0 hw) rfl (RO.pass hr0_1 hw) x3 e3) (yA rfl)) rfl ?_)))
 rintro _ _ ⟨_, ⟨p4, _, c6, C7, p8, _, c10, C11, rfl, rfl, rfl, o7, rfl, o11⟩, rfl⟩
 refine oE (stpU_alloc 4 tz26 rfl) rfl ?_
 rintro _ _ ⟨b12, rfl, rfl⟩
 obtain ⟨x13, e13, H0⟩ := bS H0
 obtain ⟨x14, e14, H0⟩ := bS H0
 refine oC2 4 ts26 rfl rfl (nn (cw_seq (rdt g_mixed (rn 0 11) ⟨[[],[0],[],[],[],[],[],[0]], [], []⟩ (dA 1 rfl Tryz.underlying26 rfl ts24 rfl (dL 0 ts24 rfl (dM rfl (dD rfl (stp_indexAddr Tryz.underlying24 ts51 (by decide) rfl rfl rfl (Rdb.ro hr0_1) e13) (dA 1 rfl Tryz.underlying51 rfl ts49 rfl (dD rfl (stp_loadN (us := [_, _]) ts49 rfl (Cells.el (Rdb.ro hr0_1) (by decide) e13 1 2 rfl)) (dA 0 rfl Tryz.underlying26 rfl ts23 rfl (dL 0 ts23 rfl (dD rfl (stp_len Tryz.underlying23 rfl) (dV rfl (fun hh => stpU_call (fun i => 5 + i) cf82 (fun w hw => c_s_l2Hash fl w x13.k ((a0.b).length : Int) x14 e14) (yB rfl rfl)) rfl ?_)))))))))))))
 refine dS rfl (dn (kw_nx (sr (oA 1 Tryz.underlying26 rfl ts24 rfl (oL 0 ts24 rfl (oM rfl (oD (stp_indexAddr Tryz.underlying24 ts51 (by decide) rfl rfl rfl (Rdb.ro hr0_1) e13) rfl (oA 4 Tryz.underlying51 rfl ts3 rfl (oD (stp_load1 ts3 rfl (Cells.el (Rdb.ro hr0_1) (by decide) e13 4 1 rfl)) rfl (oS rfl (nn (sr (oA 1 Tryz.underlying26 rfl ts24 rfl ?_)))))))))))))
 obtain ⟨x15, e15, H0⟩ := bS H0
 refine oL 4 ts24 rfl (oM rfl (oD (stp_build (cs := #[.bool false, .int .i64 0, .int .i64 0, .int .i64 0, .int .i64 (-1)]) (sevp_cons rfl sevp_nil) bt51_1) rfl (oD (stp_indexAddr Tryz.underlying24 ts51 (by decide) rfl rfl rfl (Rdb.own (id := 3) rfl o11) e15) rfl (oF (stpU_storeEl (id := 3) (i := 0) (⟨false, (⟨0, 0⟩ : K), 0, (-1)⟩ : F) (by decide) ts51 rfl rfl rfl o11 e15 rfl rfl rfl rfl) ?_))))
 rintro _ _ ⟨C16, rfl, o16⟩
 obtain ⟨x17, e17, H0⟩ := bS H0
 refine nn (cw_seq (sr (oA 0 Tryz.underlying26 rfl ts23 rfl (oL 0 ts23 rfl (oM rfl (oD (stp_indexAddr Tryz.underlying23 ts3 (by decide) rfl rfl rfl (Rdb.ro hr0_0) e17) rfl (oD (stp_load1 ts3 rfl (Cells.el (Rdb.ro hr0_0) (by decide) e17 0 1 rfl)) rfl (oM rfl (oQ rfl (nn (cw_cond rfl (fun h18 => ?_) (fun h18 => ?_))))))))))))
 ·have H0 := cond_t H0 h18
  obtain ⟨x19, e19, H0⟩ := bS H0
  refine sr (oA 0 Tryz.underlying26 rfl ts23 rfl (oL 4 ts23 rfl (oM rfl (oM rfl (oD (stp_indexAddr Tryz.underlying23 ts3 (by decide) rfl rfl rfl (Rdb.own (id := 2) rfl o7) e19) rfl (oF (stpU_storeEl (id := 2) (i := 0) x13.nx (by decide) ts3 rfl rfl rfl o7 e19 rfl rfl rfl rfl) ?_))))))
  rintro _ _ ⟨C20, rfl, o20⟩
  refine nn (sr (oB2 4 ts26 rfl (oC2 1 ts26 rfl rfl (nn (cw_ret (kw_nx_ret ?_))))))
  obtain rfl := sI H0
  exact kr Tryz.results129 (rC2 1 ts26 rfl rfl) [2, 3] ⟨_, _, _, _, _, _, _, _, rfl, rfl, (by simp), o20, (by simp), o16⟩
 have H0 := cond_f H0 h18
 obtain ⟨o0_0, eo0_0, H0⟩ := bS H0
 refine cw_skip (kw_nx (cw_seq (sr (oS rfl (nn (cw_join (ι := (List F) × Int × Res) (fun | (v21, v23, C22) => o0_0 = .out (v21, v23) ∧ (x3.f).length = (v21).length ∧ OwnC 51 p8 c10 v21 C22) (fun | (v21, v23, C22) => [(1, .int .i64 a1), (2, .pointer (some ⟨b1, 0, none⟩)), (4, .pointer (some ⟨b2, 0, none⟩)), (5, .pointer (some ⟨b12, 0, none⟩)), (7, .int .i64 x13.nx), (8, .int .i64 v23)]) (fun | (v21, v23, C22) => [(0, [(b1, .cells #[.slice p0_0 ((a0.b).length) c0_0, .slice p0_1 ((a0.f).length) c0_1] 26 (0, 0))]), (1, [(b2, .cells #[.slice none 0 0, .slice none 0 0] 26 (0, 0))]), (2, C7), (3, C22), (4, [(b12, .cells #[.slice p4 ((x3.b).length) c6, .slice p8 ((x3.f).length) c10] 26 (0, 0))])]) ?_ ?_))))))
 ·refine cw_block (cw_loopS (ι := Nat × (List F) × Int × Res) (js := [0, 1, 2, 3, 4]) (fun x => x.1) (fun | (fuel, v21, v23, C22) => s_l3Unmap_L0 fl a0 a1 x13 fuel v21 v23 = some o0_0 ∧ (x3.f).length = (v21).length ∧ OwnC 51 p8 c10 v21 C22) (fun | (_, v21, v23, C22) => [(1, .int .i64 a1), (2, .pointer (some ⟨b1, 0, none⟩)), (4, .pointer (some ⟨b2, 0, none⟩)), (5, .pointer (some ⟨b12, 0, none⟩)), (7, .int .i64 x13.nx), (8, .int .i64 v23)]) (fun | (_, v21, v23, C22) => [(0, [(b1, .cells #[.slice p0_0 ((a0.b).length) c0_0, .slice p0_1 ((a0.f).length) c0_1] 26 (0, 0))]), (1, [(b2, .cells #[.slice none 0 0, .slice none 0 0] 26 (0, 0))]), (2, C7), (3, C22), (4, [(b12, .cells #[.slice p4 ((x3.b).length) c6, .slice p8 ((x3.f).length) c10] 26 (0, 0))])]) (fl, (x3.f.set (Int.toNat a1) (⟨false, (⟨0, 0⟩ : K), 0, (-1)⟩ : F)), 0, C16) ⟨eo0_0, (by simp), o16⟩ ⟨rfl, rfl, rfl, rfl, rfl, rfl, trivial⟩ ⟨0, [1, 2, 3, 4], rfl, rfl, 1, [2, 3, 4], rfl, rfl, 2, [3, 4], rfl, rfl, 3, [4], rfl, rfl, 4, [], rfl, rfl, trivial⟩ (by decide) ?_)
  rintro ⟨fuel, v21, v23, C22⟩ ⟨H1, hl22, o22⟩
  have H1 : s_l3Unmap_L0 fl a0 a1 x13 fuel v21 v23 = some o0_0 := H1
  rcases fuel with _ | fuel
  ·rw [s_l3Unmap_L0.eq_1] at H1; cases H1
  rw [s_l3Unmap_L0.eq_2] at H1
  dsimp only
  refine cw_seq (sr (oM rfl (oA 1 Tryz.underlying26 rfl ts24 rfl (oL 0 ts24 rfl (oD (stp_len Tryz.underlying24 rfl) rfl (oW rfl (nn (cw_cond rfl (fun h24 => ?_) (fun h24 => ?_)))))))))
  ·have H1 := cond_t H1 h24
   obtain ⟨x25, e25, H1⟩ := bS H1
   obtain ⟨y26, ey26, H1⟩ := bS H1
   refine cw_skip (kw_nx (cw_seq (cw_block (sr (oA 1 Tryz.underlying26 rfl ts24 rfl (oL 0 ts24 rfl (oM rfl (oD (stp_indexAddr Tryz.underlying24 ts51 (by decide) rfl rfl rfl (Rdb.ro hr0_1) e25) rfl (oA 0 Tryz.underlying51 rfl ts4 rfl (oD (stp_load1 ts4 rfl (Cells.el (Rdb.ro hr0_1) (by decide) e25 0 1 rfl)) rfl (oM rfl (ow_cutY 9 67 y26 ?_ ?_))))))))))))
   ·rcases Bool.eq_false_or_eq_true x25.u with hy26 | hy26
    ·have ey26 := cond_t ey26 hy26
     refine oG rfl hy26 (fA 1 Tryz.underlying26 rfl ts24 rfl rfl rfl) rfl (oG rfl hy26 (lB 0 ts24 rfl rfl rfl) rfl (oG rfl hy26 (mv rfl) rfl (oG rfl hy26 (stp_indexAddr Tryz.underlying24 ts51 (by decide) rfl rfl rfl (Rdb.ro hr0_1) e25) rfl (oG rfl hy26 (fA 4 Tryz.underlying51 rfl ts3 rfl rfl rfl) rfl (oG rfl hy26 (stp_load1 ts3 rfl (Cells.el (Rdb.ro hr0_1) (by decide) e25 4 1 rfl)) rfl (oG rfl hy26 (mv rfl) rfl (oG rfl hy26 (stp_eql rfl rfl) rfl (oD (stp_pick_t rfl hy26 rfl) rfl ?_))))))))
     obtain rfl := sI ey26
     exact ow_nil (jy 9 0)
    have ey26 := cond_f ey26 hy26
    refine oO rfl hy26 rfl (oO rfl hy26 rfl (oO rfl hy26 rfl (oO rfl hy26 rfl (oO rfl hy26 rfl (oO rfl hy26 rfl (oO rfl hy26 rfl (oO rfl hy26 rfl (oD (stp_pick_f rfl hy26 rfl) rfl ?_))))))))
    obtain rfl := sI ey26
    exact ow_nil (jy 9 0)
   refine ow_nil (kw_nx (cw_cond rfl (fun h27 => ?_) (fun h27 => ?_)))
   ·have H1 := cond_t H1 h27
    obtain ⟨x28, e28, H1⟩ := bS H1
    refine cw_region (oA 1 Tryz.underlying26 rfl ts24 rfl (oL 4 ts24 rfl (oM rfl (oM rfl (oD (stp_indexAddr Tryz.underlying24 ts51 (by decide) rfl (by simp [hl22]) rfl (Rdb.own (id := 3) rfl o22) e28) rfl (oA 4 Tryz.underlying51 rfl ts3 rfl (oF (stpU_storeEl (id := 3) (i := 4) (⟨x28.u, x28.k, x28.r, x13.nx⟩ : F) (by decide) ts3 rfl rfl rfl o22 e28 rfl rfl rfl rfl) ?_)))))))
    rintro _ _ ⟨C29, rfl, o29⟩
    obtain ⟨x30, e30, H1⟩ := bS H1
    exact ow_nil (kw_bl_normal (kw_nx (cw_region (oM rfl (oP e30 rfl (oS rfl (ow_nil (kw_lqS (js := [0, 1, 2, 3, 4]) (fuel, (v21.set (Int.toNat v23) (⟨x28.u, x28.k, x28.r, x13.nx⟩ : F)), x30, C29) ⟨H1, (by simp [hl22]), o29⟩ (Nat.lt_succ_self _) ⟨rfl, rfl, rfl, rfl, rfl, rfl, trivial⟩ ⟨0, [1, 2, 3, 4], rfl, rfl, 1, [2, 3, 4], rfl, rfl, 2, [3, 4], rfl, rfl, 3, [4], rfl, rfl, 4, [], rfl, rfl, trivial⟩ (by decide)))))))))
   have H1 := cond_f H1 h27
   obtain ⟨x31, e31, H1⟩ := bS H1
   exact cw_skip (kw_bl_normal (kw_nx (cw_region (oM rfl (oP e31 rfl (oS rfl (ow_nil (kw_lqS (js := [0, 1, 2, 3, 4]) (fuel, v21, x31, C22) ⟨H1, (by simp [hl22]), o22⟩ (Nat.lt_succ_self _) ⟨rfl, rfl, rfl, rfl, rfl, rfl, trivial⟩ ⟨0, [1, 2, 3, 4], rfl, rfl, 1, [2, 3, 4], rfl, rfl, 2, [3, 4], rfl, rfl, 3, [4], rfl, rfl, 4, [], rfl, rfl, trivial⟩ (by decide)))))))))
  have H1 := cond_f H1 h24
  refine cw_exit (kw_nx_exit (kw_lq_exit (kw_bl ?_)))
  obtain rfl := sI H1
  exact kw_joinS (js := [0, 1, 2, 3, 4]) (v21, v23, C22) ⟨rfl, (by simp [hl22]), o22⟩ ⟨rfl, rfl, rfl, rfl, rfl, rfl, trivial⟩ ⟨0, [1, 2, 3, 4], rfl, rfl, 1, [2, 3, 4], rfl, rfl, 2, [3, 4], rfl, rfl, 3, [4], rfl, rfl, 4, [], rfl, rfl, trivial⟩ (by decide)
 rintro ⟨v21, v23, C22⟩ ⟨rfl, hl22, o22⟩
 dsimp only
 refine kw_nx (sr (oB2 4 ts26 rfl (oC2 1 ts26 rfl rfl (nn (cw_ret ?_)))))
 obtain rfl := sI H0
 exact kr Tryz.results129 (rC2 1 ts26 rfl rfl) [2, 3] ⟨_, _, _, _, _, _, _, _, rfl, rfl, rfl, o7, (by simp [hl22]), o22⟩

theorem c_s_UnmapPage (fl : Nat) (w : World) (a0 : T) (a1 : K) (hn0_0 : n0_0 = (a0.b).length) (hr0_0 : RO w (hkeys []) (RdL p0_0 c0_0 a0.b)) (hn0_1 : n0_1 = (a0.f).length) (hr0_1 : RO w (hkeys []) (RdL p0_1 c0_1 a0.f)) (r : T × Bool) (H0 : s_UnmapPage fl a0 a1 = some r) :
  Ct Tryz.prog 122 [.agg #[.slice p0_0 n0_0 c0_0, .slice p0_1 n0_1 c0_1], .agg #[.int .i64 a1.s, .int .i64 a1.p]] w [] (fun rv h' => ∃ (x0 : Option Addr) (y0 z0 : Nat) (C0 : Res) (x1 : Option Addr) (y1 z1 : Nat) (C1 : Res), rv = .tuple #[.agg #[.slice x0 y0 z0, .slice x1 y1 z1], .bool r.2] ∧ h' = [(0, C0), (1, C1)] ∧ y0 = (r.1.b).length ∧ OwnC 3 x0 z0 r.1.b C0 ∧ y1 = (r.1.f).length ∧ OwnC 51 x1 z1 r.1.f C1) := by
 subst hn0_0 hn0_1
 unfold s_UnmapPage at H0
 refine ct_of_cw Tryz.func122 rfl Tryz.ntmps122 rfl (Sat.refl _ _) ?_
 refine sr (oE (stpU_box 0 rfl rfl) rfl ?_)
 rintro _ _ ⟨b1, rfl, rfl⟩
 refine oE (stpU_box 1 rfl rfl) rfl ?_
 rintro _ _ ⟨b2, rfl, rfl⟩
 refine oE (stpU_alloc 2 tz26 rfl) rfl ?_
 rintro _ _ ⟨b3, rfl, rfl⟩
 obtain ⟨x4, e4, H0⟩ := bS H0
 refine oS rfl (nn (sr (oB2 0 ts26 rfl (oB2 1 ts49 rfl (oE (stpU_call (fun i => 3 + i) cf128 (fun w hw => c_s_FindPage fl w a0 a1 rfl (RO.pass hr0_0 hw) rfl (RO.pass hr0_1 hw) x4 e4) (yB rfl rfl)) rfl ?_)))))
 rintro _ _ ⟨_, ⟨rfl, rfl⟩, rfl⟩
 refine oM rfl (oT rfl (oT rfl (oT rfl (oS rfl (oS rfl (oS rfl (nn (cw_seq (sr (oM rfl (oK rfl (nn (cw_cond rfl (fun h5 => ?_) (fun h5 => ?_))))))))))))))
 ·have H0 := cond_t H0 h5
  refine sr (oD (stp_build (cs := #[.slice none 0 0, .slice none 0 0]) sevp_nil bt26_0) rfl (oC2 2 ts26 rfl rfl (oS rfl (nn (cw_ret (kw_nx_ret (kw_addNil 3 (kw_addNil 4 ?_))))))))
  obtain rfl := sI H0
  exact kr Tryz.results122 (.cons (.cellN (us := [_, _]) ts26 rfl (Cells.box (id := 2) rfl 2 rfl)) (rT rfl)) [3, 4] ⟨_, _, _, _, _, _, _, _, rfl, rfl, rfl, (OwnC.nil _ _), rfl, (OwnC.nil _ _)⟩
 have H0 := cond_f H0 h5
 obtain ⟨x6, e6, H0⟩ := bS H0
 refine cw_skip (kw_nx (sr (oB2 0 ts26 rfl (oM rfl (oE (stpU_call (fun i => 5 + i) cf129 (fun w hw => c_s_l3Unmap fl w a0 x4.1 rfl (RO.pass hr0_0 hw) rfl (RO.pass hr0_1 hw) x6 e6) (yB rfl rfl)) rfl ?_)))))
 rintro _ _ ⟨_, ⟨p7, _, c9, C10, p11, _, c13, C14, rfl, rfl, rfl, o10, rfl, o14⟩, rfl⟩
 refine oC2 2 ts26 rfl rfl (oS rfl (nn (cw_ret ?_)))
 obtain rfl := sI H0
 exact kr Tryz.results122 (.cons (.cellN (us := [_, _]) ts26 rfl (Cells.box (id := 2) rfl 2 rfl)) (rT rfl)) [5, 6] ⟨_, _, _, _, _, _, _, _, rfl, rfl, rfl, o10, rfl, o14⟩

theorem c_s_l4Tag (fl : Nat) (w : World) (a0 : Int) (r : Bool) (H0 : s_l4Tag fl a0 = some r) :
  Ct Tryz.prog 133 [.int .i64 a0] w [] (fun rv h' => rv = .bool r ∧ h' = []) := by
 unfold s_l4Tag at H0
 refine ct_of_cw Tryz.func133 rfl Tryz.ntmps133 rfl (Sat.refl _ _) ?_
 obtain ⟨y1, ey1, H0⟩ := bS H0
 refine sr (oS rfl (nn (sr (oM rfl (oI rfl (oM rfl (ow_cutY 3 8 y1 ?_ ?_)))))))
 ·rcases Bool.eq_false_or_eq_true (decide ((-1) ≤ a0)) with hy1 | hy1
  ·have ey1 := cond_t ey1 hy1
   refine oG rfl hy1 (mv rfl) rfl (oG rfl hy1 (stp_lss rfl rfl) rfl (oD (stp_pick_t rfl hy1 rfl) rfl ?_))
   obtain rfl := sI ey1
   exact ow_nil (jy 3 0)
  have ey1 := cond_f ey1 hy1
  refine oO rfl hy1 rfl (oO rfl hy1 rfl (oD (stp_pick_f rfl hy1 rfl) rfl ?_))
  obtain rfl := sI ey1
  exact ow_nil (jy 3 0)
 refine oS rfl (nn (cw_ret ?_))
 obtain rfl := sI H0
 exact kr Tryz.results133 (rT rfl) [] ⟨rfl, rfl⟩

theorem c_s_FindLine (fl : Nat) (w : World) (a0 : Ca) (a1 : Int) (a2 : Int) (hn0_0 : n0_0 = (a0.l).length) (hr0_0 : RO w (hkeys []) (RdL p0_0 c0_0 a0.l)) (r : Int × Bool) (H0 : s_FindLine fl a0 a1 a2 = some r) :
  Ct Tryz.prog 132 [.agg #[.slice p0_0 n0_0 c0_0, .int .i64 a0.h], .int .i64 a1, .int .i64 a2] w [] (fun rv h' => rv = .tuple #[.int .i64 r.1, .bool r.2] ∧ h' = []) := by
 subst hn0_0
 unfold s_FindLine at H0
 refine ct_of_cw Tryz.func132 rfl Tryz.ntmps132 rfl (Sat.refl _ _) ?_
 refine sr (oE (stpU_box 0 rfl rfl) rfl ?_)
 rintro _ _ ⟨b1, rfl, rfl⟩
 obtain ⟨x2, e2, H0⟩ := bS H0
 refine oS rfl (oS rfl (nn (cw_seq (sr (oB2 0 ts29 rfl (oE (stpU_call (fun i => 1 + i) cf44 (fun w hw => c_s_CacheValid fl w a0 rfl (RO.pass hr0_0 hw) x2 e2) (yA rfl)) rfl ?_))))))
 rintro _ _ ⟨_, ⟨rfl, rfl⟩, rfl⟩
 obtain ⟨y3, ey3, H0⟩ := bS H0
 refine oK rfl (oM rfl (ow_cutY 4 16 y3 ?_ ?_))
 ·rcases Bool.eq_false_or_eq_true (!x2) with hy3 | hy3
  ·have ey3 := cond_t ey3 hy3
   refine oO rfl hy3 rfl (oO rfl hy3 rfl (oO rfl hy3 rfl (oD (stp_pick_t rfl hy3 rfl) rfl ?_)))
   obtain rfl := sI ey3
   exact ow_nil (jy 4 0)
  have ey3 := cond_f ey3 hy3
  obtain ⟨x4, e4, ey3⟩ := bS ey3
  refine oG rfl hy3 (mv rfl) rfl (ow_eff (.some rfl hy3) (stpU_call (fun i => 1 + i) cf133 (fun w hw => c_s_l4Tag fl w a1 x4 e4) (yA rfl)) rfl ?_)
  rintro _ _ ⟨_, ⟨rfl, rfl⟩, rfl⟩
  refine oG rfl hy3 (stp_not rfl) rfl (oD (stp_pick_f rfl hy3 rfl) rfl ?_)
  obtain rfl := sI ey3
  exact ow_nil (jy 4 0)
 obtain ⟨y5, ey5, H0⟩ := bS H0
 refine oM rfl (ow_cutY 4 21 y5 ?_ ?_)
 ·rcases Bool.eq_false_or_eq_true y3 with hy5 | hy5
  ·have ey5 := cond_t ey5 hy5
   refine oO rfl hy5 rfl (oO rfl hy5 rfl (oO rfl hy5 rfl (oD (stp_pick_t rfl hy5 rfl) rfl ?_)))
   obtain rfl := sI ey5
   exact ow_nil (jy 4 0)
  have ey5 := cond_f ey5 hy5
  obtain ⟨x6, e6, ey5⟩ := bS ey5
  refine oG rfl hy5 (mv rfl) rfl (ow_eff (.some rfl hy5) (stpU_call (fun i => 1 + i) cf101 (fun w hw => c_s_l1Page fl w a2 x6 e6) (yA rfl)) rfl ?_)
  rintro _ _ ⟨_, ⟨rfl, rfl⟩, rfl⟩
  refine oG rfl hy5 (stp_not rfl) rfl (oD (stp_pick_f rfl hy5 rfl) rfl ?_)
  obtain rfl := sI ey5
  exact ow_nil (jy 4 0)
 refine ow_nil (kw_nx (cw_cond rfl (fun h7 => ?_) (fun h7 => ?_)))
 ·have H0 := cond_t H0 h7
  refine sr (oS rfl (oS rfl (nn (cw_ret (kw_nx_ret ?_)))))
  obtain rfl := sI H0
  exact kr Tryz.results132 (.cons (.tmp rfl) (rT rfl)) [] ⟨rfl, rfl⟩
 have H0 := cond_f H0 h7
 obtain ⟨x8, e8, H0⟩ := bS H0
 refine cw_skip (kw_nx (sr (oB2 0 ts29 rfl (oM rfl (oM rfl (oE (stpU_call (fun i => 1 + i) cf118 (fun w hw => c_s_l4Find fl w a0 a1 a2 rfl (RO.pass hr0_0 hw) x8 e8) (yC rfl rfl rfl)) rfl ?_))))))
 rintro _ _ ⟨_, ⟨rfl, rfl⟩, rfl⟩
 refine oS rfl (nn (cw_seq (sr (oM rfl (oW rfl (nn (cw_cond rfl (fun h9 => ?_) (fun h9 => ?_))))))))
 ·have H0 := cond_t H0 h9
  refine sr (oS rfl (oS rfl (nn (cw_ret (kw_nx_ret ?_)))))
  obtain rfl := sI H0
  exact kr Tryz.results132 (.cons (.tmp rfl) (rT rfl)) [] ⟨rfl, rfl⟩
 have H0 := cond_f H0 h9
 refine cw_skip (kw_nx (sr (oM rfl (oS rfl (oS rfl (nn (cw_ret ?_)))))))
 obtain rfl := sI H0
 exact kr Tryz.results132 (.cons (.tmp rfl) (rT rfl)) [] ⟨rfl, rfl⟩

theorem c_s_DropPage (fl : Nat) (w : World) (a0 : Ca) (a1 : Int) (a2 : Int) (hn0_0 : n0_0 = (a0.l).length) (hr0_0 : RO w (hkeys []) (RdL p0_0 c0_0 a0.l)) (r : Ca × Bool) (H0 : s_DropPage fl a0 a1 a2 = some r) :
  Ct Tryz.prog 130 [.agg #[.slice p0_0 n0_0 c0_0, .int .i64 a0.h], .int .i64 a1, .int .i64 a2] w [] (fun rv h' => ∃ (x0 : Option Addr) (y0 z0 : Nat) (C0 : Res), rv = .tuple #[.agg #[.slice x0 y0 z0, .int .i64 r.1.h], .bool r.2] ∧ h' = [(0, C0)] ∧ y0 = (r.1.l).length ∧ OwnC 47 x0 z0 r.1.l C0) := by
 subst hn0_0
 unfold s_DropPage at H0
 refine ct_of_cw Tryz.func130 rfl Tryz.ntmps130 rfl (Sat.refl _ _) ?_
 refine sr (oE (stpU_box 0 rfl rfl) rfl ?_)
 rintro _ _ ⟨b1, rfl, rfl⟩
 refine oE (stpU_alloc 1 tz29 rfl) rfl ?_
 rintro _ _ ⟨b2, rfl, rfl⟩
 obtain ⟨x3, e3, H0⟩ := bS H0
 refine oS rfl (nn (sr (oB2 0 ts29 rfl (oM rfl (oM rfl (oE (stpU_call (fun i => 2 + i) cf132 (fun w hw => c_s_FindLine fl w a0 a1 a2 rfl (RO.pass hr0_0 hw) x3 e3) (yC rfl rfl rfl)) rfl ?_))))))
 rintro _ _ ⟨_, ⟨rfl, rfl⟩, rfl⟩
 refine oM rfl (oT rfl (oT rfl (oS rfl (oS rfl (nn (cw_seq (sr (oM rfl (oK rfl (nn (cw_cond rfl (fun h4 => ?_) (fun h4 => ?_))))))))))))
 ·have H0 := cond_t H0 h4
  refine sr (oD (stp_build (cs := #[.slice none 0 0, .int .i64 0]) sevp_nil bt29_2) rfl (oC2 1 ts29 rfl rfl (oS rfl (nn (cw_ret (kw_nx_ret (kw_addNil 2 ?_)))))))
  obtain rfl := sI H0
  exact kr Tryz.results130 (.cons (.cellN (us := [_, _]) ts29 rfl (Cells.box (id := 1) rfl 2 rfl)) (rT rfl)) [2] ⟨_, _, _, _, rfl, rfl, rfl, (OwnC.nil _ _)⟩
 have H0 := cond_f H0 h4
 obtain ⟨x5, e5, H0⟩ := bS H0
 refine cw_skip (kw_nx (sr (oB2 0 ts29 rfl (oE (stpU_call (fun i => 3 + i) cf67 (fun w hw => c_s_l4Copy fl w a0 rfl (RO.pass hr0_0 hw) x5 e5) (yA rfl)) rfl ?_))))
 rintro _ _ ⟨_, ⟨p6, _, c8, C9, rfl, rfl, rfl, o9⟩, rfl⟩
 refine oE (stpU_alloc 4 tz29 rfl) rfl ?_
 rintro _ _ ⟨b10, rfl, rfl⟩
 obtain ⟨x11, e11, H0⟩ := bS H0
 refine oC2 4 ts29 rfl rfl (nn (sr (oA 0 Tryz.underlying29 rfl ts27 rfl (oL 4 ts27 rfl (oM rfl (oD (stp_build (cs := #[.bool false, .int .i64 0, .int .i64 0, .int .i64 0, .int .i64 0, .bool false]) sevp_nil bt47_11) rfl (oD (stp_indexAddr Tryz.underlying27 ts47 (by decide) rfl rfl rfl (Rdb.own (id := 3) rfl o9) e11) rfl (oF (stpU_storeEl (id := 3) (i := 0) (⟨false, 0, 0, 0, 0, false⟩ : Ln) (by decide) ts47 rfl rfl rfl o9 e11 rfl rfl rfl rfl) ?_))))))))
 rintro _ _ ⟨C12, rfl, o12⟩
 refine nn (sr (oB2 4 ts29 rfl (oC2 1 ts29 rfl rfl (oS rfl (nn (cw_ret ?_))))))
 obtain rfl := sI H0
 exact kr Tryz.results130 (.cons (.cellN (us := [_, _]) ts29 rfl (Cells.box (id := 1) rfl 2 rfl)) (rT rfl)) [3] ⟨_, _, _, _, rfl, rfl, (by simp), o12⟩

theorem c_s_l6Forget (fl : Nat) (w : World) (a0 : Mc) (a1 : K) (hn0_0 : n0_0 = (a0.t.b).length) (hr0_0 : RO w (hkeys []) (RdL p0_0 c0_0 a0.t.b)) (hn0_1 : n0_1 = (a0.t.f).length) (hr0_1 : RO w (hkeys []) (RdL p0_1 c0_1 a0.t.f)) (hn0_2 : n0_2 = (a0.c.l).length) (hr0_2 : RO w (hkeys []) (RdL p0_2 c0_2 a0.c.l)) (hn0_3 : n0_3 = (a0.g.o).length) (hr0_3 : RO w (hkeys []) (RdL p0_3 c0_3 a0.g.o)) (r : Mc) (H0 : s_l6Forget fl a0 a1 = some r) :
  Ct Tryz.prog 123 [.agg #[.slice p0_0 n0_0 c0_0, .slice p0_1 n0_1 c0_1, .slice p0_2 n0_2 c0_2, .int .i64 a0.c.h, .int .i64 a0.g.c, .int .i64 a0.g.n, .int .i64 a0.g.r, .slice p0_3 n0_3 c0_3, .int .i64 a0.s], .agg #[.int .i64 a1.s, .int .i64 a1.p]] w [] (fun rv h' => ∃ (x0 : Option Addr) (y0 z0 : Nat) (C0 : Res) (x1 : Option Addr) (y1 z1 : Nat) (C1 : Res) (x2 : Option Addr) (y2 z2 : Nat) (C2 : Res) (x3 : Option Addr) (y3 z3 : Nat) (C3 : Res), rv = .agg #[.slice x0 y0 z0, .slice x1 y1 z1, .slice x2 y2 z2, .int .i64 r.c.h, .int .i64 r.g.c, .int .i64 r.g.n, .int .i64 r.g.r, .slice x3 y3 z3, .int .i64 r.s] ∧ h' = [(0, C0), (1, C1), (2, C2), (3, C3)] ∧ y0 = (r.t.b).length ∧ OwnC 3 x0 z0 r.t.b C0 ∧ y1 = (r.t.f).length ∧ OwnC 51 x1 z1 r.t.f C1 ∧ y2 = (r.c.l).length ∧ OwnC 47 x2 z2 r.c.l C2 ∧ y3 = (r.g.o).length ∧ OwnC 89 x3 z3 r.g.o C3) := by
 subst hn0_0 hn0_1 hn0_2 hn0_3
 unfold s_l6Forget at H0
 refine ct_of_cw Tryz.func123 rfl Tryz.ntmps123 rfl (Sat.refl _ _) ?_
 refine sr (oE (stpU_box 0 rfl rfl) rfl ?_)
 rintro _ _ ⟨b1, rfl, rfl⟩
 refine oE (stpU_box 1 rfl rfl) rfl ?_
 rintro _ _ ⟨b2, rfl, rfl⟩
 refine oE (stpU_alloc 2 tz34 rfl) rfl ?_
 rintro _ _ ⟨b3, rfl, rfl⟩
 obtain ⟨x4, e4, H0⟩ := bS H0
 refine nn (sr (oB9 0 ts34 rfl (oE (stpU_call (fun i => 3 + i) cf35 (fun w hw => c_s_l6Copy fl w a0 rfl (RO.pass hr0_0 hw) rfl (RO.pass hr0_1 hw) rfl (RO.pass hr0_2 hw) rfl (RO.pass hr0_3 hw) x4 e4) (yA rfl)) rfl ?_)))
 rintro _ _ ⟨_, ⟨p5, _, c7, C8, p9, _, c11, C12, p13, _, c15, C16, p17, _, c19, C20, rfl, rfl, rfl, o8, rfl, o12, rfl, o16, rfl, o20⟩, rfl⟩
 refine oE (stpU_alloc 7 tz34 rfl) rfl ?_
 rintro _ _ ⟨b21, rfl, rfl⟩
 obtain ⟨x22, e22, H0⟩ := bS H0
 refine oC9 7 ts34 rfl rfl (nn (sr (oB9 0 ts34 rfl (oA 0 Tryz.underlying49 rfl ts3 rfl (oL 1 ts3 rfl (oA 1 Tryz.underlying49 rfl ts3 rfl (oL 1 ts3 rfl (oE (stpU_call (fun i => 8 + i) cf117 (fun w hw => c_s_l6Tag fl w a0 a1.s a1.p rfl (RO.pass hr0_0 hw) rfl (RO.pass hr0_1 hw) rfl (RO.pass hr0_2 hw) rfl (RO.pass hr0_3 hw) x22 e22) (yC rfl rfl rfl)) rfl ?_))))))))
 rintro _ _ ⟨_, ⟨rfl, rfl⟩, rfl⟩
 refine oM rfl (oT rfl (oT rfl (oS rfl (oS rfl (nn (cw_seq (sr (oM rfl (oK rfl (nn (cw_cond rfl (fun h23 => ?_) (fun h23 => ?_))))))))))))
 ·have H0 := cond_t H0 h23
  refine sr (oB9 7 ts34 rfl (oC9 2 ts34 rfl rfl (nn (cw_ret (kw_nx_ret ?_)))))
  obtain rfl := sI H0
  exact kr Tryz.results123 (rC9 2 ts34 rfl rfl) [3, 4, 5, 6] ⟨_, _, _, _, _, _, _, _, _, _, _, _, _, _, _, _, rfl, rfl, rfl, o8, rfl, o12, rfl, o16, rfl, o20⟩
 have H0 := cond_f H0 h23
 obtain ⟨x24, e24, H0⟩ := bS H0
 refine cw_skip (kw_nx (sr (oA 2 Tryz.underlying34 rfl ts29 rfl (oB2 0 ts29 rfl (oM rfl (oA 1 Tryz.underlying49 rfl ts3 rfl (oL 1 ts3 rfl (oE (stpU_call (fun i => 8 + i) cf130 (fun w hw => c_s_DropPage fl w a0.c x22.1 a1.p rfl (RO.pass hr0_2 hw) x24 e24) (yC rfl rfl rfl)) rfl ?_))))))))
 rintro _ _ ⟨_, ⟨p25, _, c27, C28, rfl, rfl, rfl, o28⟩, rfl⟩
 refine oM rfl (oT rfl (oT rfl (oE (stpU_alloc 9 tz29 rfl) rfl ?_)))
 rintro _ _ ⟨b29, rfl, rfl⟩
 refine oC2 9 ts29 rfl rfl (oS rfl (nn (cw_seq (sr (oM rfl (nn (cw_cond rfl (fun h30 => ?_) (fun h30 => ?_))))))))
 ·have H0 := cond_t H0 h30
  refine cw_region (oB2 9 ts29 rfl (oA 2 Tryz.underlying34 rfl ts29 rfl (oC9 7 ts29 rfl rfl (nn (sr (oB9 7 ts34 rfl (oC9 2 ts34 rfl rfl (nn (cw_ret ?_)))))))))
  obtain rfl := sI H0
  exact kr Tryz.results123 (rC9 2 ts34 rfl rfl) [3, 4, 8, 6] ⟨_, _, _, _, _, _, _, _, _, _, _, _, _, _, _, _, rfl, rfl, rfl, o8, rfl, o12, rfl, o28, rfl, o20⟩
 have H0 := cond_f H0 h30
 refine cw_skip (kw_nx (sr (oB9 7 ts34 rfl (oC9 2 ts34 rfl rfl (nn (cw_ret ?_))))))
 obtain rfl := sI H0
 exact kr Tryz.results123 (rC9 2 ts34 rfl rfl) [3, 4, 5, 6] ⟨_, _, _, _, _, _, _, _, _, _, _, _, _, _, _, _, rfl, rfl, rfl, o8, rfl, o12, rfl, o16, rfl, o20⟩

theorem c_s_TakePage (fl : Nat) (w : World) (a0 : Mc) (a1 : K) (hn0_0 : n0_0 = (a0.t.b).length) (hr0_0 : RO w (hkeys []) (RdL p0_0 c0_0 a0.t.b)) (hn0_1 : n0_1 = (a0.t.f).length) (hr0_1 : RO w (hkeys []) (RdL p0_1 c0_1 a0.t.f)) (hn0_2 : n0_2 = (a0.c.l).length) (hr0_2 : RO w (hkeys []) (RdL p0_2 c0_2 a0.c.l)) (hn0_3 : n0_3 = (a0.g.o).length) (hr0_3 : RO w (hkeys []) (RdL p0_3 c0_3 a0.g.o)) (r : Mc × Bool) (H0 : s_TakePage fl a0 a1 = some r) :
  Ct Tryz.prog 112 [.agg #[.slice p0_0 n0_0 c0_0, .slice p0_1 n0_1 c0_1, .slice p0_2 n0_2 c0_2, .int .i64 a0.c.h, .int .i64 a0.g.c, .int .i64 a0.g.n, .int .i64 a0.g.r, .slice p0_3 n0_3 c0_3, .int .i64 a0.s], .agg #[.int .i64 a1.s, .int .i64 a1.p]] w [] (fun rv h' => ∃ (x0 : Option Addr) (y0 z0 : Nat) (C0 : Res) (x1 : Option Addr) (y1 z1 : Nat) (C1 : Res) (x2 : Option Addr) (y2 z2 : Nat) (C2 : Res) (x3 : Option Addr) (y3 z3 : Nat) (C3 : Res), rv = .tuple #[.agg #[.slice x0 y0 z0, .slice x1 y1 z1, .slice x2 y2 z2, .int .i64 r.1.c.h, .int .i64 r.1.g.c, .int .i64 r.1.g.n, .int .i64 r.1.g.r, .slice x3 y3 z3, .int .i64 r.1.s], .bool r.2] ∧ h' = [(0, C0), (1, C1), (2, C2), (3, C3)] ∧ y0 = (r.1.t.b).length ∧ OwnC 3 x0 z0 r.1.t.b C0 ∧ y1 = (r.1.t.f).length ∧ OwnC 51 x1 z1 r.1.t.f C1 ∧ y2 = (r.1.c.l).length ∧ OwnC 47 x2 z2 r.1.c.l C2 ∧ y3 = (r.1.g.o).length ∧ OwnC 89 x3 z3 r.1.g.o C3) := by
 subst hn0_0 hn0_1 hn0_2 hn0_3
 unfold s_TakePage at H0
 refine ct_of_cw Tryz.func112 rfl Tryz.ntmps112 rfl (Sat.refl _ _) ?_
 refine sr (oE (stpU_box 0 rfl rfl) rfl ?_)
 rintro _ _ ⟨b1, rfl, rfl⟩
 refine oE (stpU_box 1 rfl rfl) rfl ?_
 rintro _ _ ⟨b2, rfl, rfl⟩
 refine oE (stpU_alloc 2 tz34 rfl) rfl ?_
 rintro _ _ ⟨b3, rfl, rfl⟩
 obtain ⟨x4, e4, H0⟩ := bS H0
 refine oS rfl (nn (cw_seq (sr (oB9 0 ts34 rfl (oE (stpU_call (fun i => 3 + i) cf22 (fun w hw => c_s_MachineValid fl w a0 rfl (RO.pass hr0_0 hw) rfl (RO.pass hr0_1 hw) rfl (RO.pass hr0_2 hw) rfl (RO.pass hr0_3 hw) x4 e4) (yA rfl)) rfl ?_)))))
 rintro _ _ ⟨_, ⟨rfl, rfl⟩, rfl⟩
 refine oK rfl (nn (cw_cond rfl (fun h5 => ?_) (fun h5 => ?_)))
 ·have H0 := cond_t H0 h5
  refine sr (oD (stp_build (cs := #[.slice none 0 0, .slice none 0 0, .slice none 0 0, .int .i64 0, .int .i64 0, .int .i64 0, .int .i64 0, .slice none 0 0, .int .i64 0]) sevp_nil bt34_6) rfl (oC9 2 ts34 rfl rfl (oS rfl (nn (cw_ret (kw_nx_ret (kw_addNil 3 (kw_addNil 4 (kw_addNil 5 (kw_addNil 6 ?_))))))))))
  obtain rfl := sI H0
  exact kr Tryz.results112 (.cons (.cellN (us := [_, _, _, _, _, _, _, _, _]) ts34 rfl (Cells.box (id := 2) rfl 9 rfl)) (rT rfl)) [3, 4, 5, 6] ⟨_, _, _, _, _, _, _, _, _, _, _, _, _, _, _, _, rfl, rfl, rfl, (OwnC.nil _ _), rfl, (OwnC.nil _ _), rfl, (OwnC.nil _ _), rfl, (OwnC.nil _ _)⟩
 have H0 := cond_f H0 h5
 obtain ⟨x6, e6, H0⟩ := bS H0
 refine cw_skip (kw_nx (sr (oA 0 Tryz.underlying34 rfl ts26 rfl (oB2 0 ts26 rfl (oB2 1 ts49 rfl (oE (stpU_call (fun i => 7 + i) cf122 (fun w hw => c_s_UnmapPage fl w a0.t a1 rfl (RO.pass hr0_0 hw) rfl (RO.pass hr0_1 hw) x6 e6) (yB rfl rfl)) rfl ?_))))))
 rintro _ _ ⟨_, ⟨p7, _, c9, C10, p11, _, c13, C14, rfl, rfl, rfl, o10, rfl, o14⟩, rfl⟩
 refine oM rfl (oT rfl (oT rfl (oE (stpU_alloc 9 tz26 rfl) rfl ?_)))
 rintro _ _ ⟨b15, rfl, rfl⟩
 refine oC2 9 ts26 rfl rfl (oS rfl (nn (cw_seq (sr (oM rfl (oK rfl (nn (cw_cond rfl (fun h16 => ?_) (fun h16 => ?_)))))))))
 ·have H0 := cond_t H0 h16
  refine sr (oD (stp_build (cs := #[.slice none 0 0, .slice none 0 0, .slice none 0 0, .int .i64 0, .int .i64 0, .int .i64 0, .int .i64 0, .slice none 0 0, .int .i64 0]) sevp_nil bt34_6) rfl (oC9 2 ts34 rfl rfl (oS rfl (nn (cw_ret (kw_nx_ret (kw_addNil 10 (kw_addNil 11 (kw_addNil 12 (kw_addNil 13 ?_))))))))))
  obtain rfl := sI H0
  exact kr Tryz.results112 (.cons (.cellN (us := [_, _, _, _, _, _, _, _, _]) ts34 rfl (Cells.box (id := 2) rfl 9 rfl)) (rT rfl)) [10, 11, 12, 13] ⟨_, _, _, _, _, _, _, _, _, _, _, _, _, _, _, _, rfl, rfl, rfl, (OwnC.nil _ _), rfl, (OwnC.nil _ _), rfl, (OwnC.nil _ _), rfl, (OwnC.nil _ _)⟩
 have H0 := cond_f H0 h16
 obtain ⟨x17, e17, H0⟩ := bS H0
 refine cw_skip (kw_nx (sr (oB9 0 ts34 rfl (oB2 1 ts49 rfl (oE (stpU_call (fun i => 14 + i) cf123 (fun w hw => c_s_l6Forget fl w a0 a1 rfl (RO.pass hr0_0 hw) rfl (RO.pass hr0_1 hw) rfl (RO.pass hr0_2 hw) rfl (RO.pass hr0_3 hw) x17 e17) (yB rfl rfl)) rfl ?_)))))
 rintro _ _ ⟨_, ⟨p18, _, c20, C21, p22, _, c24, C25, p26, _, c28, C29, p30, _, c32, C33, rfl, rfl, rfl, o21, rfl, o25, rfl, o29, rfl, o33⟩, rfl⟩
 refine oE (stpU_alloc 18 tz34 rfl) rfl ?_
 rintro _ _ ⟨b34, rfl, rfl⟩
 refine oC9 18 ts34 rfl rfl (nn (sr (oB2 9 ts26 rfl (oA 0 Tryz.underlying34 rfl ts26 rfl (oC9 18 ts26 rfl rfl (nn (sr (oB9 18 ts34 rfl (oC9 2 ts34 rfl rfl (oS rfl (nn (cw_ret ?_))))))))))))
 obtain rfl := sI H0
 exact kr Tryz.results112 (.cons (.cellN (us := [_, _, _, _, _, _, _, _, _]) ts34 rfl (Cells.box (id := 2) rfl 9 rfl)) (rT rfl)) [7, 8, 16, 17] ⟨_, _, _, _, _, _, _, _, _, _, _, _, _, _, _, _, rfl, rfl, rfl, o10, rfl, o14, rfl, o29, rfl, o33⟩

theorem c_s_l6Step (fl : Nat) (w : World) (m0 : Nat) (a0_0 : (List UInt8)) (a0_1 : Int) (a1 : Mc) (hn0_0_0 : n0_0_0 = (a0_0).length) (hr0_0_0 : RO w (hkeys [(0, [(m0, .cells #[.slice p0_0_0 n0_0_0 c0_0_0, .int .i64 a0_1] 91 (0, 0))]), (1, C1_0), (2, C1_1), (3, C1_2), (4, C1_3)]) (RdL p0_0_0 c0_0_0 a0_0)) (hn1_0 : n1_0 = (a1.t.b).length) (ho1_0 : OwnC 3 p1_0 c1_0 a1.t.b C1_0) (hn1_1 : n1_1 = (a1.t.f).length) (ho1_1 : OwnC 51 p1_1 c1_1 a1.t.f C1_1) (hn1_2 : n1_2 = (a1.c.l).length) (ho1_2 : OwnC 47 p1_2 c1_2 a1.c.l C1_2) (hn1_3 : n1_3 = (a1.g.o).length) (ho1_3 : OwnC 89 p1_3 c1_3 a1.g.o C1_3) (hM : Sat w (hkeys [(0, [(m0, .cells #[.slice p0_0_0 n0_0_0 c0_0_0, .int .i64 a0_1] 91 (0, 0))]), (1, C1_0), (2, C1_1), (3, C1_2), (4, C1_3)]) w [(0, [(m0, .cells #[.slice p0_0_0 n0_0_0 c0_0_0, .int .i64 a0_1] 91 (0, 0))]), (1, C1_0), (2, C1_1), (3, C1_2), (4, C1_3)]) (r : Mc × Int) (H0 : s_l6Step fl a0_0 a0_1 a1 = some r) :
  Ct Tryz.prog 92 [.pointer (some ⟨m0, 0, none⟩), .agg #[.slice p1_0 n1_0 c1_0, .slice p1_1 n1_1 c1_1, .slice p1_2 n1_2 c1_2, .int .i64 a1.c.h, .int .i64 a1.g.c, .int .i64 a1.g.n, .int .i64 a1.g.r, .slice p1_3 n1_3 c1_3, .int .i64 a1.s]] w [(0, [(m0, .cells #[.slice p0_0_0 n0_0_0 c0_0_0, .int .i64 a0_1] 91 (0, 0))]), (1, C1_0), (2, C1_1), (3, C1_2), (4, C1_3)] (fun rv h' => ∃ (x5 : Option Addr) (y5 z5 : Nat) (C5 : Res) (x6 : Option Addr) (y6 z6 : Nat) (C6 : Res) (x7 : Option Addr) (y7 z7 : Nat) (C7 : Res) (x8 : Option Addr) (y8 z8 : Nat) (C8 : Res), rv = .agg #[.slice x5 y5 z5, .slice x6 y6 z6, .slice x7 y7 z7, .int .i64 r.1.c.h, .int .i64 r.1.g.c, .int .i64 r.1.g.n, .int .i64 r.1.g.r, .slice x8 y8 z8, .int .i64 r.1.s] ∧ h' = [(0, [(m0, .cells #[.slice p0_0_0 n0_0_0 c0_0_0, .int .i64 r.2] 91 (0, 0))]), (1, []), (2, []), (3, []), (4, []), (5, C5), (6, C6), (7, C7), (8, C8)] ∧ y5 = (r.1.t.b).length ∧ OwnC 3 x5 z5 r.1.t.b C5 ∧ y6 = (r.1.t.f).length ∧ OwnC 51 x6 z6 r.1.t.f C6 ∧ y7 = (r.1.c.l).length ∧ OwnC 47 x7 z7 r.1.c.l C7 ∧ y8 = (r.1.g.o).length ∧ OwnC 89 x8 z8 r.1.g.o C8) := by
 subst hn0_0_0 hn1_0 hn1_1 hn1_2 hn1_3
 unfold s_l6Step at H0
 refine ct_of_cw Tryz.func92 rfl Tryz.ntmps92 rfl hM ?_
 refine sr (oE (stpU_box 5 rfl rfl) rfl ?_)
 rintro _ _ ⟨b1, rfl, rfl⟩
 refine oE (stpU_alloc 6 tz34 rfl) rfl ?_
 rintro _ _ ⟨b2, rfl, rfl⟩
 refine nn (sr (oB9 5 ts34 rfl (oE (stpU_alloc 7 tz34 rfl) rfl ?_)))
 rintro _ _ ⟨b3, rfl, rfl⟩
 obtain ⟨x4, e4, H0⟩ := bS H0
 refine oC9 7 ts34 rfl rfl (nn (sr (oS rfl (nn (cw_seq (sr (oM rfl (oE (stpU_callM (fun i => bif Nat.beq i 0 then 0 else 8 + i) cf54 (fun w hw hb => c_s_l12Rd_pick fl w m0 a0_0 a0_1 8 rfl (RO.passM hr0_0_0 hw hb) (hw.pass (js := [0]) ⟨0, [], rfl, rfl, trivial⟩ (by decide)) x4 e4) (yB rfl rfl) ⟨rfl, (fun _ _ hp => by obtain ⟨_, rfl⟩ := hp; exact ⟨_, rfl⟩), trivial⟩) rfl ?_))))))))
 rintro _ _ ⟨_, ⟨rfl, rfl⟩, rfl⟩
 refine nn (cw_block (sr (oQ rfl (oS rfl (nn (cw_cond rfl (fun h5 => ?_) (fun h5 => ?_)))))))
 ·have H0 := cond_t H0 h5
  refine rdt g_mixed (rn 0 10) ⟨[[5],[],[],[0,9],[1,2,3,4],[],[],[],[7]], [[],[],[9],[0],[11,12,13,14],[],[],[],[7]], [2,4]⟩ (dB9 5 ts34 rfl (dM rfl (dE rfl (fun hh => stpU_lit (sz := 1) (l := [0, 1, 2, 3]) [.int .i64 0, .int .i64 1, .int .i64 2, .int .i64 3] sl23 9 (sevp_cons rfl (sevp_cons rfl (sevp_cons rfl (sevp_cons rfl sevp_nil)))) rfl rfl rfl rfl rfl rfl rfl rfl rfl) ?_)))
  rintro _ _ ⟨p6, C7, rfl, rfl, o7⟩
  obtain ⟨x8, e8, H0⟩ := bS H0
  obtain ⟨x9, e9, H0⟩ := bS H0
  refine dk rfl (dV rfl (fun hh => stpU_callM (fun i => bif Nat.beq i 0 then 0 else 10 + i) cf55 (fun w hw hb => c_s_l12Rd_num fl w m0 a0_0 x4.2 ([0, 1, 2, 3]) rfl (RO.passM hr0_0_0 hw hb) (by simp) (OwnC.passM (id := 9) (hh _ _ rfl) o7 hw hb ⟨rfl, trivial⟩) (hw.pass (js := [0]) ⟨0, [], rfl, (hh _ _ rfl), trivial⟩ (by decide)) x8 e8) (yB rfl rfl) ⟨(hh _ _ rfl), (fun _ _ hp => by obtain ⟨_, rfl⟩ := hp; exact ⟨_, rfl⟩), trivial⟩) rfl (dE rfl (fun hh => stpU_call (fun i => 11 + i) cf107 (fun w hw => c_s_EnterSpace fl w a1 x8.1 rfl (OwnC.pass (id := 1) (hh _ _ rfl) ho1_0 hw) rfl (OwnC.pass (id := 2) (hh _ _ rfl) ho1_1 hw) rfl (OwnC.pass (id := 3) (hh _ _ rfl) ho1_2 hw) rfl (OwnC.pass (id := 4) (hh _ _ rfl) ho1_3 hw) x9 e9) (yB rfl rfl)) ?_))
  rintro _ _ ⟨_, ⟨p10, _, c12, C13, p14, _, c16, C17, p18, _, c20, C21, p22, _, c24, C25, rfl, rfl, rfl, o13, rfl, o17, rfl, o21, rfl, o25⟩, rfl⟩
  refine dk rfl (dM rfl (dT rfl (dT rfl (dC9 7 ts34 rfl rfl rfl (dS rfl (dn (kw_bl_normal (kw_nx (cw_seq (sr (oM rfl (oK rfl (nn ?_)))))))))))))
  refine cw_cond rfl (fun h26 => ?_) (fun h26 => ?_)
  ·have H0 := cond_t H0 h26
   refine sr (oB9 5 ts34 rfl (oC9 6 ts34 rfl rfl (nn (cw_ret (kw_nx_ret (kw_addNil 15 (kw_addNil 16 (kw_addNil 17 (kw_addNil 18 ?_)))))))))
   obtain rfl := sI H0
   exact kr Tryz.results92 (rC9 6 ts34 rfl rfl) [0, 15, 16, 17, 18, 1, 2, 3, 4] ⟨_, _, _, _, _, _, _, _, _, _, _, _, _, _, _, _, rfl, rfl, rfl, ho1_0, rfl, ho1_1, rfl, ho1_2, rfl, ho1_3⟩
  have H0 := cond_f H0 h26
  refine cw_skip (kw_nx (sr (oB9 7 ts34 rfl (oC9 6 ts34 rfl rfl (nn (cw_ret (kw_addNil 19 (kw_addNil 20 (kw_addNil 21 (kw_addNil 22 ?_))))))))))
  obtain rfl := sI H0
  exact kr Tryz.results92 (rC9 6 ts34 rfl rfl) [0, 19, 20, 21, 22, 11, 12, 13, 14] ⟨_, _, _, _, _, _, _, _, _, _, _, _, _, _, _, _, rfl, rfl, rfl, o13, rfl, o17, rfl, o21, rfl, o25⟩
 have H0 := cond_f H0 h5
 obtain ⟨y28, ey28, H0⟩ := bS H0
 refine cw_seq (sr (oQ rfl (oS rfl (nn (cw_join (ι := Unit) (fun _ => True) (fun _ => [(0, .pointer (some ⟨m0, 0, none⟩)), (3, .pointer (some ⟨b1, 0, none⟩)), (4, .pointer (some ⟨b2, 0, none⟩)), (5, .pointer (some ⟨b3, 0, none⟩)), (6, .bool false), (9, .int .i64 x4.1), (20, .bool y28)]) (fun _ => [(0, [(m0, .cells #[.slice p0_0_0 ((a0_0).length) c0_0_0, .int .i64 x4.2] 91 (0, 0))]), (1, C1_0), (2, C1_1), (3, C1_2), (4, C1_3), (5, [(b1, .cells #[.slice p1_0 ((a1.t.b).length) c1_0, .slice p1_1 ((a1.t.f).length) c1_1, .slice p1_2 ((a1.c.l).length) c1_2, .int .i64 a1.c.h, .int .i64 a1.g.c, .int .i64 a1.g.n, .int .i64 a1.g.r, .slice p1_3 ((a1.g.o).length) c1_3, .int .i64 a1.s] 34 (0, 0))]), (6, [(b2, .cells #[.slice none 0 0, .slice none 0 0, .slice none 0 0, .int .i64 0, .int .i64 0, .int .i64 0, .int .i64 0, .slice none 0 0, .int .i64 0] 34 (0, 0))]), (7, [(b3, .cells #[.slice p1_0 ((a1.t.b).length) c1_0, .slice p1_1 ((a1.t.f).length) c1_1, .slice p1_2 ((a1.c.l).length) c1_2, .int .i64 a1.c.h, .int .i64 a1.g.c, .int .i64 a1.g.n, .int .i64 a1.g.r, .slice p1_3 ((a1.g.o).length) c1_3, .int .i64 a1.s] 34 (0, 0))])]) ?_ (fun _ _ => ?_))))))
 ·refine cw_cond rfl (fun h29 => ?_) (fun h29 => ?_)
  ·have ey28 := cond_t ey28 h29
   refine cw_skip ?_
   obtain rfl := sI ey28
   exact kw_join () trivial ⟨rfl, rfl, rfl, rfl, rfl, rfl, rfl, trivial⟩ ⟨rfl, rfl, rfl, rfl, rfl, rfl, rfl, rfl, trivial⟩
  have ey28 := cond_f ey28 h29
  refine sr (oQ rfl (oS rfl (nn (cw_cond rfl (fun h30 => ?_) (fun h30 => ?_)))))
  ·have ey28 := cond_t ey28 h30
   refine cw_skip ?_
   obtain rfl := sI ey28
   exact kw_join () trivial ⟨rfl, rfl, rfl, rfl, rfl, rfl, rfl, trivial⟩ ⟨rfl, rfl, rfl, rfl, rfl, rfl, rfl, rfl, trivial⟩
  have ey28 := cond_f ey28 h30
  refine cw_region (oQ rfl (oS rfl (ow_nil ?_)))
  obtain rfl := sI ey28
  exact kw_join () trivial ⟨rfl, rfl, rfl, rfl, rfl, rfl, rfl, trivial⟩ ⟨rfl, rfl, rfl, rfl, rfl, rfl, rfl, rfl, trivial⟩
 refine kw_nx (cw_cond rfl (fun h31 => ?_) (fun h31 => ?_))
 ·have H0 := cond_t H0 h31
  obtain ⟨x32, e32, H0⟩ := bS H0
  obtain ⟨x33, e33, H0⟩ := bS H0
  obtain ⟨x34, e34, H0⟩ := bS H0
  refine rdt g_mixed (rn 0 21) ⟨[[5],[],[0],[],[0],[],[],[],[],[5],[],[0],[],[],[0,26],[1,2,3,4],[],[],[],[7]], [[],[],[0],[],[0],[],[],[],[],[],[],[0],[],[26],[0],[28,29,30,31],[],[],[],[7]], [13,15]⟩ (dB9 5 ts34 rfl (dM rfl (dV rfl (fun hh => stpU_callM (fun i => bif Nat.beq i 0 then 0 else 23 + i) cf54 (fun w hw hb => c_s_l12Rd_pick fl w m0 a0_0 x4.2 3 rfl (RO.passM hr0_0_0 hw hb) (hw.pass (js := [0]) ⟨0, [], rfl, (hh _ _ rfl), trivial⟩ (by decide)) x32 e32) (yB rfl rfl) ⟨(hh _ _ rfl), (fun _ _ hp => by obtain ⟨_, rfl⟩ := hp; exact ⟨_, rfl⟩), trivial⟩) rfl (dM rfl (dV rfl (fun hh => stpU_callM (fun i => bif Nat.beq i 0 then 0 else 24 + i) cf109 (fun w hw hb => c_s_l6Page fl w m0 a0_0 x32.2 rfl (RO.passM hr0_0_0 hw hb) (hw.pass (js := [0]) ⟨0, [], rfl, (hh _ _ rfl), trivial⟩ (by decide)) x33 e33) (yA rfl) ⟨(hh _ _ rfl), (fun _ _ hp => by obtain ⟨_, rfl⟩ := hp; exact ⟨_, rfl⟩), trivial⟩) rfl (dV rfl (fun hh => stpU_call (fun i => 25 + i) cf87 (fun w hw => c_s_KeyFor fl w x32.1 x33.1 x34 e34) (yB rfl rfl)) rfl ?_))))))
  obtain ⟨x35, e35, H0⟩ := bS H0
  refine dM rfl (dA 0 rfl Tryz.underlying34 rfl ts26 rfl (dA 1 rfl Tryz.underlying26 rfl ts24 rfl (dL 5 ts24 rfl (dD rfl (stp_len Tryz.underlying24 rfl) (dV rfl (fun hh => stpU_callM (fun i => bif Nat.beq i 0 then 0 else 25 + i) cf54 (fun w hw hb => c_s_l12Rd_pick fl w m0 a0_0 x33.2 ((a1.t.f).length : Int) rfl (RO.passM hr0_0_0 hw hb) (hw.pass (js := [0]) ⟨0, [], rfl, (hh _ _ rfl), trivial⟩ (by decide)) x35 e35) (yB rfl rfl) ⟨(hh _ _ rfl), (fun _ _ hp => by obtain ⟨_, rfl⟩ := hp; exact ⟨_, rfl⟩), trivial⟩) rfl (dM rfl (dE rfl (fun hh => stpU_lit (sz := 1) (l := [3, 1, 7]) [.int .i64 3, .int .i64 1, .int .i64 7] sl23 26 (sevp_cons rfl (sevp_cons rfl (sevp_cons rfl sevp_nil))) rfl rfl rfl rfl rfl rfl rfl rfl rfl) ?_)))))))
  rintro _ _ ⟨p36, C37, rfl, rfl, o37⟩
  obtain ⟨x38, e38, H0⟩ := bS H0
  obtain ⟨x39, e39, H0⟩ := bS H0
  refine dk rfl (dV rfl (fun hh => stpU_callM (fun i => bif Nat.beq i 0 then 0 else 27 + i) cf55 (fun w hw hb => c_s_l12Rd_num fl w m0 a0_0 x35.2 ([3, 1, 7]) rfl (RO.passM hr0_0_0 hw hb) (by simp) (OwnC.passM (id := 26) (hh _ _ rfl) o37 hw hb ⟨rfl, trivial⟩) (hw.pass (js := [0]) ⟨0, [], rfl, (hh _ _ rfl), trivial⟩ (by decide)) x38 e38) (yB rfl rfl) ⟨(hh _ _ rfl), (fun _ _ hp => by obtain ⟨_, rfl⟩ := hp; exact ⟨_, rfl⟩), trivial⟩) rfl (dE rfl (fun hh => stpU_call (fun i => 28 + i) cf108 (fun w hw => c_s_PutPage fl w a1 x34 x35.1 x38.1 rfl (OwnC.pass (id := 1) (hh _ _ rfl) ho1_0 hw) rfl (OwnC.pass (id := 2) (hh _ _ rfl) ho1_1 hw) rfl (OwnC.pass (id := 3) (hh _ _ rfl) ho1_2 hw) rfl (OwnC.pass (id := 4) (hh _ _ rfl) ho1_3 hw) x39 e39) (yD rfl rfl rfl rfl)) ?_))
  rintro _ _ ⟨_, ⟨p40, _, c42, C43, p44, _, c46, C47, p48, _, c50, C51, p52, _, c54, C55, rfl, rfl, rfl, o43, rfl, o47, rfl, o51, rfl, o55⟩, rfl⟩
  refine dk rfl (dM rfl (dT rfl (dT rfl (dC9 7 ts34 rfl rfl rfl (dS rfl (dn (kw_bl_normal (kw_nx (cw_seq (sr (oM rfl (oK rfl (nn ?_)))))))))))))
  refine cw_cond rfl (fun h56 => ?_) (fun h56 => ?_)
  ·have H0 := cond_t H0 h56
   refine sr (oB9 5 ts34 rfl (oC9 6 ts34 rfl rfl (nn (cw_ret (kw_nx_ret (kw_addNil 32 (kw_addNil 33 (kw_addNil 34 (kw_addNil 35 ?_)))))))))
   obtain rfl := sI H0
   exact kr Tryz.results92 (rC9 6 ts34 rfl rfl) [0, 32, 33, 34, 35, 1, 2, 3, 4] ⟨_, _, _, _, _, _, _, _, _, _, _, _, _, _, _, _, rfl, rfl, rfl, ho1_0, rfl, ho1_1, rfl, ho1_2, rfl, ho1_3⟩
  have H0 := cond_f H0 h56
  refine cw_skip (kw_nx (sr (oB9 7 ts34 rfl (oC9 6 ts34 rfl rfl (nn (cw_ret (kw_addNil 36 (kw_addNil 37 (kw_addNil 38 (kw_addNil 39 ?_))))))))))
  obtain rfl := sI H0
  exact kr Tryz.results92 (rC9 6 ts34 rfl rfl) [0, 36, 37, 38, 39, 28, 29, 30, 31] ⟨_, _, _, _, _, _, _, _, _, _, _, _, _, _, _, _, rfl, rfl, rfl, o43, rfl, o47, rfl, o51, rfl, o55⟩
 have H0 := cond_f H0 h31
 obtain ⟨y58, ey58, H0⟩ := bS H0
 refine cw_seq (sr (oQ rfl (oS rfl (nn (cw_join (ι := Unit) (fun _ => True) (fun _ => [(0, .pointer (some ⟨m0, 0, none⟩)), (3, .pointer (some ⟨b1, 0, none⟩)), (4, .pointer (some ⟨b2, 0, none⟩)), (5, .pointer (some ⟨b3, 0, none⟩)), (6, .bool false), (9, .int .i64 x4.1), (43, .bool y58)]) (fun _ => [(0, [(m0, .cells #[.slice p0_0_0 ((a0_0).length) c0_0_0, .int .i64 x4.2] 91 (0, 0))]), (1, C1_0), (2, C1_1), (3, C1_2), (4, C1_3), (5, [(b1, .cells #[.slice p1_0 ((a1.t.b).length) c1_0, .slice p1_1 ((a1.t.f).length) c1_1, .slice p1_2 ((a1.c.l).length) c1_2, .int .i64 a1.c.h, .int .i64 a1.g.c, .int .i64 a1.g.n, .int .i64 a1.g.r, .slice p1_3 ((a1.g.o).length) c1_3, .int .i64 a1.s] 34 (0, 0))]), (6, [(b2, .cells #[.slice none 0 0, .slice none 0 0, .slice none 0 0, .int .i64 0, .int .i64 0, .int .i64 0, .int .i64 0, .slice none 0 0, .int .i64 0] 34 (0, 0))]), (7, [(b3, .cells #[.slice p1_0 ((a1.t.b).length) c1_0, .slice p1_1 ((a1.t.f).length) c1_1, .slice p1_2 ((a1.c.l).length) c1_2, .int .i64 a1.c.h, .int .i64 a1.g.c, .int .i64 a1.g.n, .int .i64 a1.g.r, .slice p1_3 ((a1.g.o).length) c1_3, .int .i64 a1.s] 34 (0, 0))])]) ?_ (fun _ _ => ?_))))))
 ·refine cw_cond rfl (fun h59 => ?_) (fun h59 => ?_)
  ·have ey58 := cond_t ey58 h59
   refine cw_skip ?_
   obtain rfl := sI ey58
   exact kw_join () trivial ⟨rfl, rfl, rfl, rfl, rfl, rfl, rfl, trivial⟩ ⟨rfl, rfl, rfl, rfl, rfl, rfl, rfl, rfl, trivial⟩
  have ey58 := cond_f ey58 h59
  refine cw_region (oQ rfl (oS rfl (ow_nil ?_)))
  obtain rfl := sI ey58
  exact kw_join () trivial ⟨rfl, rfl, rfl, rfl, rfl, rfl, rfl, trivial⟩ ⟨rfl, rfl, rfl, rfl, rfl, rfl, rfl, rfl, trivial⟩
 refine kw_nx (cw_cond rfl (fun h60 => ?_) (fun h60 => ?_))
 ·have H0 := cond_t H0 h60
  obtain ⟨x61, e61, H0⟩ := bS H0
  refine rdt g_mixed (rn 0 14) ⟨[[5],[],[0],[],[],[0,41],[1,2,3,4],[],[],[],[],[],[7]], [[],[],[0],[],[41],[0],[43,44,45,46],[],[],[],[],[],[7]], [4,6]⟩ (dB9 5 ts34 rfl (dM rfl (dV rfl (fun hh => stpU_callM (fun i => bif Nat.beq i 0 then 0 else 40 + i) cf109 (fun w hw hb => c_s_l6Page fl w m0 a0_0 x4.2 rfl (RO.passM hr0_0_0 hw hb) (hw.pass (js := [0]) ⟨0, [], rfl, (hh _ _ rfl), trivial⟩ (by decide)) x61 e61) (yA rfl) ⟨(hh _ _ rfl), (fun _ _ hp => by obtain ⟨_, rfl⟩ := hp; exact ⟨_, rfl⟩), trivial⟩) rfl (dM rfl (dE rfl (fun hh => stpU_lit (sz := 1) (l := [1, 0, 2]) [.int .i64 1, .int .i64 0, .int .i64 2] sl23 41 (sevp_cons rfl (sevp_cons rfl (sevp_cons rfl sevp_nil))) rfl rfl rfl rfl rfl rfl rfl rfl rfl) ?_)))))
  rintro _ _ ⟨p62, C63, rfl, rfl, o63⟩
  obtain ⟨x64, e64, H0⟩ := bS H0
  obtain ⟨x65, e65, H0⟩ := bS H0
  refine dk rfl (dV rfl (fun hh => stpU_callM (fun i => bif Nat.beq i 0 then 0 else 42 + i) cf55 (fun w hw hb => c_s_l12Rd_num fl w m0 a0_0 x61.2 ([1, 0, 2]) rfl (RO.passM hr0_0_0 hw hb) (by simp) (OwnC.passM (id := 41) (hh _ _ rfl) o63 hw hb ⟨rfl, trivial⟩) (hw.pass (js := [0]) ⟨0, [], rfl, (hh _ _ rfl), trivial⟩ (by decide)) x64 e64) (yB rfl rfl) ⟨(hh _ _ rfl), (fun _ _ hp => by obtain ⟨_, rfl⟩ := hp; exact ⟨_, rfl⟩), trivial⟩) rfl (dE rfl (fun hh => stpU_call (fun i => 43 + i) cf110 (fun w hw => c_s_TouchPage fl w a1 x61.1 x64.1 rfl (OwnC.pass (id := 1) (hh _ _ rfl) ho1_0 hw) rfl (OwnC.pass (id := 2) (hh _ _ rfl) ho1_1 hw) rfl (OwnC.pass (id := 3) (hh _ _ rfl) ho1_2 hw) rfl (OwnC.pass (id := 4) (hh _ _ rfl) ho1_3 hw) x65 e65) (yC rfl rfl rfl)) ?_))
  rintro _ _ ⟨_, ⟨p66, _, c68, C69, p70, _, c72, C73, p74, _, c76, C77, p78, _, c80, C81, rfl, rfl, rfl, o69, rfl, o73, rfl, o77, rfl, o81⟩, rfl⟩
  refine dk rfl (dM rfl (dT rfl (dT rfl (dT rfl (dT rfl (dC9 7 ts34 rfl rfl rfl (dS rfl (dn (kw_bl_normal (kw_nx (cw_seq (sr (oM rfl ?_)))))))))))))
  refine oK rfl (nn (cw_cond rfl (fun h82 => ?_) (fun h82 => ?_)))
  ·have H0 := cond_t H0 h82
   refine sr (oB9 5 ts34 rfl (oC9 6 ts34 rfl rfl (nn (cw_ret (kw_nx_ret (kw_addNil 47 (kw_addNil 48 (kw_addNil 49 (kw_addNil 50 ?_)))))))))
   obtain rfl := sI H0
   exact kr Tryz.results92 (rC9 6 ts34 rfl rfl) [0, 47, 48, 49, 50, 1, 2, 3, 4] ⟨_, _, _, _, _, _, _, _, _, _, _, _, _, _, _, _, rfl, rfl, rfl, ho1_0, rfl, ho1_1, rfl, ho1_2, rfl, ho1_3⟩
  have H0 := cond_f H0 h82
  refine cw_skip (kw_nx (sr (oB9 7 ts34 rfl (oC9 6 ts34 rfl rfl (nn (cw_ret (kw_addNil 51 (kw_addNil 52 (kw_addNil 53 (kw_addNil 54 ?_))))))))))
  obtain rfl := sI H0
  exact kr Tryz.results92 (rC9 6 ts34 rfl rfl) [0, 51, 52, 53, 54, 43, 44, 45, 46] ⟨_, _, _, _, _, _, _, _, _, _, _, _, _, _, _, _, rfl, rfl, rfl, o69, rfl, o73, rfl, o77, rfl, o81⟩
 have H0 := cond_f H0 h60
 refine sr (oQ rfl (oS rfl (nn (cw_cond rfl (fun h83 => ?_) (fun h83 => ?_)))))
 ·have H0 := cond_t H0 h83
  refine rdt g_mixed (rn 0 10) ⟨[[5],[],[],[0,55],[1,2,3,4],[],[],[],[7]], [[],[],[55],[0],[57,58,59,60],[],[],[],[7]], [2,4]⟩ (dB9 5 ts34 rfl (dM rfl (dE rfl (fun hh => stpU_lit (sz := 1) (l := [200, 201]) [.int .i64 200, .int .i64 201] sl23 55 (sevp_cons rfl (sevp_cons rfl sevp_nil)) rfl rfl rfl rfl rfl rfl rfl rfl rfl) ?_)))
  rintro _ _ ⟨p84, C85, rfl, rfl, o85⟩
  obtain ⟨x86, e86, H0⟩ := bS H0
  obtain ⟨x87, e87, H0⟩ := bS H0
  refine dk rfl (dV rfl (fun hh => stpU_callM (fun i => bif Nat.beq i 0 then 0 else 56 + i) cf55 (fun w hw hb => c_s_l12Rd_num fl w m0 a0_0 x4.2 ([200, 201]) rfl (RO.passM hr0_0_0 hw hb) (by simp) (OwnC.passM (id := 55) (hh _ _ rfl) o85 hw hb ⟨rfl, trivial⟩) (hw.pass (js := [0]) ⟨0, [], rfl, (hh _ _ rfl), trivial⟩ (by decide)) x86 e86) (yB rfl rfl) ⟨(hh _ _ rfl), (fun _ _ hp => by obtain ⟨_, rfl⟩ := hp; exact ⟨_, rfl⟩), trivial⟩) rfl (dE rfl (fun hh => stpU_call (fun i => 57 + i) cf111 (fun w hw => c_s_WirePage fl w a1 x86.1 rfl (OwnC.pass (id := 1) (hh _ _ rfl) ho1_0 hw) rfl (OwnC.pass (id := 2) (hh _ _ rfl) ho1_1 hw) rfl (OwnC.pass (id := 3) (hh _ _ rfl) ho1_2 hw) rfl (OwnC.pass (id := 4) (hh _ _ rfl) ho1_3 hw) x87 e87) (yB rfl rfl)) ?_))
  rintro _ _ ⟨_, ⟨p88, _, c90, C91, p92, _, c94, C95, p96, _, c98, C99, p100, _, c102, C103, rfl, rfl, rfl, o91, rfl, o95, rfl, o99, rfl, o103⟩, rfl⟩
  refine dk rfl (dM rfl (dT rfl (dT rfl (dC9 7 ts34 rfl rfl rfl (dS rfl (dn (kw_bl_normal (kw_nx (cw_seq (sr (oM rfl (oK rfl (nn ?_)))))))))))))
  refine cw_cond rfl (fun h104 => ?_) (fun h104 => ?_)
  ·have H0 := cond_t H0 h104
   refine sr (oB9 5 ts34 rfl (oC9 6 ts34 rfl rfl (nn (cw_ret (kw_nx_ret (kw_addNil 61 (kw_addNil 62 (kw_addNil 63 (kw_addNil 64 ?_)))))))))
   obtain rfl := sI H0
   exact kr Tryz.results92 (rC9 6 ts34 rfl rfl) [0, 61, 62, 63, 64, 1, 2, 3, 4] ⟨_, _, _, _, _, _, _, _, _, _, _, _, _, _, _, _, rfl, rfl, rfl, ho1_0, rfl, ho1_1, rfl, ho1_2, rfl, ho1_3⟩
  have H0 := cond_f H0 h104
  refine cw_skip (kw_nx (sr (oB9 7 ts34 rfl (oC9 6 ts34 rfl rfl (nn (cw_ret (kw_addNil 65 (kw_addNil 66 (kw_addNil 67 (kw_addNil 68 ?_))))))))))
  obtain rfl := sI H0
  exact kr Tryz.results92 (rC9 6 ts34 rfl rfl) [0, 65, 66, 67, 68, 57, 58, 59, 60] ⟨_, _, _, _, _, _, _, _, _, _, _, _, _, _, _, _, rfl, rfl, rfl, o91, rfl, o95, rfl, o99, rfl, o103⟩
 have H0 := cond_f H0 h83
 refine sr (oQ rfl (oS rfl (nn (cw_cond rfl (fun h105 => ?_) (fun h105 => ?_)))))
 ·have H0 := cond_t H0 h105
  obtain ⟨x106, e106, H0⟩ := bS H0
  obtain ⟨x107, e107, H0⟩ := bS H0
  obtain ⟨x108, e108, H0⟩ := bS H0
  obtain ⟨x109, e109, H0⟩ := bS H0
  refine rdt g_mixed (rn 0 12) ⟨[[5],[],[0],[],[0],[],[1,2,3,4],[],[],[],[7]], [[],[],[0],[],[0],[],[71,72,73,74],[],[],[],[7]], [6]⟩ (dB9 5 ts34 rfl (dM rfl (dV rfl (fun hh => stpU_callM (fun i => bif Nat.beq i 0 then 0 else 69 + i) cf54 (fun w hw hb => c_s_l12Rd_pick fl w m0 a0_0 x4.2 3 rfl (RO.passM hr0_0_0 hw hb) (hw.pass (js := [0]) ⟨0, [], rfl, (hh _ _ rfl), trivial⟩ (by decide)) x106 e106) (yB rfl rfl) ⟨(hh _ _ rfl), (fun _ _ hp => by obtain ⟨_, rfl⟩ := hp; exact ⟨_, rfl⟩), trivial⟩) rfl (dM rfl (dV rfl (fun hh => stpU_callM (fun i => bif Nat.beq i 0 then 0 else 70 + i) cf109 (fun w hw hb => c_s_l6Page fl w m0 a0_0 x106.2 rfl (RO.passM hr0_0_0 hw hb) (hw.pass (js := [0]) ⟨0, [], rfl, (hh _ _ rfl), trivial⟩ (by decide)) x107 e107) (yA rfl) ⟨(hh _ _ rfl), (fun _ _ hp => by obtain ⟨_, rfl⟩ := hp; exact ⟨_, rfl⟩), trivial⟩) rfl (dV rfl (fun hh => stpU_call (fun i => 71 + i) cf87 (fun w hw => c_s_KeyFor fl w x106.1 x107.1 x108 e108) (yB rfl rfl)) rfl (dE rfl (fun hh => stpU_call (fun i => 71 + i) cf112 (fun w hw => c_s_TakePage fl w a1 x108 rfl (OwnC.pass (id := 1) (hh _ _ rfl) ho1_0 hw) rfl (OwnC.pass (id := 2) (hh _ _ rfl) ho1_1 hw) rfl (OwnC.pass (id := 3) (hh _ _ rfl) ho1_2 hw) rfl (OwnC.pass (id := 4) (hh _ _ rfl) ho1_3 hw) x109 e109) (yB rfl rfl)) ?_)))))))
  rintro _ _ ⟨_, ⟨p110, _, c112, C113, p114, _, c116, C117, p118, _, c120, C121, p122, _, c124, C125, rfl, rfl, rfl, o113, rfl, o117, rfl, o121, rfl, o125⟩, rfl⟩
  refine dk rfl (dM rfl (dT rfl (dT rfl (dC9 7 ts34 rfl rfl rfl (dS rfl (dn (kw_bl_normal (kw_nx (cw_seq (sr (oM rfl (oK rfl (nn ?_)))))))))))))
  refine cw_cond rfl (fun h126 => ?_) (fun h126 => ?_)
  ·have H0 := cond_t H0 h126
   refine sr (oB9 5 ts34 rfl (oC9 6 ts34 rfl rfl (nn (cw_ret (kw_nx_ret (kw_addNil 75 (kw_addNil 76 (kw_addNil 77 (kw_addNil 78 ?_)))))))))
   obtain rfl := sI H0
   exact kr Tryz.results92 (rC9 6 ts34 rfl rfl) [0, 75, 76, 77, 78, 1, 2, 3, 4] ⟨_, _, _, _, _, _, _, _, _, _, _, _, _, _, _, _, rfl, rfl, rfl, ho1_0, rfl, ho1_1, rfl, ho1_2, rfl, ho1_3⟩
  have H0 := cond_f H0 h126
  refine cw_skip (kw_nx (sr (oB9 7 ts34 rfl (oC9 6 ts34 rfl rfl (nn (cw_ret (kw_addNil 79 (kw_addNil 80 (kw_addNil 81 (kw_addNil 82 ?_))))))))))
  obtain rfl := sI H0
  exact kr Tryz.results92 (rC9 6 ts34 rfl rfl) [0, 79, 80, 81, 82, 71, 72, 73, 74] ⟨_, _, _, _, _, _, _, _, _, _, _, _, _, _, _, _, rfl, rfl, rfl, o113, rfl, o117, rfl, o121, rfl, o125⟩
 have H0 := cond_f H0 h105
 refine cw_skip (kw_bl_normal (kw_nx (cw_seq (sr (oM rfl (oK rfl (nn (cw_cond rfl (fun h127 => ?_) (fun h127 => ?_)))))))))
 ·have H0 := cond_t H0 h127
  refine sr (oB9 5 ts34 rfl (oC9 6 ts34 rfl rfl (nn (cw_ret (kw_nx_ret (kw_addNil 83 (kw_addNil 84 (kw_addNil 85 (kw_addNil 86 ?_)))))))))
  obtain rfl := sI H0
  exact kr Tryz.results92 (rC9 6 ts34 rfl rfl) [0, 83, 84, 85, 86, 1, 2, 3, 4] ⟨_, _, _, _, _, _, _, _, _, _, _, _, _, _, _, _, rfl, rfl, rfl, ho1_0, rfl, ho1_1, rfl, ho1_2, rfl, ho1_3⟩
 have H0 := cond_f H0 h127
 refine cw_skip (kw_nx (sr (oB9 7 ts34 rfl (oC9 6 ts34 rfl rfl (nn (cw_ret (kw_addNil 87 (kw_addNil 88 (kw_addNil 89 (kw_addNil 90 ?_))))))))))
 obtain rfl := sI H0
 exact kr Tryz.results92 (rC9 6 ts34 rfl rfl) [0, 87, 88, 89, 90, 1, 2, 3, 4] ⟨_, _, _, _, _, _, _, _, _, _, _, _, _, _, _, _, rfl, rfl, rfl, ho1_0, rfl, ho1_1, rfl, ho1_2, rfl, ho1_3⟩

theorem c_s_l6Draw (fl : Nat) (w : World) (m0 : Nat) (a0_0 : (List UInt8)) (a0_1 : Int) (hn0_0_0 : n0_0_0 = (a0_0).length) (hr0_0_0 : RO w (hkeys [(0, [(m0, .cells #[.slice p0_0_0 n0_0_0 c0_0_0, .int .i64 a0_1] 91 (0, 0))])]) (RdL p0_0_0 c0_0_0 a0_0)) (hM : Sat w (hkeys [(0, [(m0, .cells #[.slice p0_0_0 n0_0_0 c0_0_0, .int .i64 a0_1] 91 (0, 0))])]) w [(0, [(m0, .cells #[.slice p0_0_0 n0_0_0 c0_0_0, .int .i64 a0_1] 91 (0, 0))])]) (r : Mc × Int) (H0 : s_l6Draw fl a0_0 a0_1 = some r) :
  Ct Tryz.prog 58 [.pointer (some ⟨m0, 0, none⟩)] w [(0, [(m0, .cells #[.slice p0_0_0 n0_0_0 c0_0_0, .int .i64 a0_1] 91 (0, 0))])] (fun rv h' => ∃ (x1 : Option Addr) (y1 z1 : Nat) (C1 : Res) (x2 : Option Addr) (y2 z2 : Nat) (C2 : Res) (x3 : Option Addr) (y3 z3 : Nat) (C3 : Res) (x4 : Option Addr) (y4 z4 : Nat) (C4 : Res), rv = .agg #[.slice x1 y1 z1, .slice x2 y2 z2, .slice x3 y3 z3, .int .i64 r.1.c.h, .int .i64 r.1.g.c, .int .i64 r.1.g.n, .int .i64 r.1.g.r, .slice x4 y4 z4, .int .i64 r.1.s] ∧ h' = [(0, [(m0, .cells #[.slice p0_0_0 n0_0_0 c0_0_0, .int .i64 r.2] 91 (0, 0))]), (1, C1), (2, C2), (3, C3), (4, C4)] ∧ y1 = (r.1.t.b).length ∧ OwnC 3 x1 z1 r.1.t.b C1 ∧ y2 = (r.1.t.f).length ∧ OwnC 51 x2 z2 r.1.t.f C2 ∧ y3 = (r.1.c.l).length ∧ OwnC 47 x3 z3 r.1.c.l C3 ∧ y4 = (r.1.g.o).length ∧ OwnC 89 x4 z4 r.1.g.o C4) := by
 subst hn0_0_0
 unfold s_l6Draw at H0
 refine ct_of_cw Tryz.func58 rfl Tryz.ntmps58 rfl hM ?_
 refine sr (oE (stpU_alloc 1 tz34 rfl) rfl ?_)
 rintro _ _ ⟨b1, rfl, rfl⟩
 refine nn (sr (oM rfl (oE (stpU_lit (sz := 1) (l := [6, 4, 8]) [.int .i64 6, .int .i64 4, .int .i64 8] sl23 2 (sevp_cons rfl (sevp_cons rfl (sevp_cons rfl sevp_nil))) rfl rfl rfl rfl rfl rfl rfl rfl rfl) rfl ?_)))
 rintro _ _ ⟨p2, C3, rfl, rfl, o3⟩
 obtain ⟨x4, e4, H0⟩ := bS H0
 refine oE (stpU_callM (fun i => bif Nat.beq i 0 then 0 else 3 + i) cf55 (fun w hw hb => c_s_l12Rd_num fl w m0 a0_0 a0_1 ([6, 4, 8]) rfl (RO.passM hr0_0_0 hw hb) (by simp) (OwnC.passM (id := 2) rfl o3 hw hb ⟨rfl, trivial⟩) (hw.pass (js := [0]) ⟨0, [], rfl, rfl, trivial⟩ (by decide)) x4 e4) (yB rfl rfl) ⟨rfl, (fun _ _ hp => by obtain ⟨_, rfl⟩ := hp; exact ⟨_, rfl⟩), trivial⟩) rfl ?_
 rintro _ _ ⟨_, ⟨rfl, rfl⟩, rfl⟩
 refine oM rfl (oE (stpU_lit (sz := 1) (l := [4, 2, 1]) [.int .i64 4, .int .i64 2, .int .i64 1] sl23 4 (sevp_cons rfl (sevp_cons rfl (sevp_cons rfl sevp_nil))) rfl rfl rfl rfl rfl rfl rfl rfl rfl) rfl ?_)
 rintro _ _ ⟨p5, C6, rfl, rfl, o6⟩
 obtain ⟨x7, e7, H0⟩ := bS H0
 refine oE (stpU_callM (fun i => bif Nat.beq i 0 then 0 else 5 + i) cf55 (fun w hw hb => c_s_l12Rd_num fl w m0 a0_0 x4.2 ([4, 2, 1]) rfl (RO.passM hr0_0_0 hw hb) (by simp) (OwnC.passM (id := 4) rfl o6 hw hb ⟨rfl, trivial⟩) (hw.pass (js := [0]) ⟨0, [], rfl, rfl, trivial⟩ (by decide)) x7 e7) (yB rfl rfl) ⟨rfl, (fun _ _ hp => by obtain ⟨_, rfl⟩ := hp; exact ⟨_, rfl⟩), trivial⟩) rfl ?_
 rintro _ _ ⟨_, ⟨rfl, rfl⟩, rfl⟩
 refine oM rfl (oE (stpU_lit (sz := 1) (l := [3, 2, 4, 1]) [.int .i64 3, .int .i64 2, .int .i64 4, .int .i64 1] sl23 6 (sevp_cons rfl (sevp_cons rfl (sevp_cons rfl (sevp_cons rfl sevp_nil)))) rfl rfl rfl rfl rfl rfl rfl rfl rfl) rfl ?_)
 rintro _ _ ⟨p8, C9, rfl, rfl, o9⟩
 obtain ⟨x10, e10, H0⟩ := bS H0
 refine oE (stpU_callM (fun i => bif Nat.beq i 0 then 0 else 7 + i) cf55 (fun w hw hb => c_s_l12Rd_num fl w m0 a0_0 x7.2 ([3, 2, 4, 1]) rfl (RO.passM hr0_0_0 hw hb) (by simp) (OwnC.passM (id := 6) rfl o9 hw hb ⟨rfl, trivial⟩) (hw.pass (js := [0]) ⟨0, [], rfl, rfl, trivial⟩ (by decide)) x10 e10) (yB rfl rfl) ⟨rfl, (fun _ _ hp => by obtain ⟨_, rfl⟩ := hp; exact ⟨_, rfl⟩), trivial⟩) rfl ?_
 rintro _ _ ⟨_, ⟨rfl, rfl⟩, rfl⟩
 refine oM rfl (oE (stpU_lit (sz := 1) (l := [2, 3, 1]) [.int .i64 2, .int .i64 3, .int .i64 1] sl23 8 (sevp_cons rfl (sevp_cons rfl (sevp_cons rfl sevp_nil))) rfl rfl rfl rfl rfl rfl rfl rfl rfl) rfl ?_)
 rintro _ _ ⟨p11, C12, rfl, rfl, o12⟩
 obtain ⟨x13, e13, H0⟩ := bS H0
 refine oE (stpU_callM (fun i => bif Nat.beq i 0 then 0 else 9 + i) cf55 (fun w hw hb => c_s_l12Rd_num fl w m0 a0_0 x10.2 ([2, 3, 1]) rfl (RO.passM hr0_0_0 hw hb) (by simp) (OwnC.passM (id := 8) rfl o12 hw hb ⟨rfl, trivial⟩) (hw.pass (js := [0]) ⟨0, [], rfl, rfl, trivial⟩ (by decide)) x13 e13) (yB rfl rfl) ⟨rfl, (fun _ _ hp => by obtain ⟨_, rfl⟩ := hp; exact ⟨_, rfl⟩), trivial⟩) rfl ?_
 rintro _ _ ⟨_, ⟨rfl, rfl⟩, rfl⟩
 obtain ⟨x14, e14, H0⟩ := bS H0
 refine oE (stpU_call (fun i => 10 + i) cf91 (fun w hw => c_s_NewMachine fl w x4.1 x7.1 x10.1 x13.1 x14 e14) (yD rfl rfl rfl rfl)) rfl ?_
 rintro _ _ ⟨_, ⟨p15, _, c17, C18, p19, _, c21, C22, p23, _, c25, C26, p27, _, c29, C30, rfl, rfl, rfl, o18, rfl, o22, rfl, o26, rfl, o30⟩, rfl⟩
 refine oM rfl (oT rfl (oT rfl (oE (stpU_alloc 14 tz34 rfl) rfl ?_)))
 rintro _ _ ⟨b31, rfl, rfl⟩
 obtain ⟨x32, e32, H0⟩ := bS H0
 refine oC9 14 ts34 rfl rfl (oS rfl (nn (cw_seq (sr (oM rfl (oE (stpU_callM (fun i => bif Nat.beq i 0 then 0 else 15 + i) cf54 (fun w hw hb => c_s_l12Rd_pick fl w m0 a0_0 x13.2 10 rfl (RO.passM hr0_0_0 hw hb) (hw.pass (js := [0]) ⟨0, [], rfl, rfl, trivial⟩ (by decide)) x32 e32) (yB rfl rfl) ⟨rfl, (fun _ _ hp => by obtain ⟨_, rfl⟩ := hp; exact ⟨_, rfl⟩), trivial⟩) rfl ?_))))))
 rintro _ _ ⟨_, ⟨rfl, rfl⟩, rfl⟩
 obtain ⟨x33, e33, H0⟩ := bS H0
 obtain ⟨o0_0, eo0_0, H0⟩ := bS H0
 refine oP e33 rfl (oS rfl (nn (cw_join (ι := Int × (List Int) × (List F) × (List Ln) × Int × Int × Int × Int × (List Ow) × Int × Int × Option Addr × Nat × Nat × Res × Option Addr × Nat × Nat × Res × Option Addr × Nat × Nat × Res × Option Addr × Nat × Nat × Res) (fun | (v34, v35, v40, v45, v50, v51, v52, v53, v54, v59, v60, p36, n37, c38, C39, p41, n42, c43, C44, p46, n47, c48, C49, p55, n56, c57, C58) => o0_0 = .out (v34, v35, v40, v45, v50, v51, v52, v53, v54, v59, v60) ∧ n37 = (v35).length ∧ OwnC 3 p36 c38 v35 C39 ∧ n42 = (v40).length ∧ OwnC 51 p41 c43 v40 C44 ∧ n47 = (v45).length ∧ OwnC 47 p46 c48 v45 C49 ∧ n56 = (v54).length ∧ OwnC 89 p55 c57 v54 C58) (fun | (v34, v35, v40, v45, v50, v51, v52, v53, v54, v59, v60, p36, n37, c38, C39, p41, n42, c43, C44, p46, n47, c48, C49, p55, n56, c57, C58) => [(0, .pointer (some ⟨m0, 0, none⟩)), (2, .pointer (some ⟨b1, 0, none⟩)), (3, .pointer (some ⟨b31, 0, none⟩)), (5, .int .i64 v60)]) (fun | (v34, v35, v40, v45, v50, v51, v52, v53, v54, v59, v60, p36, n37, c38, C39, p41, n42, c43, C44, p46, n47, c48, C49, p55, n56, c57, C58) => [(0, [(m0, .cells #[.slice p0_0_0 ((a0_0).length) c0_0_0, .int .i64 v34] 91 (0, 0))]), (1, [(b1, .cells #[.slice none 0 0, .slice none 0 0, .slice none 0 0, .int .i64 0, .int .i64 0, .int .i64 0, .int .i64 0, .slice none 0 0, .int .i64 0] 34 (0, 0))]), (10, C39), (11, C44), (12, C49), (13, C58), (14, [(b31, .cells #[.slice p36 n37 c38, .slice p41 n42 c43, .slice p46 n47 c48, .int .i64 v50, .int .i64 v51, .int .i64 v52, .int .i64 v53, .slice p55 n56 c57, .int .i64 v59] 34 (0, 0))])]) ?_ ?_)))
 ·refine cw_block (cw_loopS (ι := Nat × Int × (List Int) × (List F) × (List Ln) × Int × Int × Int × Int × (List Ow) × Int × Int × Option Addr × Nat × Nat × Res × Option Addr × Nat × Nat × Res × Option Addr × Nat × Nat × Res × Option Addr × Nat × Nat × Res) (js := [0, 1, 10, 11, 12, 13, 14]) (fun x => x.1) (fun | (fuel, v34, v35, v40, v45, v50, v51, v52, v53, v54, v59, v60, p36, n37, c38, C39, p41, n42, c43, C44, p46, n47, c48, C49, p55, n56, c57, C58) => s_l6Draw_L0 fl a0_0 fuel v34 v35 v40 v45 v50 v51 v52 v53 v54 v59 v60 = some o0_0 ∧ n37 = (v35).length ∧ OwnC 3 p36 c38 v35 C39 ∧ n42 = (v40).length ∧ OwnC 51 p41 c43 v40 C44 ∧ n47 = (v45).length ∧ OwnC 47 p46 c48 v45 C49 ∧ n56 = (v54).length ∧ OwnC 89 p55 c57 v54 C58) (fun | (_, v34, v35, v40, v45, v50, v51, v52, v53, v54, v59, v60, p36, n37, c38, C39, p41, n42, c43, C44, p46, n47, c48, C49, p55, n56, c57, C58) => [(0, .pointer (some ⟨m0, 0, none⟩)), (2, .pointer (some ⟨b1, 0, none⟩)), (3, .pointer (some ⟨b31, 0, none⟩)), (5, .int .i64 v60)]) (fun | (_, v34, v35, v40, v45, v50, v51, v52, v53, v54, v59, v60, p36, n37, c38, C39, p41, n42, c43, C44, p46, n47, c48, C49, p55, n56, c57, C58) => [(0, [(m0, .cells #[.slice p0_0_0 ((a0_0).length) c0_0_0, .int .i64 v34] 91 (0, 0))]), (1, [(b1, .cells #[.slice none 0 0, .slice none 0 0, .slice none 0 0, .int .i64 0, .int .i64 0, .int .i64 0, .int .i64 0, .slice none 0 0, .int .i64 0] 34 (0, 0))]), (10, C39), (11, C44), (12, C49), (13, C58), (14, [(b31, .cells #[.slice p36 n37 c38, .slice p41 n42 c43, .slice p46 n47 c48, .int .i64 v50, .int .i64 v51, .int .i64 v52, .int .i64 v53, .slice p55 n56 c57, .int .i64 v59] 34 (0, 0))])]) (fl, x32.2, x14.1.t.b, x14.1.t.f, x14.1.c.l, x14.1.c.h, x14.1.g.c, x14.1.g.n, x14.1.g.r, x14.1.g.o, x14.1.s, x33, p15, ((x14.1.t.b).length), c17, C18, p19, ((x14.1.t.f).length), c21, C22, p23, ((x14.1.c.l).length), c25, C26, p27, ((x14.1.g.o).length), c29, C30) ⟨eo0_0, rfl, o18, rfl, o22, rfl, o26, rfl, o30⟩ ⟨rfl, rfl, rfl, rfl, trivial⟩ ⟨0, [1, 10, 11, 12, 13, 14], rfl, rfl, 1, [10, 11, 12, 13, 14], rfl, rfl, 10, [11, 12, 13, 14], rfl, rfl, 11, [12, 13, 14], rfl, rfl, 12, [13, 14], rfl, rfl, 13, [14], rfl, rfl, 14, [], rfl, rfl, trivial⟩ (by decide) ?_)
  rintro ⟨fuel, v34, v35, v40, v45, v50, v51, v52, v53, v54, v59, v60, p36, _, c38, C39, p41, _, c43, C44, p46, _, c48, C49, p55, _, c57, C58⟩ ⟨H1, rfl, o39, rfl, o44, rfl, o49, rfl, o58⟩
  have H1 : s_l6Draw_L0 fl a0_0 fuel v34 v35 v40 v45 v50 v51 v52 v53 v54 v59 v60 = some o0_0 := H1
  rcases fuel with _ | fuel
  ·rw [s_l6Draw_L0.eq_1] at H1; cases H1
  rw [s_l6Draw_L0.eq_2] at H1
  dsimp only
  refine cw_seq (sr (oM rfl (oJ rfl (nn (cw_cond rfl (fun h61 => ?_) (fun h61 => ?_))))))
  ·have H1 := cond_t H1 h61
   obtain ⟨x62, e62, H1⟩ := bS H1
   refine cw_skip (kw_nx (cw_seq (cw_block (cw_region (oM rfl (oB9 14 ts34 rfl (oE (stpU_callM (fun i => bif Nat.beq i 0 then 0 else bif Nat.beq i 1 then 10 else bif Nat.beq i 2 then 11 else bif Nat.beq i 3 then 12 else bif Nat.beq i 4 then 13 else 16 + i) cf92 (fun w hw hb => c_s_l6Step fl w m0 a0_0 v34 (⟨(⟨v35, v40⟩ : T), (⟨v45, v50⟩ : Ca), (⟨v51, v52, v53, v54⟩ : Tg), v59⟩ : Mc) rfl (RO.passM hr0_0_0 hw hb) rfl o39 rfl o44 rfl o49 rfl o58 (hw.pass (js := [0, 10, 11, 12, 13]) ⟨0, [10, 11, 12, 13], rfl, rfl, 10, [11, 12, 13], rfl, rfl, 11, [12, 13], rfl, rfl, 12, [13], rfl, rfl, 13, [], rfl, rfl, trivial⟩ (by decide)) x62 e62) (yB rfl rfl) ⟨rfl, (fun _ _ hp => by obtain ⟨_, _, _, _, _, _, _, _, _, _, _, _, _, _, _, _, _, rfl, _⟩ := hp; exact ⟨_, rfl⟩), rfl, (fun _ _ hp => by obtain ⟨_, _, _, _, _, _, _, _, _, _, _, _, _, _, _, _, _, rfl, _⟩ := hp; exact ⟨_, rfl⟩), rfl, (fun _ _ hp => by obtain ⟨_, _, _, _, _, _, _, _, _, _, _, _, _, _, _, _, _, rfl, _⟩ := hp; exact ⟨_, rfl⟩), rfl, (fun _ _ hp => by obtain ⟨_, _, _, _, _, _, _, _, _, _, _, _, _, _, _, _, _, rfl, _⟩ := hp; exact ⟨_, rfl⟩), rfl, (fun _ _ hp => by obtain ⟨_, _, _, _, _, _, _, _, _, _, _, _, _, _, _, _, _, rfl, _⟩ := hp; exact ⟨_, rfl⟩), trivial⟩) rfl ?_)))))))
   rintro _ _ ⟨_, ⟨p63, _, c65, C66, p67, _, c69, C70, p71, _, c73, C74, p75, _, c77, C78, rfl, rfl, rfl, o66, rfl, o70, rfl, o74, rfl, o78⟩, rfl⟩
   obtain ⟨x79, e79, H1⟩ := bS H1
   exact oC9 14 ts34 rfl rfl (ow_nil (kw_bl_normal (kw_nx (cw_region (oM rfl (oD (stp_sub rfl rfl e79) rfl (oS rfl (ow_nil (kw_lqS (js := [0, 1, 21, 22, 23, 24, 14]) (fuel, x62.2, x62.1.t.b, x62.1.t.f, x62.1.c.l, x62.1.c.h, x62.1.g.c, x62.1.g.n, x62.1.g.r, x62.1.g.o, x62.1.s, x79, p63, ((x62.1.t.b).length), c65, C66, p67, ((x62.1.t.f).length), c69, C70, p71, ((x62.1.c.l).length), c73, C74, p75, ((x62.1.g.o).length), c77, C78) ⟨H1, rfl, o66, rfl, o70, rfl, o74, rfl, o78⟩ (Nat.lt_succ_self _) ⟨rfl, rfl, rfl, rfl, trivial⟩ ⟨0, [1, 21, 22, 23, 24, 14], rfl, rfl, 1, [21, 22, 23, 24, 14], rfl, rfl, 21, [22, 23, 24, 14], rfl, rfl, 22, [23, 24, 14], rfl, rfl, 23, [24, 14], rfl, rfl, 24, [14], rfl, rfl, 14, [], rfl, rfl, trivial⟩ (by decide))))))))))
  have H1 := cond_f H1 h61
  refine cw_exit (kw_nx_exit (kw_lq_exit (kw_bl ?_)))
  obtain rfl := sI H1
  exact kw_joinS (js := [0, 1, 10, 11, 12, 13, 14]) (v34, v35, v40, v45, v50, v51, v52, v53, v54, v59, v60, p36, ((v35).length), c38, C39, p41, ((v40).length), c43, C44, p46, ((v45).length), c48, C49, p55, ((v54).length), c57, C58) ⟨rfl, rfl, o39, rfl, o44, rfl, o49, rfl, o58⟩ ⟨rfl, rfl, rfl, rfl, trivial⟩ ⟨0, [1, 10, 11, 12, 13, 14], rfl, rfl, 1, [10, 11, 12, 13, 14], rfl, rfl, 10, [11, 12, 13, 14], rfl, rfl, 11, [12, 13, 14], rfl, rfl, 12, [13, 14], rfl, rfl, 13, [14], rfl, rfl, 14, [], rfl, rfl, trivial⟩ (by decide)
 rintro ⟨v34, v35, v40, v45, v50, v51, v52, v53, v54, v59, v60, p36, _, c38, C39, p41, _, c43, C44, p46, _, c48, C49, p55, _, c57, C58⟩ ⟨rfl, rfl, o39, rfl, o44, rfl, o49, rfl, o58⟩
 dsimp only
 refine kw_nx (sr (oB9 14 ts34 rfl (oC9 1 ts34 rfl rfl (nn (cw_ret ?_)))))
 obtain rfl := sI H0
 exact kr Tryz.results58 (rC9 1 ts34 rfl rfl) [0, 10, 11, 12, 13] ⟨_, _, _, _, _, _, _, _, _, _, _, _, _, _, _, _, rfl, rfl, rfl, o39, rfl, o44, rfl, o49, rfl, o58⟩

theorem c_s_NewMemory (fl : Nat) (w : World) (a0 : Mc) (hn0_0 : n0_0 = (a0.t.b).length) (hr0_0 : RO w (hkeys []) (RdL p0_0 c0_0 a0.t.b)) (hn0_1 : n0_1 = (a0.t.f).length) (hr0_1 : RO w (hkeys []) (RdL p0_1 c0_1 a0.t.f)) (hn0_2 : n0_2 = (a0.c.l).length) (hr0_2 : RO w (hkeys []) (RdL p0_2 c0_2 a0.c.l)) (hn0_3 : n0_3 = (a0.g.o).length) (hr0_3 : RO w (hkeys []) (RdL p0_3 c0_3 a0.g.o)) (r : Mm × Bool) (H0 : s_NewMemory fl a0 = some r) :
  Ct Tryz.prog 57 [.agg #[.slice p0_0 n0_0 c0_0, .slice p0_1 n0_1 c0_1, .slice p0_2 n0_2 c0_2, .int .i64 a0.c.h, .int .i64 a0.g.c, .int .i64 a0.g.n, .int .i64 a0.g.r, .slice p0_3 n0_3 c0_3, .int .i64 a0.s]] w [] (fun rv h' => ∃ (x0 : Option Addr) (y0 z0 : Nat) (C0 : Res) (x1 : Option Addr) (y1 z1 : Nat) (C1 : Res) (x2 : Option Addr) (y2 z2 : Nat) (C2 : Res) (x3 : Option Addr) (y3 z3 : Nat) (C3 : Res) (x4 : Option Addr) (y4 z4 : Nat) (C4 : Res), rv = .tuple #[.agg #[.slice x0 y0 z0, .slice x1 y1 z1, .slice x2 y2 z2, .int .i64 r.1.m.c.h, .int .i64 r.1.m.g.c, .int .i64 r.1.m.g.n, .int .i64 r.1.m.g.r, .slice x3 y3 z3, .int .i64 r.1.m.s, .slice x4 y4 z4, .int .i64 r.1.h], .bool r.2] ∧ h' = [(0, C0), (1, C1), (2, C2), (3, C3), (4, C4)] ∧ y0 = (r.1.m.t.b).length ∧ OwnC 3 x0 z0 r.1.m.t.b C0 ∧ y1 = (r.1.m.t.f).length ∧ OwnC 51 x1 z1 r.1.m.t.f C1 ∧ y2 = (r.1.m.c.l).length ∧ OwnC 47 x2 z2 r.1.m.c.l C2 ∧ y3 = (r.1.m.g.o).length ∧ OwnC 89 x3 z3 r.1.m.g.o C3 ∧ y4 = (r.1.k).length ∧ OwnC 4 x4 z4 r.1.k C4) := by
 subst hn0_0 hn0_1 hn0_2 hn0_3
 unfold s_NewMemory at H0
 refine ct_of_cw Tryz.func57 rfl Tryz.ntmps57 rfl (Sat.refl _ _) ?_
 refine sr (oE (stpU_box 0 rfl rfl) rfl ?_)
 rintro _ _ ⟨b1, rfl, rfl⟩
 refine oE (stpU_alloc 1 tz37 rfl) rfl ?_
 rintro _ _ ⟨b2, rfl, rfl⟩
 obtain ⟨x3, e3, H0⟩ := bS H0
 refine oS rfl (nn (cw_seq (sr (oB9 0 ts34 rfl (oE (stpU_call (fun i => 2 + i) cf22 (fun w hw => c_s_MachineValid fl w a0 rfl (RO.pass hr0_0 hw) rfl (RO.pass hr0_1 hw) rfl (RO.pass hr0_2 hw) rfl (RO.pass hr0_3 hw) x3 e3) (yA rfl)) rfl ?_)))))
 rintro _ _ ⟨_, ⟨rfl, rfl⟩, rfl⟩
 refine oK rfl (nn (cw_cond rfl (fun h4 => ?_) (fun h4 => ?_)))
 ·have H0 := cond_t H0 h4
  refine sr (oD (stp_build (cs := #[.slice none 0 0, .slice none 0 0, .slice none 0 0, .int .i64 0, .int .i64 0, .int .i64 0, .int .i64 0, .slice none 0 0, .int .i64 0, .slice none 0 0, .int .i64 0]) sevp_nil bt37_19) rfl (oC11 1 ts37 rfl rfl (oS rfl (nn (cw_ret (kw_nx_ret (kw_addNil 2 (kw_addNil 3 (kw_addNil 4 (kw_addNil 5 (kw_addNil 6 ?_)))))))))))
  obtain rfl := sI H0
  exact kr Tryz.results57 (.cons (.cellN (us := [_, _, _, _, _, _, _, _, _, _, _]) ts37 rfl (Cells.box (id := 1) rfl 11 rfl)) (rT rfl)) [2, 3, 4, 5, 6] ⟨_, _, _, _, _, _, _, _, _, _, _, _, _, _, _, _, _, _, _, _, rfl, rfl, rfl, (OwnC.nil _ _), rfl, (OwnC.nil _ _), rfl, (OwnC.nil _ _), rfl, (OwnC.nil _ _), rfl, (OwnC.nil _ _)⟩
 have H0 := cond_f H0 h4
 obtain ⟨x5, e5, H0⟩ := bS H0
 obtain ⟨x22, e22, H0⟩ := bS H0
 refine cw_skip (kw_nx (cw_seq (rdt g_mixed [.n 0, .n 2, .n 3, .n 4, .n 5, .d 1, .n 6, .o 1, .n 7, .n 8, .n 9] ⟨[[0],[],[],[],[0],[],[],[],[1]], [[],[7,8,9,10],[],[],[],[],[11],[],[1]], [1,6]⟩ (dB9 0 ts34 rfl (dA 0 rfl Tryz.underlying34 rfl ts26 rfl (dA 1 rfl Tryz.underlying26 rfl ts24 rfl (dL 0 ts24 rfl (dD rfl (stp_len Tryz.underlying24 rfl) (dq rfl (fun hh => stpU_call (fun i => 7 + i) cf35 (fun w hw => c_s_l6Copy fl w a0 rfl (RO.pass hr0_0 hw) rfl (RO.pass hr0_1 hw) rfl (RO.pass hr0_2 hw) rfl (RO.pass hr0_3 hw) x5 e5) (yA rfl)) (by rintro _ _ ⟨_, ⟨_, _, _, _, _, _, _, _, _, _, _, _, _, _, _, _, rfl, rfl, _, _, _, _, _, _, _, _⟩, rfl⟩; rfl) (dE rfl (fun hh => stpU_make sl35 rfl 11 rfl rfl e22) ?_))))))))))
 rintro _ _ ⟨p23, C24, rfl, rfl, o24⟩
 refine dk rfl (dp rfl ?_)
 rintro _ _ ⟨_, ⟨p6, _, c8, C9, p10, _, c12, C13, p14, _, c16, C17, p18, _, c20, C21, rfl, rfl, rfl, o9, rfl, o13, rfl, o17, rfl, o21⟩, rfl⟩
 refine dD rfl (stp_build (cs := #[.slice p6 ((x5.t.b).length) c8, .slice p10 ((x5.t.f).length) c12, .slice p14 ((x5.c.l).length) c16, .int .i64 x5.c.h, .int .i64 x5.g.c, .int .i64 x5.g.n, .int .i64 x5.g.r, .slice p18 ((x5.g.o).length) c20, .int .i64 x5.s, .slice p23 x22 x22, .int .i64 0]) (sevp_cons rfl (sevp_cons rfl sevp_nil)) bt37_20) (dC11 1 ts37 rfl rfl rfl (dS rfl (dn (kw_nx (cw_ret ?_)))))
 obtain rfl := sI H0
 exact kr Tryz.results57 (.cons (.cellN (us := [_, _, _, _, _, _, _, _, _, _, _]) ts37 rfl (Cells.box (id := 1) rfl 11 rfl)) (rT rfl)) [7, 8, 9, 10, 11] ⟨_, _, _, _, _, _, _, _, _, _, _, _, _, _, _, _, _, _, _, _, rfl, rfl, rfl, o9, rfl, o13, rfl, o17, rfl, o21, (by simp), o24⟩

theorem c_s_l7Pages (fl : Nat) (w : World) (m0 : Nat) (a0_0 : (List UInt8)) (a0_1 : Int) (hn0_0_0 : n0_0_0 = (a0_0).length) (hr0_0_0 : RO w (hkeys [(0, [(m0, .cells #[.slice p0_0_0 n0_0_0 c0_0_0, .int .i64 a0_1] 91 (0, 0))])]) (RdL p0_0_0 c0_0_0 a0_0)) (hM : Sat w (hkeys [(0, [(m0, .cells #[.slice p0_0_0 n0_0_0 c0_0_0, .int .i64 a0_1] 91 (0, 0))])]) w [(0, [(m0, .cells #[.slice p0_0_0 n0_0_0 c0_0_0, .int .i64 a0_1] 91 (0, 0))])]) (r : (List Int) × Int) (H0 : s_l7Pages fl a0_0 a0_1 = some r) :
  Ct Tryz.prog 60 [.pointer (some ⟨m0, 0, none⟩)] w [(0, [(m0, .cells #[.slice p0_0_0 n0_0_0 c0_0_0, .int .i64 a0_1] 91 (0, 0))])] (fun rv h' => ∃ (x1 : Option Addr) (y1 z1 : Nat) (C1 : Res), rv = .slice x1 y1 z1 ∧ h' = [(0, [(m0, .cells #[.slice p0_0_0 n0_0_0 c0_0_0, .int .i64 r.2] 91 (0, 0))]), (1, C1)] ∧ y1 = (r.1).length ∧ OwnC 3 x1 z1 r.1 C1) := by
 subst hn0_0_0
 unfold s_l7Pages at H0
 refine ct_of_cw Tryz.func60 rfl Tryz.ntmps60 rfl hM ?_
 refine sr (oS rfl (nn (sr (oE (stpU_lit0 sl23 1) rfl ?_))))
 rintro _ _ ⟨p1, C2, rfl, rfl, o2⟩
 refine oS rfl (nn (cw_seq (sr (oM rfl (oE (stpU_lit (sz := 1) (l := [5, 3, 8, 2, 12, 0]) [.int .i64 5, .int .i64 3, .int .i64 8, .int .i64 2, .int .i64 12, .int .i64 0] sl23 2 (sevp_cons rfl (sevp_cons rfl (sevp_cons rfl (sevp_cons rfl (sevp_cons rfl (sevp_cons rfl sevp_nil)))))) rfl rfl rfl rfl rfl rfl rfl rfl rfl) rfl ?_)))))
 rintro _ _ ⟨p3, C4, rfl, rfl, o4⟩
 obtain ⟨x5, e5, H0⟩ := bS H0
 refine oE (stpU_callM (fun i => bif Nat.beq i 0 then 0 else 3 + i) cf55 (fun w hw hb => c_s_l12Rd_num fl w m0 a0_0 a0_1 ([5, 3, 8, 2, 12, 0]) rfl (RO.passM hr0_0_0 hw hb) (by simp) (OwnC.passM (id := 2) rfl o4 hw hb ⟨rfl, trivial⟩) (hw.pass (js := [0]) ⟨0, [], rfl, rfl, trivial⟩ (by decide)) x5 e5) (yB rfl rfl) ⟨rfl, (fun _ _ hp => by obtain ⟨_, rfl⟩ := hp; exact ⟨_, rfl⟩), trivial⟩) rfl ?_
 rintro _ _ ⟨_, ⟨rfl, rfl⟩, rfl⟩
 obtain ⟨o0_0, eo0_0, H0⟩ := bS H0
 refine oS rfl (nn (cw_join (ι := Int × (List Int) × Int × Option Addr × Nat × Nat × Res) (fun | (v6, v7, v12, p8, n9, c10, C11) => o0_0 = .out (v6, v7, v12) ∧ n9 = (v7).length ∧ OwnC 3 p8 c10 v7 C11) (fun | (v6, v7, v12, p8, n9, c10, C11) => [(0, .pointer (some ⟨m0, 0, none⟩)), (3, .slice p8 n9 c10), (4, .int .i64 v12)]) (fun | (v6, v7, v12, p8, n9, c10, C11) => [(0, [(m0, .cells #[.slice p0_0_0 ((a0_0).length) c0_0_0, .int .i64 v6] 91 (0, 0))]), (1, C11)]) ?_ ?_))
 ·refine cw_block (cw_loopS (ι := Nat × Int × (List Int) × Int × Option Addr × Nat × Nat × Res) (js := [0, 1]) (fun x => x.1) (fun | (fuel, v6, v7, v12, p8, n9, c10, C11) => s_l7Pages_L0 fl a0_0 fuel v6 v7 v12 = some o0_0 ∧ n9 = (v7).length ∧ OwnC 3 p8 c10 v7 C11) (fun | (_, v6, v7, v12, p8, n9, c10, C11) => [(0, .pointer (some ⟨m0, 0, none⟩)), (3, .slice p8 n9 c10), (4, .int .i64 v12)]) (fun | (_, v6, v7, v12, p8, n9, c10, C11) => [(0, [(m0, .cells #[.slice p0_0_0 ((a0_0).length) c0_0_0, .int .i64 v6] 91 (0, 0))]), (1, C11)]) (fl, x5.2, ([] : List Int), x5.1, p1, 0, 0, C2) ⟨eo0_0, (by simp), o2⟩ ⟨rfl, rfl, rfl, trivial⟩ ⟨0, [1], rfl, rfl, 1, [], rfl, rfl, trivial⟩ (by decide) ?_)
  rintro ⟨fuel, v6, v7, v12, p8, _, c10, C11⟩ ⟨H1, rfl, o11⟩
  have H1 : s_l7Pages_L0 fl a0_0 fuel v6 v7 v12 = some o0_0 := H1
  rcases fuel with _ | fuel
  ·rw [s_l7Pages_L0.eq_1] at H1; cases H1
  rw [s_l7Pages_L0.eq_2] at H1
  dsimp only
  refine cw_seq (sr (oM rfl (oJ rfl (nn (cw_cond rfl (fun h13 => ?_) (fun h13 => ?_))))))
  ·have H1 := cond_t H1 h13
   refine cw_skip (kw_nx (cw_seq (cw_block (cw_region (oM rfl (oM rfl (oE (stpU_lit (sz := 1) (l := [1, 2, 3, 4, 5, 6, 7, 200, 201]) [.int .i64 1, .int .i64 2, .int .i64 3, .int .i64 4, .int .i64 5, .int .i64 6, .int .i64 7, .int .i64 200, .int .i64 201] sl23 4 (sevp_cons rfl (sevp_cons rfl (sevp_cons rfl (sevp_cons rfl (sevp_cons rfl (sevp_cons rfl (sevp_cons rfl (sevp_cons rfl (sevp_cons rfl sevp_nil))))))))) rfl rfl rfl rfl rfl rfl rfl rfl rfl) rfl ?_)))))))
   rintro _ _ ⟨p14, C15, rfl, rfl, o15⟩
   obtain ⟨x16, e16, H1⟩ := bS H1
   refine oE (stpU_callM (fun i => bif Nat.beq i 0 then 0 else 5 + i) cf55 (fun w hw hb => c_s_l12Rd_num fl w m0 a0_0 v6 ([1, 2, 3, 4, 5, 6, 7, 200, 201]) rfl (RO.passM hr0_0_0 hw hb) (by simp) (OwnC.passM (id := 4) rfl o15 hw hb ⟨rfl, trivial⟩) (hw.pass (js := [0]) ⟨0, [], rfl, rfl, trivial⟩ (by decide)) x16 e16) (yB rfl rfl) ⟨rfl, (fun _ _ hp => by obtain ⟨_, rfl⟩ := hp; exact ⟨_, rfl⟩), trivial⟩) rfl ?_
   rintro _ _ ⟨_, ⟨rfl, rfl⟩, rfl⟩
   refine oE (stpU_lit (sz := 1) (l := [x16.1]) [.int .i64 x16.1] sl23 6 (sevp_cons rfl sevp_nil) rfl rfl rfl rfl rfl rfl rfl rfl rfl) rfl ?_
   rintro _ _ ⟨p17, C18, rfl, rfl, o18⟩
   obtain ⟨x19, e19, H1⟩ := bS H1
   refine oE (stpU_append sl23 rfl (id := 1) rfl rfl rfl (by simp) rfl o11 (Rdb.own (id := 6) rfl o18) e19) rfl ?_
   rintro _ _ ⟨p20, c21, C22, rfl, rfl, o22⟩
   obtain ⟨x23, e23, H1⟩ := bS H1
   exact oS rfl (ow_nil (kw_bl_normal (kw_nx (cw_region (oM rfl (oD (stp_sub rfl rfl e23) rfl (oS rfl (ow_nil (kw_lqS (js := [0, 1]) (fuel, x16.2, x19, x23, p20, ((x19).length), c21, C22) ⟨H1, rfl, o22⟩ (Nat.lt_succ_self _) ⟨rfl, rfl, rfl, trivial⟩ ⟨0, [1], rfl, rfl, 1, [], rfl, rfl, trivial⟩ (by decide))))))))))
  have H1 := cond_f H1 h13
  refine cw_exit (kw_nx_exit (kw_lq_exit (kw_bl ?_)))
  obtain rfl := sI H1
  exact kw_joinS (js := [0, 1]) (v6, v7, v12, p8, ((v7).length), c10, C11) ⟨rfl, rfl, o11⟩ ⟨rfl, rfl, rfl, trivial⟩ ⟨0, [1], rfl, rfl, 1, [], rfl, rfl, trivial⟩ (by decide)
 rintro ⟨v6, v7, v12, p8, _, c10, C11⟩ ⟨rfl, rfl, o11⟩
 dsimp only
 refine kw_nx (sr (oM rfl (oS rfl (nn (cw_ret ?_)))))
 obtain rfl := sI H0
 exact kr Tryz.results60 (rT rfl) [0, 1] ⟨_, _, _, _, rfl, rfl, rfl, o11⟩

theorem c_s_MemoryValid (fl : Nat) (w : World) (a0 : Mm) (hn0_0 : n0_0 = (a0.m.t.b).length) (hr0_0 : RO w (hkeys []) (RdL p0_0 c0_0 a0.m.t.b)) (hn0_1 : n0_1 = (a0.m.t.f).length) (hr0_1 : RO w (hkeys []) (RdL p0_1 c0_1 a0.m.t.f)) (hn0_2 : n0_2 = (a0.m.c.l).length) (hr0_2 : RO w (hkeys []) (RdL p0_2 c0_2 a0.m.c.l)) (hn0_3 : n0_3 = (a0.m.g.o).length) (hr0_3 : RO w (hkeys []) (RdL p0_3 c0_3 a0.m.g.o)) (hn0_4 : n0_4 = (a0.k).length) (hr0_4 : RO w (hkeys []) (RdL p0_4 c0_4 a0.k)) (r : Bool) (H0 : s_MemoryValid fl a0 = some r) :
  Ct Tryz.prog 11 [.agg #[.slice p0_0 n0_0 c0_0, .slice p0_1 n0_1 c0_1, .slice p0_2 n0_2 c0_2, .int .i64 a0.m.c.h, .int .i64 a0.m.g.c, .int .i64 a0.m.g.n, .int .i64 a0.m.g.r, .slice p0_3 n0_3 c0_3, .int .i64 a0.m.s, .slice p0_4 n0_4 c0_4, .int .i64 a0.h]] w [] (fun rv h' => rv = .bool r ∧ h' = []) := by
 subst hn0_0 hn0_1 hn0_2 hn0_3 hn0_4
 unfold s_MemoryValid at H0
 refine ct_of_cw Tryz.func11 rfl Tryz.ntmps11 rfl (Sat.refl _ _) ?_
 refine sr (oE (stpU_box 0 rfl rfl) rfl ?_)
 rintro _ _ ⟨b1, rfl, rfl⟩
 obtain ⟨x2, e2, H0⟩ := bS H0
 refine oS rfl (nn (cw_seq (sr (oA 0 Tryz.underlying37 rfl ts34 rfl (oB9 0 ts34 rfl (oE (stpU_call (fun i => 1 + i) cf22 (fun w hw => c_s_MachineValid fl w a0.m rfl (RO.pass hr0_0 hw) rfl (RO.pass hr0_1 hw) rfl (RO.pass hr0_2 hw) rfl (RO.pass hr0_3 hw) x2 e2) (yA rfl)) rfl ?_))))))
 rintro _ _ ⟨_, ⟨rfl, rfl⟩, rfl⟩
 obtain ⟨y3, ey3, H0⟩ := bS H0
 refine oK rfl (oM rfl (ow_cutY 10 18 y3 ?_ ?_))
 ·rcases Bool.eq_false_or_eq_true (!x2) with hy3 | hy3
  ·have ey3 := cond_t ey3 hy3
   refine oO rfl hy3 rfl (oO rfl hy3 rfl (oO rfl hy3 rfl (oO rfl hy3 rfl (oO rfl hy3 rfl (oO rfl hy3 rfl (oO rfl hy3 rfl (oO rfl hy3 rfl (oO rfl hy3 rfl (oD (stp_pick_t rfl hy3 rfl) rfl ?_)))))))))
   obtain rfl := sI ey3
   exact ow_nil (jy 10 0)
  have ey3 := cond_f ey3 hy3
  refine oG rfl hy3 (fA 9 Tryz.underlying37 rfl ts35 rfl rfl rfl) rfl (oG rfl hy3 (lB 0 ts35 rfl rfl rfl) rfl (oG rfl hy3 (stp_len Tryz.underlying35 rfl) rfl (oG rfl hy3 (fA 0 Tryz.underlying37 rfl ts34 rfl rfl rfl) rfl (oG rfl hy3 (fA 0 Tryz.underlying34 rfl ts26 rfl rfl rfl) rfl (oG rfl hy3 (fA 1 Tryz.underlying26 rfl ts24 rfl rfl rfl) rfl (oG rfl hy3 (lB 0 ts24 rfl rfl rfl) rfl (oG rfl hy3 (stp_len Tryz.underlying24 rfl) rfl (oG rfl hy3 (stp_neq rfl rfl) rfl (oD (stp_pick_f rfl hy3 rfl) rfl ?_)))))))))
  obtain rfl := sI ey3
  exact ow_nil (jy 10 0)
 obtain ⟨y4, ey4, H0⟩ := bS H0
 refine oM rfl (ow_cutY 4 23 y4 ?_ ?_)
 ·rcases Bool.eq_false_or_eq_true y3 with hy4 | hy4
  ·have ey4 := cond_t ey4 hy4
   refine oO rfl hy4 rfl (oO rfl hy4 rfl (oO rfl hy4 rfl (oD (stp_pick_t rfl hy4 rfl) rfl ?_)))
   obtain rfl := sI ey4
   exact ow_nil (jy 4 0)
  have ey4 := cond_f ey4 hy4
  refine oG rfl hy4 (fA 10 Tryz.underlying37 rfl ts3 rfl rfl rfl) rfl (oG rfl hy4 (lB 0 ts3 rfl rfl rfl) rfl (oG rfl hy4 (stp_lss rfl rfl) rfl (oD (stp_pick_f rfl hy4 rfl) rfl ?_)))
  obtain rfl := sI ey4
  exact ow_nil (jy 4 0)
 obtain ⟨y5, ey5, H0⟩ := bS H0
 refine oM rfl (ow_cutY 7 31 y5 ?_ ?_)
 ·rcases Bool.eq_false_or_eq_true y4 with hy5 | hy5
  ·have ey5 := cond_t ey5 hy5
   refine oO rfl hy5 rfl (oO rfl hy5 rfl (oO rfl hy5 rfl (oO rfl hy5 rfl (oO rfl hy5 rfl (oO rfl hy5 rfl (oD (stp_pick_t rfl hy5 rfl) rfl ?_))))))
   obtain rfl := sI ey5
   exact ow_nil (jy 7 0)
  have ey5 := cond_f ey5 hy5
  refine oG rfl hy5 (fA 10 Tryz.underlying37 rfl ts3 rfl rfl rfl) rfl (oG rfl hy5 (lB 0 ts3 rfl rfl rfl) rfl (oG rfl hy5 (fA 9 Tryz.underlying37 rfl ts35 rfl rfl rfl) rfl (oG rfl hy5 (lB 0 ts35 rfl rfl rfl) rfl (oG rfl hy5 (stp_len Tryz.underlying35 rfl) rfl (oG rfl hy5 (stp_geq rfl rfl) rfl (oD (stp_pick_f rfl hy5 rfl) rfl ?_))))))
  obtain rfl := sI ey5
  exact ow_nil (jy 7 0)
 refine ow_nil (kw_nx (cw_cond rfl (fun h6 => ?_) (fun h6 => ?_)))
 ·have H0 := cond_t H0 h6
  refine sr (oS rfl (nn (cw_ret (kw_nx_ret ?_))))
  obtain rfl := sI H0
  exact kr Tryz.results11 (rT rfl) [] ⟨rfl, rfl⟩
 have H0 := cond_f H0 h6
 obtain ⟨o0_0, eo0_0, H0⟩ := bS H0
 refine cw_skip (kw_nx (cw_seq (sr (oS rfl (nn (cw_join (ι := Int) (fun | v7 => o0_0 = .out v7) (fun | v7 => [(1, .pointer (some ⟨b1, 0, none⟩)), (3, .int .i64 v7)]) (fun | v7 => [(0, [(b1, .cells #[.slice p0_0 ((a0.m.t.b).length) c0_0, .slice p0_1 ((a0.m.t.f).length) c0_1, .slice p0_2 ((a0.m.c.l).length) c0_2, .int .i64 a0.m.c.h, .int .i64 a0.m.g.c, .int .i64 a0.m.g.n, .int .i64 a0.m.g.r, .slice p0_3 ((a0.m.g.o).length) c0_3, .int .i64 a0.m.s, .slice p0_4 ((a0.k).length) c0_4, .int .i64 a0.h] 37 (0, 0))])]) ?_ ?_))))))
 ·refine cw_block (cw_loopS (ι := Nat × Int) (js := [0]) (fun x => x.1) (fun | (fuel, v7) => s_MemoryValid_L0 fl a0 fuel v7 = some o0_0) (fun | (_, v7) => [(1, .pointer (some ⟨b1, 0, none⟩)), (3, .int .i64 v7)]) (fun | (_, v7) => [(0, [(b1, .cells #[.slice p0_0 ((a0.m.t.b).length) c0_0, .slice p0_1 ((a0.m.t.f).length) c0_1, .slice p0_2 ((a0.m.c.l).length) c0_2, .int .i64 a0.m.c.h, .int .i64 a0.m.g.c, .int .i64 a0.m.g.n, .int .i64 a0.m.g.r, .slice p0_3 ((a0.m.g.o).length) c0_3, .int .i64 a0.m.s, .slice p0_4 ((a0.k).length) c0_4, .int .i64 a0.h] 37 (0, 0))])]) (fl, 0) eo0_0 ⟨rfl, rfl, trivial⟩ ⟨0, [], rfl, rfl, trivial⟩ (by decide) ?_)
  rintro ⟨fuel, v7⟩ H1
  have H1 : s_MemoryValid_L0 fl a0 fuel v7 = some o0_0 := H1
  rcases fuel with _ | fuel
  ·rw [s_MemoryValid_L0.eq_1] at H1; cases H1
  rw [s_MemoryValid_L0.eq_2] at H1
  dsimp only
  refine cw_seq (sr (oM rfl (oA 9 Tryz.underlying37 rfl ts35 rfl (oL 0 ts35 rfl (oD (stp_len Tryz.underlying35 rfl) rfl (oW rfl (nn (cw_cond rfl (fun h8 => ?_) (fun h8 => ?_)))))))))
  ·have H1 := cond_t H1 h8
   obtain ⟨x9, e9, H1⟩ := bS H1
   obtain ⟨y10, ey10, H1⟩ := bS H1
   refine cw_skip (kw_nx (cw_seq (cw_block (sr (oA 9 Tryz.underlying37 rfl ts35 rfl (oL 0 ts35 rfl (oM rfl (oD (stp_indexAddr Tryz.underlying35 ts4 (by decide) rfl rfl rfl (Rdb.ro hr0_4) e9) rfl (oD (stp_load1 ts4 rfl (Cells.el (Rdb.ro hr0_4) (by decide) e9 0 1 rfl)) rfl (oM rfl (ow_cutY 10 54 y10 ?_ ?_)))))))))))
   ·rcases Bool.eq_false_or_eq_true x9 with hy10 | hy10
    ·have ey10 := cond_t ey10 hy10
     obtain ⟨x11, e11, ey10⟩ := bS ey10
     refine oG rfl hy10 (fA 0 Tryz.underlying37 rfl ts34 rfl rfl rfl) rfl (oG rfl hy10 (fA 0 Tryz.underlying34 rfl ts26 rfl rfl rfl) rfl (oG rfl hy10 (fA 1 Tryz.underlying26 rfl ts24 rfl rfl rfl) rfl (oG rfl hy10 (lB 0 ts24 rfl rfl rfl) rfl (oG rfl hy10 (mv rfl) rfl (oG rfl hy10 (stp_indexAddr Tryz.underlying24 ts51 (by decide) rfl rfl rfl (Rdb.ro hr0_1) e11) rfl (oG rfl hy10 (fA 0 Tryz.underlying51 rfl ts4 rfl rfl rfl) rfl (oG rfl hy10 (stp_load1 ts4 rfl (Cells.el (Rdb.ro hr0_1) (by decide) e11 0 1 rfl)) rfl (oG rfl hy10 (stp_not rfl) rfl (oD (stp_pick_t rfl hy10 rfl) rfl ?_)))))))))
     obtain rfl := sI ey10
     exact ow_nil (jy 10 0)
    have ey10 := cond_f ey10 hy10
    refine oO rfl hy10 rfl (oO rfl hy10 rfl (oO rfl hy10 rfl (oO rfl hy10 rfl (oO rfl hy10 rfl (oO rfl hy10 rfl (oO rfl hy10 rfl (oO rfl hy10 rfl (oO rfl hy10 rfl (oD (stp_pick_f rfl hy10 rfl) rfl ?_)))))))))
    obtain rfl := sI ey10
    exact ow_nil (jy 10 0)
   refine ow_nil (kw_nx (cw_cond rfl (fun h12 => ?_) (fun h12 => ?_)))
   ·have H1 := cond_t H1 h12
    refine sr (oS rfl (nn (cw_ret (kw_bl_ret (kw_nx_ret (kw_lq_ret (kw_bl_ret (kw_join_ret (kw_nx_ret ?_)))))))))
    obtain rfl := sI H1
    obtain rfl := sI H0
    exact kr Tryz.results11 (rT rfl) [] ⟨rfl, rfl⟩
   have H1 := cond_f H1 h12
   obtain ⟨x13, e13, H1⟩ := bS H1
   exact cw_skip (kw_bl_normal (kw_nx (cw_region (oM rfl (oP e13 rfl (oS rfl (ow_nil (kw_lqS (js := [0]) (fuel, x13) H1 (Nat.lt_succ_self _) ⟨rfl, rfl, trivial⟩ ⟨0, [], rfl, rfl, trivial⟩ (by decide)))))))))
  have H1 := cond_f H1 h8
  refine cw_exit (kw_nx_exit (kw_lq_exit (kw_bl ?_)))
  obtain rfl := sI H1
  exact kw_joinS (js := [0]) v7 rfl ⟨rfl, rfl, trivial⟩ ⟨0, [], rfl, rfl, trivial⟩ (by decide)
 rintro v7 rfl
 dsimp only
 refine kw_nx (sr (oS rfl (nn (cw_ret ?_))))
 obtain rfl := sI H0
 exact kr Tryz.results11 (rT rfl) [] ⟨rfl, rfl⟩

theorem c_s_l7Copy (fl : Nat) (w : World) (a0 : Mm) (hn0_0 : n0_0 = (a0.m.t.b).length) (hr0_0 : RO w (hkeys []) (RdL p0_0 c0_0 a0.m.t.b)) (hn0_1 : n0_1 = (a0.m.t.f).length) (hr0_1 : RO w (hkeys []) (RdL p0_1 c0_1 a0.m.t.f)) (hn0_2 : n0_2 = (a0.m.c.l).length) (hr0_2 : RO w (hkeys []) (RdL p0_2 c0_2 a0.m.c.l)) (hn0_3 : n0_3 = (a0.m.g.o).length) (hr0_3 : RO w (hkeys []) (RdL p0_3 c0_3 a0.m.g.o)) (hn0_4 : n0_4 = (a0.k).length) (hr0_4 : RO w (hkeys []) (RdL p0_4 c0_4 a0.k)) (r : Mm) (H0 : s_l7Copy fl a0 = some r) :
  Ct Tryz.prog 18 [.agg #[.slice p0_0 n0_0 c0_0, .slice p0_1 n0_1 c0_1, .slice p0_2 n0_2 c0_2, .int .i64 a0.m.c.h, .int .i64 a0.m.g.c, .int .i64 a0.m.g.n, .int .i64 a0.m.g.r, .slice p0_3 n0_3 c0_3, .int .i64 a0.m.s, .slice p0_4 n0_4 c0_4, .int .i64 a0.h]] w [] (fun rv h' => ∃ (x0 : Option Addr) (y0 z0 : Nat) (C0 : Res) (x1 : Option Addr) (y1 z1 : Nat) (C1 : Res) (x2 : Option Addr) (y2 z2 : Nat) (C2 : Res) (x3 : Option Addr) (y3 z3 : Nat) (C3 : Res) (x4 : Option Addr) (y4 z4 : Nat) (C4 : Res), rv = .agg #[.slice x0 y0 z0, .slice x1 y1 z1, .slice x2 y2 z2, .int .i64 r.m.c.h, .int .i64 r.m.g.c, .int .i64 r.m.g.n, .int .i64 r.m.g.r, .slice x3 y3 z3, .int .i64 r.m.s, .slice x4 y4 z4, .int .i64 r.h] ∧ h' = [(0, C0), (1, C1), (2, C2), (3, C3), (4, C4)] ∧ y0 = (r.m.t.b).length ∧ OwnC 3 x0 z0 r.m.t.b C0 ∧ y1 = (r.m.t.f).length ∧ OwnC 51 x1 z1 r.m.t.f C1 ∧ y2 = (r.m.c.l).length ∧ OwnC 47 x2 z2 r.m.c.l C2 ∧ y3 = (r.m.g.o).length ∧ OwnC 89 x3 z3 r.m.g.o C3 ∧ y4 = (r.k).length ∧ OwnC 4 x4 z4 r.k C4) := by
 subst hn0_0 hn0_1 hn0_2 hn0_3 hn0_4
 unfold s_l7Copy at H0
 refine ct_of_cw Tryz.func18 rfl Tryz.ntmps18 rfl (Sat.refl _ _) ?_
 refine sr (oE (stpU_box 0 rfl rfl) rfl ?_)
 rintro _ _ ⟨b1, rfl, rfl⟩
 refine oE (stpU_alloc 1 tz37 rfl) rfl ?_
 rintro _ _ ⟨b2, rfl, rfl⟩
 obtain ⟨x3, e3, H0⟩ := bS H0
 refine nn (cw_seq (rdt g_mixed [.n 0, .n 1, .n 4, .n 5, .n 7, .n 8, .d 2, .n 3, .o 2, .n 6, .n 9, .n 10] ⟨[[],[0],[],[],[],[0],[6],[],[0],[],[1]], [[],[],[2,3,4,5],[6],[],[],[6],[],[],[],[1]], [2,3,6]⟩ (dA 0 rfl Tryz.underlying37 rfl ts34 rfl (dB9 0 ts34 rfl (dA 9 rfl Tryz.underlying37 rfl ts35 rfl (dL 0 ts35 rfl (dA 10 rfl Tryz.underlying37 rfl ts3 rfl (dL 0 ts3 rfl (dq rfl (fun hh => stpU_call (fun i => 2 + i) cf35 (fun w hw => c_s_l6Copy fl w a0.m rfl (RO.pass hr0_0 hw) rfl (RO.pass hr0_1 hw) rfl (RO.pass hr0_2 hw) rfl (RO.pass hr0_3 hw) x3 e3) (yA rfl)) (by rintro _ _ ⟨_, ⟨_, _, _, _, _, _, _, _, _, _, _, _, _, _, _, _, rfl, rfl, _, _, _, _, _, _, _, _⟩, rfl⟩; rfl) (dE rfl (fun hh => stpU_lit0 sl35 6) ?_))))))))))
 rintro _ _ ⟨p20, C21, rfl, rfl, o21⟩
 refine dk rfl (dp rfl ?_)
 rintro _ _ ⟨_, ⟨p4, _, c6, C7, p8, _, c10, C11, p12, _, c14, C15, p16, _, c18, C19, rfl, rfl, rfl, o7, rfl, o11, rfl, o15, rfl, o19⟩, rfl⟩
 obtain ⟨x22, e22, H0⟩ := bS H0
 refine dE rfl (fun hh => stpU_append sl35 rfl (id := 6) rfl (by simp) rfl rfl (hh _ _ rfl) o21 (Rdb.ro hr0_4) e22) ?_
 rintro _ _ ⟨p23, c24, C25, rfl, rfl, o25⟩
 refine dk rfl (dD rfl (stp_build (cs := #[.slice p4 ((x3.t.b).length) c6, .slice p8 ((x3.t.f).length) c10, .slice p12 ((x3.c.l).length) c14, .int .i64 x3.c.h, .int .i64 x3.g.c, .int .i64 x3.g.n, .int .i64 x3.g.r, .slice p16 ((x3.g.o).length) c18, .int .i64 x3.s, .slice p23 ((x22).length) c24, .int .i64 a0.h]) (sevp_cons rfl (sevp_cons rfl (sevp_cons rfl sevp_nil))) bt37_21) (dC11 1 ts37 rfl rfl rfl (dn (kw_nx (cw_ret ?_)))))
 obtain rfl := sI H0
 exact kr Tryz.results18 (rC11 1 ts37 rfl rfl) [2, 3, 4, 5, 6] ⟨_, _, _, _, _, _, _, _, _, _, _, _, _, _, _, _, _, _, _, _, rfl, rfl, rfl, o7, rfl, o11, rfl, o15, rfl, o19, rfl, o25⟩

theorem c_s_l7Free (fl : Nat) (w : World) (a0 : T) (hn0_0 : n0_0 = (a0.b).length) (hr0_0 : RO w (hkeys []) (RdL p0_0 c0_0 a0.b)) (hn0_1 : n0_1 = (a0.f).length) (hr0_1 : RO w (hkeys []) (RdL p0_1 c0_1 a0.f)) (r : Int) (H0 : s_l7Free fl a0 = some r) :
  Ct Tryz.prog 124 [.agg #[.slice p0_0 n0_0 c0_0, .slice p0_1 n0_1 c0_1]] w [] (fun rv h' => rv = .int .i64 r ∧ h' = []) := by
 subst hn0_0 hn0_1
 unfold s_l7Free at H0
 refine ct_of_cw Tryz.func124 rfl Tryz.ntmps124 rfl (Sat.refl _ _) ?_
 refine sr (oE (stpU_box 0 rfl rfl) rfl ?_)
 rintro _ _ ⟨b1, rfl, rfl⟩
 obtain ⟨o0_0, eo0_0, H0⟩ := bS H0
 refine oS rfl (nn (cw_seq (sr (oS rfl (nn (cw_join (ι := Int) (fun | v2 => o0_0 = .out v2) (fun | v2 => [(1, .pointer (some ⟨b1, 0, none⟩)), (3, .int .i64 v2)]) (fun | v2 => [(0, [(b1, .cells #[.slice p0_0 ((a0.b).length) c0_0, .slice p0_1 ((a0.f).length) c0_1] 26 (0, 0))])]) ?_ ?_))))))
 ·refine cw_block (cw_loopS (ι := Nat × Int) (js := [0]) (fun x => x.1) (fun | (fuel, v2) => s_l7Free_L0 fl a0 fuel v2 = some o0_0) (fun | (_, v2) => [(1, .pointer (some ⟨b1, 0, none⟩)), (3, .int .i64 v2)]) (fun | (_, v2) => [(0, [(b1, .cells #[.slice p0_0 ((a0.b).length) c0_0, .slice p0_1 ((a0.f).length) c0_1] 26 (0, 0))])]) (fl, 0) eo0_0 ⟨rfl, rfl, trivial⟩ ⟨0, [], rfl, rfl, trivial⟩ (by decide) ?_)
  rintro ⟨fuel, v2⟩ H1
  have H1 : s_l7Free_L0 fl a0 fuel v2 = some o0_0 := H1
  rcases fuel with _ | fuel
  ·rw [s_l7Free_L0.eq_1] at H1; cases H1
  rw [s_l7Free_L0.eq_2] at H1
  dsimp only
  refine cw_seq (sr (oM rfl (oA 1 Tryz.underlying26 rfl ts24 rfl (oL 0 ts24 rfl (oD (stp_len Tryz.underlying24 rfl) rfl (oW rfl (nn (cw_cond rfl (fun h3 => ?_) (fun h3 => ?_)))))))))
  ·have H1 := cond_t H1 h3
   obtain ⟨x4, e4, H1⟩ := bS H1
   refine cw_skip (kw_nx (cw_seq (cw_block (sr (oA 1 Tryz.underlying26 rfl ts24 rfl (oL 0 ts24 rfl (oM rfl (oD (stp_indexAddr Tryz.underlying24 ts51 (by decide) rfl rfl rfl (Rdb.ro hr0_1) e4) rfl (oA 0 Tryz.underlying51 rfl ts4 rfl (oD (stp_load1 ts4 rfl (Cells.el (Rdb.ro hr0_1) (by decide) e4 0 1 rfl)) rfl (oK rfl (nn (cw_cond rfl (fun h5 => ?_) (fun h5 => ?_))))))))))))))
   ·have H1 := cond_t H1 h5
    refine sr (oM rfl (oS rfl (nn (cw_ret (kw_bl_ret (kw_nx_ret (kw_lq_ret (kw_bl_ret (kw_join_ret (kw_nx_ret ?_))))))))))
    obtain rfl := sI H1
    obtain rfl := sI H0
    exact kr Tryz.results124 (rT rfl) [] ⟨rfl, rfl⟩
   have H1 := cond_f H1 h5
   obtain ⟨x6, e6, H1⟩ := bS H1
   exact cw_skip (kw_bl_normal (kw_nx (cw_region (oM rfl (oP e6 rfl (oS rfl (ow_nil (kw_lqS (js := [0]) (fuel, x6) H1 (Nat.lt_succ_self _) ⟨rfl, rfl, trivial⟩ ⟨0, [], rfl, rfl, trivial⟩ (by decide)))))))))
  have H1 := cond_f H1 h3
  refine cw_exit (kw_nx_exit (kw_lq_exit (kw_bl ?_)))
  obtain rfl := sI H1
  exact kw_joinS (js := [0]) v2 rfl ⟨rfl, rfl, trivial⟩ ⟨0, [], rfl, rfl, trivial⟩ (by decide)
 rintro v2 rfl
 dsimp only
 refine kw_nx (sr (oS rfl (nn (cw_ret ?_))))
 obtain rfl := sI H0
 exact kr Tryz.results124 (rT rfl) [] ⟨rfl, rfl⟩

theorem c_s_l7Wired (fl : Nat) (w : World) (a0 : Mc) (a1 : Int) (hn0_0 : n0_0 = (a0.t.b).length) (hr0_0 : RO w (hkeys []) (RdL p0_0 c0_0 a0.t.b)) (hn0_1 : n0_1 = (a0.t.f).length) (hr0_1 : RO w (hkeys []) (RdL p0_1 c0_1 a0.t.f)) (hn0_2 : n0_2 = (a0.c.l).length) (hr0_2 : RO w (hkeys []) (RdL p0_2 c0_2 a0.c.l)) (hn0_3 : n0_3 = (a0.g.o).length) (hr0_3 : RO w (hkeys []) (RdL p0_3 c0_3 a0.g.o)) (r : Bool) (H0 : s_l7Wired fl a0 a1 = some r) :
  Ct Tryz.prog 49 [.agg #[.slice p0_0 n0_0 c0_0, .slice p0_1 n0_1 c0_1, .slice p0_2 n0_2 c0_2, .int .i64 a0.c.h, .int .i64 a0.g.c, .int .i64 a0.g.n, .int .i64 a0.g.r, .slice p0_3 n0_3 c0_3, .int .i64 a0.s], .int .i64 a1] w [] (fun rv h' => rv = .bool r ∧ h' = []) := by
 subst hn0_0 hn0_1 hn0_2 hn0_3
 unfold s_l7Wired at H0
 refine ct_of_cw Tryz.func49 rfl Tryz.ntmps49 rfl (Sat.refl _ _) ?_
 refine sr (oE (stpU_box 0 rfl rfl) rfl ?_)
 rintro _ _ ⟨b1, rfl, rfl⟩
 obtain ⟨o0_0, eo0_0, H0⟩ := bS H0
 refine oS rfl (nn (cw_seq (sr (oS rfl (nn (cw_join (ι := Int) (fun | v2 => o0_0 = .out v2) (fun | v2 => [(1, .int .i64 a1), (2, .pointer (some ⟨b1, 0, none⟩)), (5, .int .i64 v2)]) (fun | v2 => [(0, [(b1, .cells #[.slice p0_0 ((a0.t.b).length) c0_0, .slice p0_1 ((a0.t.f).length) c0_1, .slice p0_2 ((a0.c.l).length) c0_2, .int .i64 a0.c.h, .int .i64 a0.g.c, .int .i64 a0.g.n, .int .i64 a0.g.r, .slice p0_3 ((a0.g.o).length) c0_3, .int .i64 a0.s] 34 (0, 0))])]) ?_ ?_))))))
 ·refine cw_block (cw_loopS (ι := Nat × Int) (js := [0]) (fun x => x.1) (fun | (fuel, v2) => s_l7Wired_L0 fl a0 a1 fuel v2 = some o0_0) (fun | (_, v2) => [(1, .int .i64 a1), (2, .pointer (some ⟨b1, 0, none⟩)), (5, .int .i64 v2)]) (fun | (_, v2) => [(0, [(b1, .cells #[.slice p0_0 ((a0.t.b).length) c0_0, .slice p0_1 ((a0.t.f).length) c0_1, .slice p0_2 ((a0.c.l).length) c0_2, .int .i64 a0.c.h, .int .i64 a0.g.c, .int .i64 a0.g.n, .int .i64 a0.g.r, .slice p0_3 ((a0.g.o).length) c0_3, .int .i64 a0.s] 34 (0, 0))])]) (fl, 0) eo0_0 ⟨rfl, rfl, rfl, trivial⟩ ⟨0, [], rfl, rfl, trivial⟩ (by decide) ?_)
  rintro ⟨fuel, v2⟩ H1
  have H1 : s_l7Wired_L0 fl a0 a1 fuel v2 = some o0_0 := H1
  rcases fuel with _ | fuel
  ·rw [s_l7Wired_L0.eq_1] at H1; cases H1
  rw [s_l7Wired_L0.eq_2] at H1
  dsimp only
  refine cw_seq (sr (oM rfl (oA 2 Tryz.underlying34 rfl ts29 rfl (oA 0 Tryz.underlying29 rfl ts27 rfl (oL 0 ts27 rfl (oD (stp_len Tryz.underlying27 rfl) rfl (oW rfl (nn (cw_cond rfl (fun h3 => ?_) (fun h3 => ?_))))))))))
  ·have H1 := cond_t H1 h3
   obtain ⟨x4, e4, H1⟩ := bS H1
   refine cw_skip (kw_nx (cw_seq (cw_block (sr (oA 2 Tryz.underlying34 rfl ts29 rfl (oA 0 Tryz.underlying29 rfl ts27 rfl (oL 0 ts27 rfl (oM rfl (oD (stp_indexAddr Tryz.underlying27 ts47 (by decide) rfl rfl rfl (Rdb.ro hr0_2) e4) rfl (oD (stp_loadN (us := [_, _, _, _, _, _]) ts47 rfl (Cells.el (Rdb.ro hr0_2) (by decide) e4 0 6 rfl)) rfl (oE (stpU_alloc 1 tz47 rfl) rfl ?_)))))))))))
   rintro _ _ ⟨b5, rfl, rfl⟩
   obtain ⟨y6, ey6, H1⟩ := bS H1
   refine oC6 1 ts47 rfl rfl (nn (sr (oA 0 Tryz.underlying47 rfl ts4 rfl (oL 1 ts4 rfl (oM rfl (ow_cutY 3 26 y6 ?_ ?_))))))
   ·rcases Bool.eq_false_or_eq_true x4.va with hy6 | hy6
    ·have ey6 := cond_t ey6 hy6
     refine oG rfl hy6 (fA 5 Tryz.underlying47 rfl ts4 rfl rfl rfl) rfl (oG rfl hy6 (lB 1 ts4 rfl rfl rfl) rfl (oD (stp_pick_t rfl hy6 rfl) rfl ?_))
     obtain rfl := sI ey6
     exact ow_nil (jy 3 0)
    have ey6 := cond_f ey6 hy6
    refine oO rfl hy6 rfl (oO rfl hy6 rfl (oD (stp_pick_f rfl hy6 rfl) rfl ?_))
    obtain rfl := sI ey6
    exact ow_nil (jy 3 0)
   obtain ⟨y7, ey7, H1⟩ := bS H1
   refine oM rfl (ow_cutY 5 32 y7 ?_ ?_)
   ·rcases Bool.eq_false_or_eq_true y6 with hy7 | hy7
    ·have ey7 := cond_t ey7 hy7
     refine oG rfl hy7 (fA 3 Tryz.underlying47 rfl ts3 rfl rfl rfl) rfl (oG rfl hy7 (lB 1 ts3 rfl rfl rfl) rfl (oG rfl hy7 (mv rfl) rfl (oG rfl hy7 (stp_eql rfl rfl) rfl (oD (stp_pick_t rfl hy7 rfl) rfl ?_))))
     obtain rfl := sI ey7
     exact ow_nil (jy 5 0)
    have ey7 := cond_f ey7 hy7
    refine oO rfl hy7 rfl (oO rfl hy7 rfl (oO rfl hy7 rfl (oO rfl hy7 rfl (oD (stp_pick_f rfl hy7 rfl) rfl ?_))))
    obtain rfl := sI ey7
    exact ow_nil (jy 5 0)
   refine ow_nil (kw_nx (cw_cond rfl (fun h8 => ?_) (fun h8 => ?_)))
   ·have H1 := cond_t H1 h8
    refine sr (oS rfl (nn (cw_ret (kw_bl_ret (kw_nx_ret (kw_lq_ret (kw_bl_ret (kw_join_ret (kw_nx_ret ?_)))))))))
    obtain rfl := sI H1
    obtain rfl := sI H0
    exact kr Tryz.results49 (rT rfl) [] ⟨rfl, rfl⟩
   have H1 := cond_f H1 h8
   obtain ⟨x9, e9, H1⟩ := bS H1
   exact cw_skip (kw_bl_normal (kw_nx (cw_region (oM rfl (oP e9 rfl (oS rfl (ow_nil (kw_lqS (js := [0]) (fuel, x9) H1 (Nat.lt_succ_self _) ⟨rfl, rfl, rfl, trivial⟩ ⟨0, [], rfl, rfl, trivial⟩ (by decide)))))))))
  have H1 := cond_f H1 h3
  refine cw_exit (kw_nx_exit (kw_lq_exit (kw_bl ?_)))
  obtain rfl := sI H1
  exact kw_joinS (js := [0]) v2 rfl ⟨rfl, rfl, rfl, trivial⟩ ⟨0, [], rfl, rfl, trivial⟩ (by decide)
 rintro v2 rfl
 dsimp only
 refine kw_nx (sr (oS rfl (nn (cw_ret ?_))))
 obtain rfl := sI H0
 exact kr Tryz.results49 (rT rfl) [] ⟨rfl, rfl⟩

theorem c_s_l7Clock (fl : Nat) (w : World) (a0 : Mm) (hn0_0 : n0_0 = (a0.m.t.b).length) (hr0_0 : RO w (hkeys []) (RdL p0_0 c0_0 a0.m.t.b)) (hn0_1 : n0_1 = (a0.m.t.f).length) (hr0_1 : RO w (hkeys []) (RdL p0_1 c0_1 a0.m.t.f)) (hn0_2 : n0_2 = (a0.m.c.l).length) (hr0_2 : RO w (hkeys []) (RdL p0_2 c0_2 a0.m.c.l)) (hn0_3 : n0_3 = (a0.m.g.o).length) (hr0_3 : RO w (hkeys []) (RdL p0_3 c0_3 a0.m.g.o)) (hn0_4 : n0_4 = (a0.k).length) (hr0_4 : RO w (hkeys []) (RdL p0_4 c0_4 a0.k)) (r : Mm × Int) (H0 : s_l7Clock fl a0 = some r) :
  Ct Tryz.prog 25 [.agg #[.slice p0_0 n0_0 c0_0, .slice p0_1 n0_1 c0_1, .slice p0_2 n0_2 c0_2, .int .i64 a0.m.c.h, .int .i64 a0.m.g.c, .int .i64 a0.m.g.n, .int .i64 a0.m.g.r, .slice p0_3 n0_3 c0_3, .int .i64 a0.m.s, .slice p0_4 n0_4 c0_4, .int .i64 a0.h]] w [] (fun rv h' => ∃ (x0 : Option Addr) (y0 z0 : Nat) (C0 : Res) (x1 : Option Addr) (y1 z1 : Nat) (C1 : Res) (x2 : Option Addr) (y2 z2 : Nat) (C2 : Res) (x3 : Option Addr) (y3 z3 : Nat) (C3 : Res) (x4 : Option Addr) (y4 z4 : Nat) (C4 : Res), rv = .tuple #[.agg #[.slice x0 y0 z0, .slice x1 y1 z1, .slice x2 y2 z2, .int .i64 r.1.m.c.h, .int .i64 r.1.m.g.c, .int .i64 r.1.m.g.n, .int .i64 r.1.m.g.r, .slice x3 y3 z3, .int .i64 r.1.m.s, .slice x4 y4 z4, .int .i64 r.1.h], .int .i64 r.2] ∧ h' = [(0, C0), (1, C1), (2, C2), (3, C3), (4, C4)] ∧ y0 = (r.1.m.t.b).length ∧ OwnC 3 x0 z0 r.1.m.t.b C0 ∧ y1 = (r.1.m.t.f).length ∧ OwnC 51 x1 z1 r.1.m.t.f C1 ∧ y2 = (r.1.m.c.l).length ∧ OwnC 47 x2 z2 r.1.m.c.l C2 ∧ y3 = (r.1.m.g.o).length ∧ OwnC 89 x3 z3 r.1.m.g.o C3 ∧ y4 = (r.1.k).length ∧ OwnC 4 x4 z4 r.1.k C4) := by
 subst hn0_0 hn0_1 hn0_2 hn0_3 hn0_4
 unfold s_l7Clock at H0
 refine ct_of_cw Tryz.func25 rfl Tryz.ntmps25 rfl (Sat.refl _ _) ?_
 refine sr (oE (stpU_box 0 rfl rfl) rfl ?_)
 rintro _ _ ⟨b1, rfl, rfl⟩
 refine oE (stpU_alloc 1 tz37 rfl) rfl ?_
 rintro _ _ ⟨b2, rfl, rfl⟩
 obtain ⟨x3, e3, H0⟩ := bS H0
 refine oS rfl (nn (sr (oB11 0 ts37 rfl (oE (stpU_call (fun i => 2 + i) cf18 (fun w hw => c_s_l7Copy fl w a0 rfl (RO.pass hr0_0 hw) rfl (RO.pass hr0_1 hw) rfl (RO.pass hr0_2 hw) rfl (RO.pass hr0_3 hw) rfl (RO.pass hr0_4 hw) x3 e3) (yA rfl)) rfl ?_))))
 rintro _ _ ⟨_, ⟨p4, _, c6, C7, p8, _, c10, C11, p12, _, c14, C15, p16, _, c18, C19, p20, _, c22, C23, rfl, rfl, rfl, o7, rfl, o11, rfl, o15, rfl, o19, rfl, o23⟩, rfl⟩
 refine oE (stpU_alloc 7 tz37 rfl) rfl ?_
 rintro _ _ ⟨b24, rfl, rfl⟩
 obtain ⟨o0_0, eo0_0, H0⟩ := bS H0
 refine oC11 7 ts37 rfl rfl (nn (sr (oA 9 Tryz.underlying37 rfl ts35 rfl (oL 7 ts35 rfl (oD (stp_len Tryz.underlying35 rfl) rfl (oS rfl (nn (cw_seq (sr (oS rfl (nn (cw_join (ι := Int × (List Bool) × Int × Res) (fun | (v25, v26, v28, C27) => o0_0 = .out (v25, v26, v28) ∧ (x3.k).length = (v26).length ∧ OwnC 4 p20 c22 v26 C27) (fun | (v25, v26, v28, C27) => [(2, .pointer (some ⟨b2, 0, none⟩)), (4, .pointer (some ⟨b24, 0, none⟩)), (5, .int .i64 ((x3.k).length : Int)), (6, .int .i64 v28)]) (fun | (v25, v26, v28, C27) => [(1, [(b2, .cells #[.slice none 0 0, .slice none 0 0, .slice none 0 0, .int .i64 0, .int .i64 0, .int .i64 0, .int .i64 0, .slice none 0 0, .int .i64 0, .slice none 0 0, .int .i64 0] 37 (0, 0))]), (2, C7), (3, C11), (4, C15), (5, C19), (6, C27), (7, [(b24, .cells #[.slice p4 ((x3.m.t.b).length) c6, .slice p8 ((x3.m.t.f).length) c10, .slice p12 ((x3.m.c.l).length) c14, .int .i64 x3.m.c.h, .int .i64 x3.m.g.c, .int .i64 x3.m.g.n, .int .i64 x3.m.g.r, .slice p16 ((x3.m.g.o).length) c18, .int .i64 x3.m.s, .slice p20 ((x3.k).length) c22, .int .i64 v25] 37 (0, 0))])]) ?_ ?_))))))))))))
 ·refine cw_block (cw_loopS (ι := Nat × Int × (List Bool) × Int × Res) (js := [1, 2, 3, 4, 5, 6, 7]) (fun x => x.1) (fun | (fuel, v25, v26, v28, C27) => s_l7Clock_L0 fl x3 fuel v25 v26 v28 = some o0_0 ∧ (x3.k).length = (v26).length ∧ OwnC 4 p20 c22 v26 C27) (fun | (_, v25, v26, v28, C27) => [(2, .pointer (some ⟨b2, 0, none⟩)), (4, .pointer (some ⟨b24, 0, none⟩)), (5, .int .i64 ((x3.k).length : Int)), (6, .int .i64 v28)]) (fun | (_, v25, v26, v28, C27) => [(1, [(b2, .cells #[.slice none 0 0, .slice none 0 0, .slice none 0 0, .int .i64 0, .int .i64 0, .int .i64 0, .int .i64 0, .slice none 0 0, .int .i64 0, .slice none 0 0, .int .i64 0] 37 (0, 0))]), (2, C7), (3, C11), (4, C15), (5, C19), (6, C27), (7, [(b24, .cells #[.slice p4 ((x3.m.t.b).length) c6, .slice p8 ((x3.m.t.f).length) c10, .slice p12 ((x3.m.c.l).length) c14, .int .i64 x3.m.c.h, .int .i64 x3.m.g.c, .int .i64 x3.m.g.n, .int .i64 x3.m.g.r, .slice p16 ((x3.m.g.o).length) c18, .int .i64 x3.m.s, .slice p20 ((x3.k).length) c22, .int .i64 v25] 37 (0, 0))])]) (fl, x3.h, x3.k, 0, C23) ⟨eo0_0, rfl, o23⟩ ⟨rfl, rfl, rfl, rfl, trivial⟩ ⟨1, [2, 3, 4, 5, 6, 7], rfl, rfl, 2, [3, 4, 5, 6, 7], rfl, rfl, 3, [4, 5, 6, 7], rfl, rfl, 4, [5, 6, 7], rfl, rfl, 5, [6, 7], rfl, rfl, 6, [7], rfl, rfl, 7, [], rfl, rfl, trivial⟩ (by decide) ?_)
  rintro ⟨fuel, v25, v26, v28, C27⟩ ⟨H1, hl27, o27⟩
  have H1 : s_l7Clock_L0 fl x3 fuel v25 v26 v28 = some o0_0 := H1
  rcases fuel with _ | fuel
  ·rw [s_l7Clock_L0.eq_1] at H1; cases H1
  rw [s_l7Clock_L0.eq_2] at H1
  dsimp only
  obtain ⟨x29, e29, H1⟩ := bS H1
  refine cw_seq (sr (oM rfl (oM rfl (oD (stp_mul rfl rfl e29) rfl (oW rfl (nn (cw_cond rfl (fun h30 => ?_) (fun h30 => ?_))))))))
  ·have H1 := cond_t H1 h30
   obtain ⟨x31, e31, H1⟩ := bS H1
   obtain ⟨x32, e32, H1⟩ := bS H1
   refine cw_skip (kw_nx (cw_seq (cw_block (sr (oA 10 Tryz.underlying37 rfl ts3 rfl (oL 7 ts3 rfl (oS rfl (nn (sr (oM rfl (oP e31 rfl (oM rfl (oD (stp_rem rfl rfl e32) rfl ?_)))))))))))))
   obtain ⟨x33, e33, H1⟩ := bS H1
   refine oA 10 Tryz.underlying37 rfl ts3 rfl (oC11 7 ts3 rfl rfl (nn (cw_seq (sr (oA 0 Tryz.underlying37 rfl ts34 rfl (oA 0 Tryz.underlying34 rfl ts26 rfl (oA 1 Tryz.underlying26 rfl ts24 rfl (oL 7 ts24 rfl (oM rfl (oD (stp_indexAddr Tryz.underlying24 ts51 (by decide) rfl rfl rfl (Rdb.own (id := 3) rfl o11) e33) rfl (oA 0 Tryz.underlying51 rfl ts4 rfl (oD (stp_load1 ts4 rfl (Cells.el (Rdb.own (id := 3) rfl o11) (by decide) e33 0 1 rfl)) rfl (oK rfl ?_)))))))))))))
   obtain ⟨y34, ey34, H1⟩ := bS H1
   refine oM rfl (ow_cutY 5 40 y34 ?_ ?_)
   ·rcases Bool.eq_false_or_eq_true (!x33.u) with hy34 | hy34
    ·have ey34 := cond_t ey34 hy34
     refine oO rfl hy34 rfl (oO rfl hy34 rfl (oO rfl hy34 rfl (oO rfl hy34 rfl (oD (stp_pick_t rfl hy34 rfl) rfl ?_))))
     obtain rfl := sI ey34
     exact ow_nil (jy 5 0)
    have ey34 := cond_f ey34 hy34
    obtain ⟨x35, e35, ey34⟩ := bS ey34
    refine oG rfl hy34 (fA 0 Tryz.underlying37 rfl ts34 rfl rfl rfl) rfl (oG rfl hy34 (stp_loadN (us := [_, _, _, _, _, _, _, _, _]) ts34 rfl (Cells.box (id := 7) rfl 9 rfl)) rfl (oG rfl hy34 (mv rfl) rfl (ow_eff (.some rfl hy34) (stpU_call (fun i => 8 + i) cf49 (fun w hw => c_s_l7Wired fl w x3.m v25 rfl (OwnC.pass (id := 2) rfl o7 hw) rfl (OwnC.pass (id := 3) rfl o11 hw) rfl (OwnC.pass (id := 4) rfl o15 hw) rfl (OwnC.pass (id := 5) rfl o19 hw) x35 e35) (yB rfl rfl)) rfl ?_)))
    rintro _ _ ⟨_, ⟨rfl, rfl⟩, rfl⟩
    refine oD (stp_pick_f rfl hy34 rfl) rfl ?_
    obtain rfl := sI ey34
    exact ow_nil (jy 5 0)
   refine ow_nil (kw_nx (cw_cond rfl (fun h36 => ?_) (fun h36 => ?_)))
   ·have H1 := cond_t H1 h36
    obtain ⟨x37, e37, H1⟩ := bS H1
    exact cw_exit (kw_nx_exit (kw_bl (kw_nx (cw_region (oM rfl (oP e37 rfl (oS rfl (ow_nil (kw_lqS (js := [1, 2, 3, 4, 5, 6, 7]) (fuel, x32, v26, x37, C27) ⟨H1, (by simp [hl27]), o27⟩ (Nat.lt_succ_self _) ⟨rfl, rfl, rfl, rfl, trivial⟩ ⟨1, [2, 3, 4, 5, 6, 7], rfl, rfl, 2, [3, 4, 5, 6, 7], rfl, rfl, 3, [4, 5, 6, 7], rfl, rfl, 4, [5, 6, 7], rfl, rfl, 5, [6, 7], rfl, rfl, 6, [7], rfl, rfl, 7, [], rfl, rfl, trivial⟩ (by decide))))))))))
   have H1 := cond_f H1 h36
   obtain ⟨x38, e38, H1⟩ := bS H1
   refine cw_skip (kw_nx (cw_seq (sr (oA 9 Tryz.underlying37 rfl ts35 rfl (oL 7 ts35 rfl (oM rfl (oD (stp_indexAddr Tryz.underlying35 ts4 (by decide) rfl (by simp [hl27]) rfl (Rdb.own (id := 6) rfl o27) e38) rfl (oD (stp_load1 ts4 rfl (Cells.el (Rdb.own (id := 6) rfl o27) (by decide) e38 0 1 rfl)) rfl (oK rfl (nn (cw_cond rfl (fun h39 => ?_) (fun h39 => ?_))))))))))))
   ·have H1 := cond_t H1 h39
    refine sr (oB11 7 ts37 rfl (oM rfl (oC11 1 ts37 rfl rfl (oS rfl (nn (cw_ret (kw_nx_ret (kw_bl_ret (kw_nx_ret (kw_lq_ret (kw_bl_ret (kw_join_ret (kw_nx_ret ?_)))))))))))))
    obtain rfl := sI H1
    obtain rfl := sI H0
    exact kr Tryz.results25 (.cons (.cellN (us := [_, _, _, _, _, _, _, _, _, _, _]) ts37 rfl (Cells.box (id := 1) rfl 11 rfl)) (rT rfl)) [2, 3, 4, 5, 6] ⟨_, _, _, _, _, _, _, _, _, _, _, _, _, _, _, _, _, _, _, _, rfl, rfl, rfl, o7, rfl, o11, rfl, o15, rfl, o19, (by simp [hl27]), o27⟩
   have H1 := cond_f H1 h39
   refine cw_skip (kw_nx (cw_region (oA 9 Tryz.underlying37 rfl ts35 rfl (oL 7 ts35 rfl (oM rfl (oD (stp_indexAddr Tryz.underlying35 ts4 (by decide) rfl (by simp [hl27]) rfl (Rdb.own (id := 6) rfl o27) e38) rfl (oF (stpU_storeEl (id := 6) (i := 0) false (by decide) ts4 rfl rfl rfl o27 e38 rfl rfl rfl rfl) ?_)))))))
   rintro _ _ ⟨C40, rfl, o40⟩
   obtain ⟨x41, e41, H1⟩ := bS H1
   exact ow_nil (kw_bl_normal (kw_nx (cw_region (oM rfl (oP e41 rfl (oS rfl (ow_nil (kw_lqS (js := [1, 2, 3, 4, 5, 6, 7]) (fuel, x32, (v26.set (Int.toNat v25) false), x41, C40) ⟨H1, (by simp [hl27]), o40⟩ (Nat.lt_succ_self _) ⟨rfl, rfl, rfl, rfl, trivial⟩ ⟨1, [2, 3, 4, 5, 6, 7], rfl, rfl, 2, [3, 4, 5, 6, 7], rfl, rfl, 3, [4, 5, 6, 7], rfl, rfl, 4, [5, 6, 7], rfl, rfl, 5, [6, 7], rfl, rfl, 6, [7], rfl, rfl, 7, [], rfl, rfl, trivial⟩ (by decide)))))))))
  have H1 := cond_f H1 h30
  refine cw_exit (kw_nx_exit (kw_lq_exit (kw_bl ?_)))
  obtain rfl := sI H1
  exact kw_joinS (js := [1, 2, 3, 4, 5, 6, 7]) (v25, v26, v28, C27) ⟨rfl, (by simp [hl27]), o27⟩ ⟨rfl, rfl, rfl, rfl, trivial⟩ ⟨1, [2, 3, 4, 5, 6, 7], rfl, rfl, 2, [3, 4, 5, 6, 7], rfl, rfl, 3, [4, 5, 6, 7], rfl, rfl, 4, [5, 6, 7], rfl, rfl, 5, [6, 7], rfl, rfl, 6, [7], rfl, rfl, 7, [], rfl, rfl, trivial⟩ (by decide)
 rintro ⟨v25, v26, v28, C27⟩ ⟨rfl, hl27, o27⟩
 dsimp only
 refine kw_nx (sr (oB11 7 ts37 rfl (oC11 1 ts37 rfl rfl (oS rfl (nn (cw_ret ?_))))))
 obtain rfl := sI H0
 exact kr Tryz.results25 (.cons (.cellN (us := [_, _, _, _, _, _, _, _, _, _, _]) ts37 rfl (Cells.box (id := 1) rfl 11 rfl)) (rT rfl)) [2, 3, 4, 5, 6] ⟨_, _, _, _, _, _, _, _, _, _, _, _, _, _, _, _, _, _, _, _, rfl, rfl, rfl, o7, rfl, o11, rfl, o15, rfl, o19, (by simp [hl27]), o27⟩

theorem c_s_l7Bring (fl : Nat) (w : World) (a0 : Mm) (a1 : Int) (a2 : Int) (hn0_0 : n0_0 = (a0.m.t.b).length) (hr0_0 : RO w (hkeys []) (RdL p0_0 c0_0 a0.m.t.b)) (hn0_1 : n0_1 = (a0.m.t.f).length) (hr0_1 : RO w (hkeys []) (RdL p0_1 c0_1 a0.m.t.f)) (hn0_2 : n0_2 = (a0.m.c.l).length) (hr0_2 : RO w (hkeys []) (RdL p0_2 c0_2 a0.m.c.l)) (hn0_3 : n0_3 = (a0.m.g.o).length) (hr0_3 : RO w (hkeys []) (RdL p0_3 c0_3 a0.m.g.o)) (hn0_4 : n0_4 = (a0.k).length) (hr0_4 : RO w (hkeys []) (RdL p0_4 c0_4 a0.k)) (r : Mm × Bool) (H0 : s_l7Bring fl a0 a1 a2 = some r) :
  Ct Tryz.prog 113 [.agg #[.slice p0_0 n0_0 c0_0, .slice p0_1 n0_1 c0_1, .slice p0_2 n0_2 c0_2, .int .i64 a0.m.c.h, .int .i64 a0.m.g.c, .int .i64 a0.m.g.n, .int .i64 a0.m.g.r, .slice p0_3 n0_3 c0_3, .int .i64 a0.m.s, .slice p0_4 n0_4 c0_4, .int .i64 a0.h], .int .i64 a1, .int .i64 a2] w [] (fun rv h' => ∃ (x0 : Option Addr) (y0 z0 : Nat) (C0 : Res) (x1 : Option Addr) (y1 z1 : Nat) (C1 : Res) (x2 : Option Addr) (y2 z2 : Nat) (C2 : Res) (x3 : Option Addr) (y3 z3 : Nat) (C3 : Res) (x4 : Option Addr) (y4 z4 : Nat) (C4 : Res), rv = .tuple #[.agg #[.slice x0 y0 z0, .slice x1 y1 z1, .slice x2 y2 z2, .int .i64 r.1.m.c.h, .int .i64 r.1.m.g.c, .int .i64 r.1.m.g.n, .int .i64 r.1.m.g.r, .slice x3 y3 z3, .int .i64 r.1.m.s, .slice x4 y4 z4, .int .i64 r.1.h], .bool r.2] ∧ h' = [(0, C0), (1, C1), (2, C2), (3, C3), (4, C4)] ∧ y0 = (r.1.m.t.b).length ∧ OwnC 3 x0 z0 r.1.m.t.b C0 ∧ y1 = (r.1.m.t.f).length ∧ OwnC 51 x1 z1 r.1.m.t.f C1 ∧ y2 = (r.1.m.c.l).length ∧ OwnC 47 x2 z2 r.1.m.c.l C2 ∧ y3 = (r.1.m.g.o).length ∧ OwnC 89 x3 z3 r.1.m.g.o C3 ∧ y4 = (r.1.k).length ∧ OwnC 4 x4 z4 r.1.k C4) := by
 subst hn0_0 hn0_1 hn0_2 hn0_3 hn0_4
 unfold s_l7Bring at H0
 refine ct_of_cw Tryz.func113 rfl Tryz.ntmps113 rfl (Sat.refl _ _) ?_
 refine sr (oE (stpU_box 0 rfl rfl) rfl ?_)
 rintro _ _ ⟨b1, rfl, rfl⟩
 refine oE (stpU_alloc 1 tz37 rfl) rfl ?_
 rintro _ _ ⟨b2, rfl, rfl⟩
 obtain ⟨x3, e3, H0⟩ := bS H0
 refine oS rfl (nn (sr (oB11 0 ts37 rfl (oE (stpU_call (fun i => 2 + i) cf18 (fun w hw => c_s_l7Copy fl w a0 rfl (RO.pass hr0_0 hw) rfl (RO.pass hr0_1 hw) rfl (RO.pass hr0_2 hw) rfl (RO.pass hr0_3 hw) rfl (RO.pass hr0_4 hw) x3 e3) (yA rfl)) rfl ?_))))
 rintro _ _ ⟨_, ⟨p4, _, c6, C7, p8, _, c10, C11, p12, _, c14, C15, p16, _, c18, C19, p20, _, c22, C23, rfl, rfl, rfl, o7, rfl, o11, rfl, o15, rfl, o19, rfl, o23⟩, rfl⟩
 refine oE (stpU_alloc 7 tz37 rfl) rfl ?_
 rintro _ _ ⟨b24, rfl, rfl⟩
 obtain ⟨x25, e25, H0⟩ := bS H0
 refine oC11 7 ts37 rfl rfl (nn (sr (oA 0 Tryz.underlying37 rfl ts34 rfl (oA 0 Tryz.underlying34 rfl ts26 rfl (oB2 0 ts26 rfl (oE (stpU_call (fun i => 8 + i) cf124 (fun w hw => c_s_l7Free fl w a0.m.t rfl (RO.pass hr0_0 hw) rfl (RO.pass hr0_1 hw) x25 e25) (yA rfl)) rfl ?_))))))
 rintro _ _ ⟨_, ⟨rfl, rfl⟩, rfl⟩
 refine oS rfl (nn (cw_seq (sr (oM rfl (oW rfl (nn (cw_cond rfl (fun h26 => ?_) (fun h26 => ?_))))))))
 ·have H0 := cond_t H0 h26
  obtain ⟨x27, e27, H0⟩ := bS H0
  refine sr (oB11 0 ts37 rfl (oE (stpU_call (fun i => 8 + i) cf25 (fun w hw => c_s_l7Clock fl w a0 rfl (RO.pass hr0_0 hw) rfl (RO.pass hr0_1 hw) rfl (RO.pass hr0_2 hw) rfl (RO.pass hr0_3 hw) rfl (RO.pass hr0_4 hw) x27 e27) (yA rfl)) rfl ?_))
  rintro _ _ ⟨_, ⟨p28, _, c30, C31, p32, _, c34, C35, p36, _, c38, C39, p40, _, c42, C43, p44, _, c46, C47, rfl, rfl, rfl, o31, rfl, o35, rfl, o39, rfl, o43, rfl, o47⟩, rfl⟩
  refine oM rfl (oT rfl (oT rfl (oC11 7 ts37 rfl rfl (oS rfl (nn (cw_seq (sr (oM rfl (oW rfl (nn (cw_cond rfl (fun h48 => ?_) (fun h48 => ?_))))))))))))
  ·have H0 := cond_t H0 h48
   refine sr (oD (stp_build (cs := #[.slice none 0 0, .slice none 0 0, .slice none 0 0, .int .i64 0, .int .i64 0, .int .i64 0, .int .i64 0, .slice none 0 0, .int .i64 0, .slice none 0 0, .int .i64 0]) sevp_nil bt37_19) rfl (oC11 1 ts37 rfl rfl (oS rfl (nn (cw_ret (kw_nx_ret (kw_nx_ret (kw_addNil 13 (kw_addNil 14 (kw_addNil 15 (kw_addNil 16 (kw_addNil 17 ?_))))))))))))
   obtain rfl := sI H0
   exact kr Tryz.results113 (.cons (.cellN (us := [_, _, _, _, _, _, _, _, _, _, _]) ts37 rfl (Cells.box (id := 1) rfl 11 rfl)) (rT rfl)) [13, 14, 15, 16, 17] ⟨_, _, _, _, _, _, _, _, _, _, _, _, _, _, _, _, _, _, _, _, rfl, rfl, rfl, (OwnC.nil _ _), rfl, (OwnC.nil _ _), rfl, (OwnC.nil _ _), rfl, (OwnC.nil _ _), rfl, (OwnC.nil _ _)⟩
  have H0 := cond_f H0 h48
  obtain ⟨x49, e49, H0⟩ := bS H0
  refine cw_skip (kw_nx (sr (oA 9 Tryz.underlying37 rfl ts35 rfl (oL 7 ts35 rfl (oM rfl (oD (stp_indexAddr Tryz.underlying35 ts4 (by decide) rfl rfl rfl (Rdb.own (id := 12) rfl o47) e49) rfl (oF (stpU_storeEl (id := 12) (i := 0) false (by decide) ts4 rfl rfl rfl o47 e49 rfl rfl rfl rfl) ?_)))))))
  rintro _ _ ⟨C50, rfl, o50⟩
  obtain ⟨x51, e51, H0⟩ := bS H0
  obtain ⟨x52, e52, H0⟩ := bS H0
  refine nn (cw_seq (rdt g_mixed [.n 0, .n 1, .n 2, .n 3, .n 4, .n 5, .n 6, .n 7, .n 8, .n 9, .d 10, .d 14, .o 10, .n 11, .n 12, .n 13, .o 14, .n 15, .n 16] ⟨[[],[7],[],[],[],[7],[],[9],[],[9],[8,9,10,11],[],[],[],[],[22]], [[],[],[],[],[],[],[],[],[],[],[18,19,20,21],[],[],[],[22],[22]], [10,14]⟩ (dA 0 rfl Tryz.underlying37 rfl ts34 rfl (dB9 7 ts34 rfl (dA 0 rfl Tryz.underlying37 rfl ts34 rfl (dA 0 rfl Tryz.underlying34 rfl ts26 rfl (dA 1 rfl Tryz.underlying26 rfl ts24 rfl (dL 7 ts24 rfl (dM rfl (dD rfl (stp_indexAddr Tryz.underlying24 ts51 (by decide) rfl rfl rfl (Rdb.own (id := 9) rfl o35) e51) (dA 1 rfl Tryz.underlying51 rfl ts49 rfl (dD rfl (stp_loadN (us := [_, _]) ts49 rfl (Cells.el (Rdb.own (id := 9) rfl o35) (by decide) e51 1 2 rfl)) (dq rfl (fun hh => stpU_call (fun i => 18 + i) cf112 (fun w hw => c_s_TakePage fl w x27.1.m x51.k rfl (OwnC.pass (id := 8) (hh _ _ rfl) o31 hw) rfl (OwnC.pass (id := 9) (hh _ _ rfl) o35 hw) rfl (OwnC.pass (id := 10) (hh _ _ rfl) o39 hw) rfl (OwnC.pass (id := 11) (hh _ _ rfl) o43 hw) x52 e52) (yB rfl rfl)) (by rintro _ _ ⟨_, ⟨_, _, _, _, _, _, _, _, _, _, _, _, _, _, _, _, rfl, rfl, _, _, _, _, _, _, _, _⟩, rfl⟩; rfl) ?_)))))))))))))
  refine dq rfl (fun hh => stpU_alloc 22 tz34 rfl) (by rintro _ _ ⟨_, rfl, rfl⟩; rfl) (dp rfl ?_)
  rintro _ _ ⟨_, ⟨p53, _, c55, C56, p57, _, c59, C60, p61, _, c63, C64, p65, _, c67, C68, rfl, rfl, rfl, o56, rfl, o60, rfl, o64, rfl, o68⟩, rfl⟩
  refine dM rfl (dT rfl (dT rfl (dp rfl ?_)))
  rintro _ _ ⟨b69, rfl, rfl⟩
  refine dC9 22 ts34 rfl rfl rfl (dS rfl (dn (kw_nx (cw_region (oB9 22 ts34 rfl (oA 0 Tryz.underlying37 rfl ts34 rfl (oC11 7 ts34 rfl rfl (nn (cw_seq (rdt g_mixed [.n 0, .n 1, .n 2, .n 3, .n 4, .n 5, .n 6, .n 7, .n 8, .d 9, .d 13, .o 9, .n 10, .n 11, .n 12, .o 13, .n 14, .n 15] ⟨[[],[7],[],[],[7],[],[],[],[],[18,19,20,21],[],[],[],[],[27]], [[],[],[],[],[],[],[],[],[],[23,24,25,26],[],[],[],[27],[27]], [9,13]⟩ (dA 0 rfl Tryz.underlying37 rfl ts34 rfl (dB9 7 ts34 rfl (dA 0 rfl Tryz.underlying37 rfl ts34 rfl ?_)))))))))))))
  obtain ⟨x70, e70, H0⟩ := bS H0
  obtain ⟨x71, e71, H0⟩ := bS H0
  refine dA 8 rfl Tryz.underlying34 rfl ts3 rfl (dL 7 ts3 rfl (dM rfl (dV rfl (fun hh => stpU_call (fun i => 23 + i) cf87 (fun w hw => c_s_KeyFor fl w x52.1.s a1 x70 e70) (yB rfl rfl)) rfl (dM rfl (dM rfl (dq rfl (fun hh => stpU_call (fun i => 23 + i) cf108 (fun w hw => c_s_PutPage fl w x52.1 x70 x27.2 a2 rfl (OwnC.pass (id := 18) (hh _ _ rfl) o56 hw) rfl (OwnC.pass (id := 19) (hh _ _ rfl) o60 hw) rfl (OwnC.pass (id := 20) (hh _ _ rfl) o64 hw) rfl (OwnC.pass (id := 21) (hh _ _ rfl) o68 hw) x71 e71) (yD rfl rfl rfl rfl)) (by rintro _ _ ⟨_, ⟨_, _, _, _, _, _, _, _, _, _, _, _, _, _, _, _, rfl, rfl, _, _, _, _, _, _, _, _⟩, rfl⟩; rfl) (dq rfl (fun hh => stpU_alloc 27 tz34 rfl) (by rintro _ _ ⟨_, rfl, rfl⟩; rfl) (dp rfl ?_))))))))
  rintro _ _ ⟨_, ⟨p72, _, c74, C75, p76, _, c78, C79, p80, _, c82, C83, p84, _, c86, C87, rfl, rfl, rfl, o75, rfl, o79, rfl, o83, rfl, o87⟩, rfl⟩
  refine dM rfl (dT rfl (dT rfl (dp rfl ?_)))
  rintro _ _ ⟨b88, rfl, rfl⟩
  refine dC9 27 ts34 rfl rfl rfl (dS rfl (dn (kw_nx (sr (oB9 27 ts34 rfl (oA 0 Tryz.underlying37 rfl ts34 rfl (oC11 7 ts34 rfl rfl (nn (sr (oB11 7 ts37 rfl (oM rfl (oC11 1 ts37 rfl rfl (oS rfl ?_)))))))))))))
  refine nn (cw_ret ?_)
  obtain rfl := sI H0
  exact kr Tryz.results113 (.cons (.cellN (us := [_, _, _, _, _, _, _, _, _, _, _]) ts37 rfl (Cells.box (id := 1) rfl 11 rfl)) (rT rfl)) [23, 24, 25, 26, 12] ⟨_, _, _, _, _, _, _, _, _, _, _, _, _, _, _, _, _, _, _, _, rfl, rfl, rfl, o75, rfl, o79, rfl, o83, rfl, o87, (by simp), o50⟩
 have H0 := cond_f H0 h26
 obtain ⟨x89, e89, H0⟩ := bS H0
 obtain ⟨x90, e90, H0⟩ := bS H0
 refine cw_skip (kw_nx (cw_seq (rdt g_mixed [.n 0, .n 1, .n 2, .n 3, .n 4, .n 5, .n 6, .n 7, .n 8, .d 9, .d 13, .o 9, .n 10, .n 11, .n 12, .o 13, .n 14, .n 15] ⟨[[],[7],[],[],[7],[],[],[],[],[2,3,4,5],[],[],[],[],[32]], [[],[],[],[],[],[],[],[],[],[28,29,30,31],[],[],[],[32],[32]], [9,13]⟩ (dA 0 rfl Tryz.underlying37 rfl ts34 rfl (dB9 7 ts34 rfl (dA 0 rfl Tryz.underlying37 rfl ts34 rfl (dA 8 rfl Tryz.underlying34 rfl ts3 rfl (dL 7 ts3 rfl (dM rfl (dV rfl (fun hh => stpU_call (fun i => 28 + i) cf87 (fun w hw => c_s_KeyFor fl w x3.m.s a1 x89 e89) (yB rfl rfl)) rfl (dM rfl (dM rfl (dq rfl (fun hh => stpU_call (fun i => 28 + i) cf108 (fun w hw => c_s_PutPage fl w x3.m x89 x25 a2 rfl (OwnC.pass (id := 2) (hh _ _ rfl) o7 hw) rfl (OwnC.pass (id := 3) (hh _ _ rfl) o11 hw) rfl (OwnC.pass (id := 4) (hh _ _ rfl) o15 hw) rfl (OwnC.pass (id := 5) (hh _ _ rfl) o19 hw) x90 e90) (yD rfl rfl rfl rfl)) (by rintro _ _ ⟨_, ⟨_, _, _, _, _, _, _, _, _, _, _, _, _, _, _, _, rfl, rfl, _, _, _, _, _, _, _, _⟩, rfl⟩; rfl) ?_)))))))))))))
 refine dq rfl (fun hh => stpU_alloc 32 tz34 rfl) (by rintro _ _ ⟨_, rfl, rfl⟩; rfl) (dp rfl ?_)
 rintro _ _ ⟨_, ⟨p91, _, c93, C94, p95, _, c97, C98, p99, _, c101, C102, p103, _, c105, C106, rfl, rfl, rfl, o94, rfl, o98, rfl, o102, rfl, o106⟩, rfl⟩
 refine dM rfl (dT rfl (dT rfl (dp rfl ?_)))
 rintro _ _ ⟨b107, rfl, rfl⟩
 refine dC9 32 ts34 rfl rfl rfl (dS rfl (dn (kw_nx (sr (oB9 32 ts34 rfl (oA 0 Tryz.underlying37 rfl ts34 rfl (oC11 7 ts34 rfl rfl (nn (sr (oB11 7 ts37 rfl (oM rfl (oC11 1 ts37 rfl rfl (oS rfl ?_)))))))))))))
 refine nn (cw_ret ?_)
 obtain rfl := sI H0
 exact kr Tryz.results113 (.cons (.cellN (us := [_, _, _, _, _, _, _, _, _, _, _]) ts37 rfl (Cells.box (id := 1) rfl 11 rfl)) (rT rfl)) [28, 29, 30, 31, 6] ⟨_, _, _, _, _, _, _, _, _, _, _, _, _, _, _, _, _, _, _, _, rfl, rfl, rfl, o94, rfl, o98, rfl, o102, rfl, o106, rfl, o23⟩

theorem c_s_UsePage (fl : Nat) (w : World) (a0 : Mm) (a1 : Int) (a2 : Int) (a3 : Int) (hn0_0 : n0_0 = (a0.m.t.b).length) (hr0_0 : RO w (hkeys []) (RdL p0_0 c0_0 a0.m.t.b)) (hn0_1 : n0_1 = (a0.m.t.f).length) (hr0_1 : RO w (hkeys []) (RdL p0_1 c0_1 a0.m.t.f)) (hn0_2 : n0_2 = (a0.m.c.l).length) (hr0_2 : RO w (hkeys []) (RdL p0_2 c0_2 a0.m.c.l)) (hn0_3 : n0_3 = (a0.m.g.o).length) (hr0_3 : RO w (hkeys []) (RdL p0_3 c0_3 a0.m.g.o)) (hn0_4 : n0_4 = (a0.k).length) (hr0_4 : RO w (hkeys []) (RdL p0_4 c0_4 a0.k)) (r : Mm × Int × Int × Bool) (H0 : s_UsePage fl a0 a1 a2 a3 = some r) :
  Ct Tryz.prog 93 [.agg #[.slice p0_0 n0_0 c0_0, .slice p0_1 n0_1 c0_1, .slice p0_2 n0_2 c0_2, .int .i64 a0.m.c.h, .int .i64 a0.m.g.c, .int .i64 a0.m.g.n, .int .i64 a0.m.g.r, .slice p0_3 n0_3 c0_3, .int .i64 a0.m.s, .slice p0_4 n0_4 c0_4, .int .i64 a0.h], .int .i64 a1, .int .i64 a2, .int .i64 a3] w [] (fun rv h' => ∃ (x0 : Option Addr) (y0 z0 : Nat) (C0 : Res) (x1 : Option Addr) (y1 z1 : Nat) (C1 : Res) (x2 : Option Addr) (y2 z2 : Nat) (C2 : Res) (x3 : Option Addr) (y3 z3 : Nat) (C3 : Res) (x4 : Option Addr) (y4 z4 : Nat) (C4 : Res), rv = .tuple #[.agg #[.slice x0 y0 z0, .slice x1 y1 z1, .slice x2 y2 z2, .int .i64 r.1.m.c.h, .int .i64 r.1.m.g.c, .int .i64 r.1.m.g.n, .int .i64 r.1.m.g.r, .slice x3 y3 z3, .int .i64 r.1.m.s, .slice x4 y4 z4, .int .i64 r.1.h], .int .i64 r.2.1, .int .i64 r.2.2.1, .bool r.2.2.2] ∧ h' = [(0, C0), (1, C1), (2, C2), (3, C3), (4, C4)] ∧ y0 = (r.1.m.t.b).length ∧ OwnC 3 x0 z0 r.1.m.t.b C0 ∧ y1 = (r.1.m.t.f).length ∧ OwnC 51 x1 z1 r.1.m.t.f C1 ∧ y2 = (r.1.m.c.l).length ∧ OwnC 47 x2 z2 r.1.m.c.l C2 ∧ y3 = (r.1.m.g.o).length ∧ OwnC 89 x3 z3 r.1.m.g.o C3 ∧ y4 = (r.1.k).length ∧ OwnC 4 x4 z4 r.1.k C4) := by
 subst hn0_0 hn0_1 hn0_2 hn0_3 hn0_4
 unfold s_UsePage at H0
 refine ct_of_cw Tryz.func93 rfl Tryz.ntmps93 rfl (Sat.refl _ _) ?_
 refine sr (oE (stpU_box 0 rfl rfl) rfl ?_)
 rintro _ _ ⟨b1, rfl, rfl⟩
 refine oE (stpU_alloc 1 tz37 rfl) rfl ?_
 rintro _ _ ⟨b2, rfl, rfl⟩
 obtain ⟨x3, e3, H0⟩ := bS H0
 refine oS rfl (oS rfl (oS rfl (nn (cw_seq (sr (oB11 0 ts37 rfl (oE (stpU_call (fun i => 2 + i) cf11 (fun w hw => c_s_MemoryValid fl w a0 rfl (RO.pass hr0_0 hw) rfl (RO.pass hr0_1 hw) rfl (RO.pass hr0_2 hw) rfl (RO.pass hr0_3 hw) rfl (RO.pass hr0_4 hw) x3 e3) (yA rfl)) rfl ?_)))))))
 rintro _ _ ⟨_, ⟨rfl, rfl⟩, rfl⟩
 obtain ⟨y4, ey4, H0⟩ := bS H0
 refine oK rfl (oM rfl (ow_cutY 4 29 y4 ?_ ?_))
 ·rcases Bool.eq_false_or_eq_true (!x3) with hy4 | hy4
  ·have ey4 := cond_t ey4 hy4
   refine oO rfl hy4 rfl (oO rfl hy4 rfl (oO rfl hy4 rfl (oD (stp_pick_t rfl hy4 rfl) rfl ?_)))
   obtain rfl := sI ey4
   exact ow_nil (jy 4 0)
  have ey4 := cond_f ey4 hy4
  obtain ⟨x5, e5, ey4⟩ := bS ey4
  refine oG rfl hy4 (mv rfl) rfl (ow_eff (.some rfl hy4) (stpU_call (fun i => 2 + i) cf101 (fun w hw => c_s_l1Page fl w a1 x5 e5) (yA rfl)) rfl ?_)
  rintro _ _ ⟨_, ⟨rfl, rfl⟩, rfl⟩
  refine oG rfl hy4 (stp_not rfl) rfl (oD (stp_pick_f rfl hy4 rfl) rfl ?_)
  obtain rfl := sI ey4
  exact ow_nil (jy 4 0)
 obtain ⟨y6, ey6, H0⟩ := bS H0
 refine oM rfl (ow_cutY 4 34 y6 ?_ ?_)
 ·rcases Bool.eq_false_or_eq_true y4 with hy6 | hy6
  ·have ey6 := cond_t ey6 hy6
   refine oO rfl hy6 rfl (oO rfl hy6 rfl (oO rfl hy6 rfl (oD (stp_pick_t rfl hy6 rfl) rfl ?_)))
   obtain rfl := sI ey6
   exact ow_nil (jy 4 0)
  have ey6 := cond_f ey6 hy6
  obtain ⟨x7, e7, ey6⟩ := bS ey6
  refine oG rfl hy6 (mv rfl) rfl (ow_eff (.some rfl hy6) (stpU_call (fun i => 2 + i) cf100 (fun w hw => c_s_RightsValid fl w a2 x7 e7) (yA rfl)) rfl ?_)
  rintro _ _ ⟨_, ⟨rfl, rfl⟩, rfl⟩
  refine oG rfl hy6 (stp_not rfl) rfl (oD (stp_pick_f rfl hy6 rfl) rfl ?_)
  obtain rfl := sI ey6
  exact ow_nil (jy 4 0)
 obtain ⟨y8, ey8, H0⟩ := bS H0
 refine oM rfl (ow_cutY 4 39 y8 ?_ ?_)
 ·rcases Bool.eq_false_or_eq_true y6 with hy8 | hy8
  ·have ey8 := cond_t ey8 hy8
   refine oO rfl hy8 rfl (oO rfl hy8 rfl (oO rfl hy8 rfl (oD (stp_pick_t rfl hy8 rfl) rfl ?_)))
   obtain rfl := sI ey8
   exact ow_nil (jy 4 0)
  have ey8 := cond_f ey8 hy8
  obtain ⟨x9, e9, ey8⟩ := bS ey8
  refine oG rfl hy8 (mv rfl) rfl (ow_eff (.some rfl hy8) (stpU_call (fun i => 2 + i) cf100 (fun w hw => c_s_RightsValid fl w a3 x9 e9) (yA rfl)) rfl ?_)
  rintro _ _ ⟨_, ⟨rfl, rfl⟩, rfl⟩
  refine oG rfl hy8 (stp_not rfl) rfl (oD (stp_pick_f rfl hy8 rfl) rfl ?_)
  obtain rfl := sI ey8
  exact ow_nil (jy 4 0)
 refine ow_nil (kw_nx (cw_cond rfl (fun h10 => ?_) (fun h10 => ?_)))
 ·have H0 := cond_t H0 h10
  refine sr (oD (stp_build (cs := #[.slice none 0 0, .slice none 0 0, .slice none 0 0, .int .i64 0, .int .i64 0, .int .i64 0, .int .i64 0, .slice none 0 0, .int .i64 0, .slice none 0 0, .int .i64 0]) sevp_nil bt37_19) rfl (oC11 1 ts37 rfl rfl (oS rfl (oS rfl (oS rfl (nn (cw_ret (kw_nx_ret (kw_addNil 2 (kw_addNil 3 (kw_addNil 4 (kw_addNil 5 (kw_addNil 6 ?_)))))))))))))
  obtain rfl := sI H0
  exact kr Tryz.results93 (.cons (.cellN (us := [_, _, _, _, _, _, _, _, _, _, _]) ts37 rfl (Cells.box (id := 1) rfl 11 rfl)) (.cons (.tmp rfl) (.cons (.tmp rfl) (rT rfl)))) [2, 3, 4, 5, 6] ⟨_, _, _, _, _, _, _, _, _, _, _, _, _, _, _, _, _, _, _, _, rfl, rfl, rfl, (OwnC.nil _ _), rfl, (OwnC.nil _ _), rfl, (OwnC.nil _ _), rfl, (OwnC.nil _ _), rfl, (OwnC.nil _ _)⟩
 have H0 := cond_f H0 h10
 obtain ⟨x11, e11, H0⟩ := bS H0
 refine cw_skip (kw_nx (sr (oB11 0 ts37 rfl (oE (stpU_call (fun i => 7 + i) cf18 (fun w hw => c_s_l7Copy fl w a0 rfl (RO.pass hr0_0 hw) rfl (RO.pass hr0_1 hw) rfl (RO.pass hr0_2 hw) rfl (RO.pass hr0_3 hw) rfl (RO.pass hr0_4 hw) x11 e11) (yA rfl)) rfl ?_))))
 rintro _ _ ⟨_, ⟨p12, _, c14, C15, p16, _, c18, C19, p20, _, c22, C23, p24, _, c26, C27, p28, _, c30, C31, rfl, rfl, rfl, o15, rfl, o19, rfl, o23, rfl, o27, rfl, o31⟩, rfl⟩
 refine oE (stpU_alloc 12 tz37 rfl) rfl ?_
 rintro _ _ ⟨b32, rfl, rfl⟩
 obtain ⟨x33, e33, H0⟩ := bS H0
 obtain ⟨x34, e34, H0⟩ := bS H0
 refine oC11 12 ts37 rfl rfl (nn (cw_seq (rdt g_mixed (rn 0 14) ⟨[[],[],[0],[],[],[0]], [], []⟩ (dA 0 rfl Tryz.underlying37 rfl ts34 rfl (dA 0 rfl Tryz.underlying34 rfl ts26 rfl (dB2 0 ts26 rfl (dA 0 rfl Tryz.underlying37 rfl ts34 rfl (dA 8 rfl Tryz.underlying34 rfl ts3 rfl (dL 0 ts3 rfl (dM rfl (dV rfl (fun hh => stpU_call (fun i => 13 + i) cf87 (fun w hw => c_s_KeyFor fl w a0.m.s a1 x33 e33) (yB rfl rfl)) rfl (dV rfl (fun hh => stpU_call (fun i => 13 + i) cf86 (fun w hw => c_s_l3Find fl w a0.m.t x33 rfl (RO.pass hr0_0 hw) rfl (RO.pass hr0_1 hw) x34 e34) (yB rfl rfl)) rfl (dM rfl ?_)))))))))))))
 refine dT rfl (dT rfl (dS rfl (dS rfl (dn (kw_nx (sr (oM rfl (oW rfl (oS rfl (nn (cw_seq (sr (oM rfl ?_)))))))))))))
 refine nn (cw_cond rfl (fun h35 => ?_) (fun h35 => ?_))
 ·have H0 := cond_t H0 h35
  obtain ⟨x36, e36, H0⟩ := bS H0
  refine sr (oB11 0 ts37 rfl (oM rfl (oM rfl (oE (stpU_call (fun i => 13 + i) cf113 (fun w hw => c_s_l7Bring fl w a0 a1 a3 rfl (RO.pass hr0_0 hw) rfl (RO.pass hr0_1 hw) rfl (RO.pass hr0_2 hw) rfl (RO.pass hr0_3 hw) rfl (RO.pass hr0_4 hw) x36 e36) (yC rfl rfl rfl)) rfl ?_))))
  rintro _ _ ⟨_, ⟨p37, _, c39, C40, p41, _, c43, C44, p45, _, c47, C48, p49, _, c51, C52, p53, _, c55, C56, rfl, rfl, rfl, o40, rfl, o44, rfl, o48, rfl, o52, rfl, o56⟩, rfl⟩
  refine oM rfl (oT rfl (oT rfl (oE (stpU_alloc 18 tz37 rfl) rfl ?_)))
  rintro _ _ ⟨b57, rfl, rfl⟩
  refine oC11 18 ts37 rfl rfl (oS rfl (nn (cw_seq (sr (oM rfl (oK rfl (nn (cw_cond rfl (fun h58 => ?_) (fun h58 => ?_)))))))))
  ·have H0 := cond_t H0 h58
   refine sr (oD (stp_build (cs := #[.slice none 0 0, .slice none 0 0, .slice none 0 0, .int .i64 0, .int .i64 0, .int .i64 0, .int .i64 0, .slice none 0 0, .int .i64 0, .slice none 0 0, .int .i64 0]) sevp_nil bt37_19) rfl (oC11 1 ts37 rfl rfl (oS rfl (oS rfl (oS rfl (nn (cw_ret (kw_nx_ret (kw_nx_ret (kw_addNil 19 (kw_addNil 20 (kw_addNil 21 (kw_addNil 22 ?_)))))))))))))
   refine kw_addNil 23 ?_
   obtain rfl := sI H0
   exact kr Tryz.results93 (.cons (.cellN (us := [_, _, _, _, _, _, _, _, _, _, _]) ts37 rfl (Cells.box (id := 1) rfl 11 rfl)) (.cons (.tmp rfl) (.cons (.tmp rfl) (rT rfl)))) [19, 20, 21, 22, 23] ⟨_, _, _, _, _, _, _, _, _, _, _, _, _, _, _, _, _, _, _, _, rfl, rfl, rfl, (OwnC.nil _ _), rfl, (OwnC.nil _ _), rfl, (OwnC.nil _ _), rfl, (OwnC.nil _ _), rfl, (OwnC.nil _ _)⟩
  have H0 := cond_f H0 h58
  obtain ⟨x59, e59, H0⟩ := bS H0
  refine cw_skip (kw_nx (cw_region (oB11 18 ts37 rfl (oC11 12 ts37 rfl rfl (nn (sr (oA 0 Tryz.underlying37 rfl ts34 rfl (oB9 12 ts34 rfl (oM rfl (oM rfl (oE (stpU_call (fun i => 24 + i) cf110 (fun w hw => c_s_TouchPage fl w x36.1.m a1 a2 rfl (OwnC.pass (id := 13) rfl o40 hw) rfl (OwnC.pass (id := 14) rfl o44 hw) rfl (OwnC.pass (id := 15) rfl o48 hw) rfl (OwnC.pass (id := 16) rfl o52 hw) x59 e59) (yC rfl rfl rfl)) rfl ?_)))))))))))
  rintro _ _ ⟨_, ⟨p60, _, c62, C63, p64, _, c66, C67, p68, _, c70, C71, p72, _, c74, C75, rfl, rfl, rfl, o63, rfl, o67, rfl, o71, rfl, o75⟩, rfl⟩
  refine oM rfl (oT rfl (oT rfl (oT rfl (oT rfl (oE (stpU_alloc 28 tz34 rfl) rfl ?_)))))
  rintro _ _ ⟨b76, rfl, rfl⟩
  refine oC9 28 ts34 rfl rfl (oS rfl (oS rfl (oS rfl (nn (sr (oB9 28 ts34 rfl (oA 0 Tryz.underlying37 rfl ts34 rfl (oC11 12 ts34 rfl rfl (nn (sr (oA 9 Tryz.underlying37 rfl ts35 rfl (oL 12 ts35 rfl (oM rfl ?_)))))))))))))
  obtain ⟨x77, e77, H0⟩ := bS H0
  refine oD (stp_indexAddr Tryz.underlying35 ts4 (by decide) rfl rfl rfl (Rdb.own (id := 17) rfl o56) e77) rfl (oF (stpU_storeEl (id := 17) (i := 0) true (by decide) ts4 rfl rfl rfl o56 e77 rfl rfl rfl rfl) ?_)
  rintro _ _ ⟨C78, rfl, o78⟩
  obtain ⟨y79, ey79, H0⟩ := bS H0
  refine nn (cw_seq (sr (oM rfl (oM rfl (ow_cutY 3 89 y79 ?_ ?_)))))
  ·rcases Bool.eq_false_or_eq_true (decide (x34.1 < 0)) with hy79 | hy79
   ·have ey79 := cond_t ey79 hy79
    refine oG rfl hy79 (mv rfl) rfl (oG rfl hy79 (stp_eql rfl rfl) rfl (oD (stp_pick_t rfl hy79 rfl) rfl ?_))
    obtain rfl := sI ey79
    exact ow_nil (jy 3 0)
   have ey79 := cond_f ey79 hy79
   refine oO rfl hy79 rfl (oO rfl hy79 rfl (oD (stp_pick_f rfl hy79 rfl) rfl ?_))
   obtain rfl := sI ey79
   exact ow_nil (jy 3 0)
  refine ow_nil (kw_nx (cw_cond rfl (fun h80 => ?_) (fun h80 => ?_)))
  ·have H0 := cond_t H0 h80
   refine cw_region (oS rfl (nn (sr (oB11 12 ts37 rfl (oM rfl (oM rfl (oC11 1 ts37 rfl rfl (oS rfl (oS rfl (oS rfl (nn (cw_ret ?_))))))))))))
   obtain rfl := sI H0
   exact kr Tryz.results93 (.cons (.cellN (us := [_, _, _, _, _, _, _, _, _, _, _]) ts37 rfl (Cells.box (id := 1) rfl 11 rfl)) (.cons (.tmp rfl) (.cons (.tmp rfl) (rT rfl)))) [24, 25, 26, 27, 17] ⟨_, _, _, _, _, _, _, _, _, _, _, _, _, _, _, _, _, _, _, _, rfl, rfl, rfl, o63, rfl, o67, rfl, o71, rfl, o75, (by simp), o78⟩
  have H0 := cond_f H0 h80
  refine cw_skip (kw_nx (sr (oB11 12 ts37 rfl (oM rfl (oM rfl (oC11 1 ts37 rfl rfl (oS rfl (oS rfl (oS rfl (nn (cw_ret ?_)))))))))))
  obtain rfl := sI H0
  exact kr Tryz.results93 (.cons (.cellN (us := [_, _, _, _, _, _, _, _, _, _, _]) ts37 rfl (Cells.box (id := 1) rfl 11 rfl)) (.cons (.tmp rfl) (.cons (.tmp rfl) (rT rfl)))) [24, 25, 26, 27, 17] ⟨_, _, _, _, _, _, _, _, _, _, _, _, _, _, _, _, _, _, _, _, rfl, rfl, rfl, o63, rfl, o67, rfl, o71, rfl, o75, (by simp), o78⟩
 have H0 := cond_f H0 h35
 obtain ⟨x81, e81, H0⟩ := bS H0
 refine cw_skip (kw_nx (sr (oA 0 Tryz.underlying37 rfl ts34 rfl (oB9 12 ts34 rfl (oM rfl (oM rfl (oE (stpU_call (fun i => 29 + i) cf110 (fun w hw => c_s_TouchPage fl w x11.m a1 a2 rfl (OwnC.pass (id := 7) rfl o15 hw) rfl (OwnC.pass (id := 8) rfl o19 hw) rfl (OwnC.pass (id := 9) rfl o23 hw) rfl (OwnC.pass (id := 10) rfl o27 hw) x81 e81) (yC rfl rfl rfl)) rfl ?_)))))))
 rintro _ _ ⟨_, ⟨p82, _, c84, C85, p86, _, c88, C89, p90, _, c92, C93, p94, _, c96, C97, rfl, rfl, rfl, o85, rfl, o89, rfl, o93, rfl, o97⟩, rfl⟩
 refine oM rfl (oT rfl (oT rfl (oT rfl (oT rfl (oE (stpU_alloc 33 tz34 rfl) rfl ?_)))))
 rintro _ _ ⟨b98, rfl, rfl⟩
 refine oC9 33 ts34 rfl rfl (oS rfl (oS rfl (oS rfl (nn (sr (oB9 33 ts34 rfl (oA 0 Tryz.underlying37 rfl ts34 rfl (oC11 12 ts34 rfl rfl (nn (sr (oA 9 Tryz.underlying37 rfl ts35 rfl (oL 12 ts35 rfl (oM rfl ?_)))))))))))))
 obtain ⟨x99, e99, H0⟩ := bS H0
 refine oD (stp_indexAddr Tryz.underlying35 ts4 (by decide) rfl rfl rfl (Rdb.own (id := 11) rfl o31) e99) rfl (oF (stpU_storeEl (id := 11) (i := 0) true (by decide) ts4 rfl rfl rfl o31 e99 rfl rfl rfl rfl) ?_)
 rintro _ _ ⟨C100, rfl, o100⟩
 obtain ⟨y101, ey101, H0⟩ := bS H0
 refine nn (cw_seq (sr (oM rfl (oM rfl (ow_cutY 3 89 y101 ?_ ?_)))))
 ·rcases Bool.eq_false_or_eq_true (decide (x34.1 < 0)) with hy101 | hy101
  ·have ey101 := cond_t ey101 hy101
   refine oG rfl hy101 (mv rfl) rfl (oG rfl hy101 (stp_eql rfl rfl) rfl (oD (stp_pick_t rfl hy101 rfl) rfl ?_))
   obtain rfl := sI ey101
   exact ow_nil (jy 3 0)
  have ey101 := cond_f ey101 hy101
  refine oO rfl hy101 rfl (oO rfl hy101 rfl (oD (stp_pick_f rfl hy101 rfl) rfl ?_))
  obtain rfl := sI ey101
  exact ow_nil (jy 3 0)
 refine ow_nil (kw_nx (cw_cond rfl (fun h102 => ?_) (fun h102 => ?_)))
 ·have H0 := cond_t H0 h102
  refine cw_region (oS rfl (nn (sr (oB11 12 ts37 rfl (oM rfl (oM rfl (oC11 1 ts37 rfl rfl (oS rfl (oS rfl (oS rfl (nn (cw_ret ?_))))))))))))
  obtain rfl := sI H0
  exact kr Tryz.results93 (.cons (.cellN (us := [_, _, _, _, _, _, _, _, _, _, _]) ts37 rfl (Cells.box (id := 1) rfl 11 rfl)) (.cons (.tmp rfl) (.cons (.tmp rfl) (rT rfl)))) [29, 30, 31, 32, 11] ⟨_, _, _, _, _, _, _, _, _, _, _, _, _, _, _, _, _, _, _, _, rfl, rfl, rfl, o85, rfl, o89, rfl, o93, rfl, o97, (by simp), o100⟩
 have H0 := cond_f H0 h102
 refine cw_skip (kw_nx (sr (oB11 12 ts37 rfl (oM rfl (oM rfl (oC11 1 ts37 rfl rfl (oS rfl (oS rfl (oS rfl (nn (cw_ret ?_)))))))))))
 obtain rfl := sI H0
 exact kr Tryz.results93 (.cons (.cellN (us := [_, _, _, _, _, _, _, _, _, _, _]) ts37 rfl (Cells.box (id := 1) rfl 11 rfl)) (.cons (.tmp rfl) (.cons (.tmp rfl) (rT rfl)))) [29, 30, 31, 32, 11] ⟨_, _, _, _, _, _, _, _, _, _, _, _, _, _, _, _, _, _, _, _, rfl, rfl, rfl, o85, rfl, o89, rfl, o93, rfl, o97, (by simp), o100⟩

theorem c_s_UsePages (fl : Nat) (w : World) (a0 : Mm) (a1 : (List Int)) (hn0_0 : n0_0 = (a0.m.t.b).length) (hr0_0 : RO w (hkeys []) (RdL p0_0 c0_0 a0.m.t.b)) (hn0_1 : n0_1 = (a0.m.t.f).length) (hr0_1 : RO w (hkeys []) (RdL p0_1 c0_1 a0.m.t.f)) (hn0_2 : n0_2 = (a0.m.c.l).length) (hr0_2 : RO w (hkeys []) (RdL p0_2 c0_2 a0.m.c.l)) (hn0_3 : n0_3 = (a0.m.g.o).length) (hr0_3 : RO w (hkeys []) (RdL p0_3 c0_3 a0.m.g.o)) (hn0_4 : n0_4 = (a0.k).length) (hr0_4 : RO w (hkeys []) (RdL p0_4 c0_4 a0.k)) (hn1_0 : n1_0 = (a1).length) (hr1_0 : RO w (hkeys []) (RdL p1_0 c1_0 a1)) (r : Mm × (List Int) × Bool) (H0 : s_UsePages fl a0 a1 = some r) :
  Ct Tryz.prog 59 [.agg #[.slice p0_0 n0_0 c0_0, .slice p0_1 n0_1 c0_1, .slice p0_2 n0_2 c0_2, .int .i64 a0.m.c.h, .int .i64 a0.m.g.c, .int .i64 a0.m.g.n, .int .i64 a0.m.g.r, .slice p0_3 n0_3 c0_3, .int .i64 a0.m.s, .slice p0_4 n0_4 c0_4, .int .i64 a0.h], .slice p1_0 n1_0 c1_0] w [] (fun rv h' => ∃ (x0 : Option Addr) (y0 z0 : Nat) (C0 : Res) (x1 : Option Addr) (y1 z1 : Nat) (C1 : Res) (x2 : Option Addr) (y2 z2 : Nat) (C2 : Res) (x3 : Option Addr) (y3 z3 : Nat) (C3 : Res) (x4 : Option Addr) (y4 z4 : Nat) (C4 : Res) (x5 : Option Addr) (y5 z5 : Nat) (C5 : Res), rv = .tuple #[.agg #[.slice x0 y0 z0, .slice x1 y1 z1, .slice x2 y2 z2, .int .i64 r.1.m.c.h, .int .i64 r.1.m.g.c, .int .i64 r.1.m.g.n, .int .i64 r.1.m.g.r, .slice x3 y3 z3, .int .i64 r.1.m.s, .slice x4 y4 z4, .int .i64 r.1.h], .slice x5 y5 z5, .bool r.2.2] ∧ h' = [(0, C0), (1, C1), (2, C2), (3, C3), (4, C4), (5, C5)] ∧ y0 = (r.1.m.t.b).length ∧ OwnC 3 x0 z0 r.1.m.t.b C0 ∧ y1 = (r.1.m.t.f).length ∧ OwnC 51 x1 z1 r.1.m.t.f C1 ∧ y2 = (r.1.m.c.l).length ∧ OwnC 47 x2 z2 r.1.m.c.l C2 ∧ y3 = (r.1.m.g.o).length ∧ OwnC 89 x3 z3 r.1.m.g.o C3 ∧ y4 = (r.1.k).length ∧ OwnC 4 x4 z4 r.1.k C4 ∧ y5 = (r.2.1).length ∧ OwnC 3 x5 z5 r.2.1 C5) := by
 subst hn0_0 hn0_1 hn0_2 hn0_3 hn0_4 hn1_0
 unfold s_UsePages at H0
 refine ct_of_cw Tryz.func59 rfl Tryz.ntmps59 rfl (Sat.refl _ _) ?_
 refine sr (oE (stpU_box 0 rfl rfl) rfl ?_)
 rintro _ _ ⟨b1, rfl, rfl⟩
 refine oE (stpU_alloc 1 tz37 rfl) rfl ?_
 rintro _ _ ⟨b2, rfl, rfl⟩
 obtain ⟨x3, e3, H0⟩ := bS H0
 refine oS rfl (oS rfl (nn (cw_seq (sr (oB11 0 ts37 rfl (oE (stpU_call (fun i => 2 + i) cf11 (fun w hw => c_s_MemoryValid fl w a0 rfl (RO.pass hr0_0 hw) rfl (RO.pass hr0_1 hw) rfl (RO.pass hr0_2 hw) rfl (RO.pass hr0_3 hw) rfl (RO.pass hr0_4 hw) x3 e3) (yA rfl)) rfl ?_))))))
 rintro _ _ ⟨_, ⟨rfl, rfl⟩, rfl⟩
 obtain ⟨y4, ey4, H0⟩ := bS H0
 refine oK rfl (oM rfl (ow_cutY 4 21 y4 ?_ ?_))
 ·rcases Bool.eq_false_or_eq_true (!x3) with hy4 | hy4
  ·have ey4 := cond_t ey4 hy4
   refine oO rfl hy4 rfl (oO rfl hy4 rfl (oO rfl hy4 rfl (oD (stp_pick_t rfl hy4 rfl) rfl ?_)))
   obtain rfl := sI ey4
   exact ow_nil (jy 4 0)
  have ey4 := cond_f ey4 hy4
  refine oG rfl hy4 (mv rfl) rfl (oG rfl hy4 (stp_len Tryz.underlying23 rfl) rfl (oG rfl hy4 (stp_gtr rfl rfl) rfl (oD (stp_pick_f rfl hy4 rfl) rfl ?_)))
  obtain rfl := sI ey4
  exact ow_nil (jy 4 0)
 refine ow_nil (kw_nx (cw_cond rfl (fun h5 => ?_) (fun h5 => ?_)))
 ·have H0 := cond_t H0 h5
  refine sr (oD (stp_build (cs := #[.slice none 0 0, .slice none 0 0, .slice none 0 0, .int .i64 0, .int .i64 0, .int .i64 0, .int .i64 0, .slice none 0 0, .int .i64 0, .slice none 0 0, .int .i64 0]) sevp_nil bt37_19) rfl (oE (stpU_lit0 sl23 2) rfl ?_))
  rintro _ _ ⟨p6, C7, rfl, rfl, o7⟩
  refine oC11 1 ts37 rfl rfl (oS rfl (oS rfl (nn (cw_ret (kw_nx_ret (kw_addNil 3 (kw_addNil 4 (kw_addNil 5 (kw_addNil 6 (kw_addNil 7 ?_))))))))))
  obtain rfl := sI H0
  exact kr Tryz.results59 (.cons (.cellN (us := [_, _, _, _, _, _, _, _, _, _, _]) ts37 rfl (Cells.box (id := 1) rfl 11 rfl)) (.cons (.tmp rfl) (rT rfl))) [3, 4, 5, 6, 7, 2] ⟨_, _, _, _, _, _, _, _, _, _, _, _, _, _, _, _, _, _, _, _, _, _, _, _, rfl, rfl, rfl, (OwnC.nil _ _), rfl, (OwnC.nil _ _), rfl, (OwnC.nil _ _), rfl, (OwnC.nil _ _), rfl, (OwnC.nil _ _), (by simp), o7⟩
 have H0 := cond_f H0 h5
 obtain ⟨x8, e8, H0⟩ := bS H0
 refine cw_skip (kw_nx (sr (oB11 0 ts37 rfl (oE (stpU_call (fun i => 8 + i) cf18 (fun w hw => c_s_l7Copy fl w a0 rfl (RO.pass hr0_0 hw) rfl (RO.pass hr0_1 hw) rfl (RO.pass hr0_2 hw) rfl (RO.pass hr0_3 hw) rfl (RO.pass hr0_4 hw) x8 e8) (yA rfl)) rfl ?_))))
 rintro _ _ ⟨_, ⟨p9, _, c11, C12, p13, _, c15, C16, p17, _, c19, C20, p21, _, c23, C24, p25, _, c27, C28, rfl, rfl, rfl, o12, rfl, o16, rfl, o20, rfl, o24, rfl, o28⟩, rfl⟩
 refine oE (stpU_alloc 13 tz37 rfl) rfl ?_
 rintro _ _ ⟨b29, rfl, rfl⟩
 obtain ⟨x30, e30, H0⟩ := bS H0
 refine oC11 13 ts37 rfl rfl (nn (sr (oE (stpU_make sl23 rfl 14 rfl rfl e30) rfl ?_)))
 rintro _ _ ⟨p31, C32, rfl, rfl, o32⟩
 obtain ⟨o0_0, eo0_0, H0⟩ := bS H0
 refine oS rfl (nn (cw_seq (sr (oS rfl (nn (cw_join (ι := (List Int) × (List F) × Int × (List Ln) × Int × Int × Int × Int × (List Ow) × Int × (List Bool) × (List Int) × Int × Option Addr × Nat × Nat × Res × Option Addr × Nat × Nat × Res × Option Addr × Nat × Nat × Res × Option Addr × Nat × Nat × Res × Option Addr × Nat × Nat × Res × Res) (fun | (v33, v38, v43, v44, v49, v50, v51, v52, v53, v58, v59, v64, v66, p34, n35, c36, C37, p39, n40, c41, C42, p45, n46, c47, C48, p54, n55, c56, C57, p60, n61, c62, C63, C65) => o0_0 = .out (v33, v38, v43, v44, v49, v50, v51, v52, v53, v58, v59, v64, v66) ∧ n35 = (v33).length ∧ OwnC 3 p34 c36 v33 C37 ∧ n40 = (v38).length ∧ OwnC 51 p39 c41 v38 C42 ∧ n46 = (v44).length ∧ OwnC 47 p45 c47 v44 C48 ∧ n55 = (v53).length ∧ OwnC 89 p54 c56 v53 C57 ∧ n61 = (v59).length ∧ OwnC 4 p60 c62 v59 C63 ∧ x30 = (v64).length ∧ OwnC 3 p31 x30 v64 C65) (fun | (v33, v38, v43, v44, v49, v50, v51, v52, v53, v58, v59, v64, v66, p34, n35, c36, C37, p39, n40, c41, C42, p45, n46, c47, C48, p54, n55, c56, C57, p60, n61, c62, C63, C65) => [(1, .slice p1_0 ((a1).length) c1_0), (4, .pointer (some ⟨b2, 0, none⟩)), (7, .pointer (some ⟨b29, 0, none⟩)), (8, .slice p31 x30 x30), (9, .int .i64 v66)]) (fun | (v33, v38, v43, v44, v49, v50, v51, v52, v53, v58, v59, v64, v66, p34, n35, c36, C37, p39, n40, c41, C42, p45, n46, c47, C48, p54, n55, c56, C57, p60, n61, c62, C63, C65) => [(1, [(b2, .cells #[.slice none 0 0, .slice none 0 0, .slice none 0 0, .int .i64 0, .int .i64 0, .int .i64 0, .int .i64 0, .slice none 0 0, .int .i64 0, .slice none 0 0, .int .i64 0] 37 (0, 0))]), (8, C37), (9, C42), (10, C48), (11, C57), (12, C63), (13, [(b29, .cells #[.slice p34 n35 c36, .slice p39 n40 c41, .slice p45 n46 c47, .int .i64 v49, .int .i64 v50, .int .i64 v51, .int .i64 v52, .slice p54 n55 c56, .int .i64 v58, .slice p60 n61 c62, .int .i64 v43] 37 (0, 0))]), (14, C65)]) ?_ ?_))))))
 ·refine cw_block (cw_loopS (ι := Nat × (List Int) × (List F) × Int × (List Ln) × Int × Int × Int × Int × (List Ow) × Int × (List Bool) × (List Int) × Int × Option Addr × Nat × Nat × Res × Option Addr × Nat × Nat × Res × Option Addr × Nat × Nat × Res × Option Addr × Nat × Nat × Res × Option Addr × Nat × Nat × Res × Res) (js := [1, 8, 9, 10, 11, 12, 13, 14]) (fun x => x.1) (fun | (fuel, v33, v38, v43, v44, v49, v50, v51, v52, v53, v58, v59, v64, v66, p34, n35, c36, C37, p39, n40, c41, C42, p45, n46, c47, C48, p54, n55, c56, C57, p60, n61, c62, C63, C65) => s_UsePages_L0 fl a1 fuel v33 v38 v43 v44 v49 v50 v51 v52 v53 v58 v59 v64 v66 = some o0_0 ∧ n35 = (v33).length ∧ OwnC 3 p34 c36 v33 C37 ∧ n40 = (v38).length ∧ OwnC 51 p39 c41 v38 C42 ∧ n46 = (v44).length ∧ OwnC 47 p45 c47 v44 C48 ∧ n55 = (v53).length ∧ OwnC 89 p54 c56 v53 C57 ∧ n61 = (v59).length ∧ OwnC 4 p60 c62 v59 C63 ∧ x30 = (v64).length ∧ OwnC 3 p31 x30 v64 C65) (fun | (_, v33, v38, v43, v44, v49, v50, v51, v52, v53, v58, v59, v64, v66, p34, n35, c36, C37, p39, n40, c41, C42, p45, n46, c47, C48, p54, n55, c56, C57, p60, n61, c62, C63, C65) => [(1, .slice p1_0 ((a1).length) c1_0), (4, .pointer (some ⟨b2, 0, none⟩)), (7, .pointer (some ⟨b29, 0, none⟩)), (8, .slice p31 x30 x30), (9, .int .i64 v66)]) (fun | (_, v33, v38, v43, v44, v49, v50, v51, v52, v53, v58, v59, v64, v66, p34, n35, c36, C37, p39, n40, c41, C42, p45, n46, c47, C48, p54, n55, c56, C57, p60, n61, c62, C63, C65) => [(1, [(b2, .cells #[.slice none 0 0, .slice none 0 0, .slice none 0 0, .int .i64 0, .int .i64 0, .int .i64 0, .int .i64 0, .slice none 0 0, .int .i64 0, .slice none 0 0, .int .i64 0] 37 (0, 0))]), (8, C37), (9, C42), (10, C48), (11, C57), (12, C63), (13, [(b29, .cells #[.slice p34 n35 c36, .slice p39 n40 c41, .slice p45 n46 c47, .int .i64 v49, .int .i64 v50, .int .i64 v51, .int .i64 v52, .slice p54 n55 c56, .int .i64 v58, .slice p60 n61 c62, .int .i64 v43] 37 (0, 0))]), (14, C65)]) (fl, x8.m.t.b, x8.m.t.f, x8.h, x8.m.c.l, x8.m.c.h, x8.m.g.c, x8.m.g.n, x8.m.g.r, x8.m.g.o, x8.m.s, x8.k, (List.replicate x30 (0 : Int)), 0, p9, ((x8.m.t.b).length), c11, C12, p13, ((x8.m.t.f).length), c15, C16, p17, ((x8.m.c.l).length), c19, C20, p21, ((x8.m.g.o).length), c23, C24, p25, ((x8.k).length), c27, C28, C32) ⟨eo0_0, rfl, o12, rfl, o16, rfl, o20, rfl, o24, rfl, o28, (by simp), o32⟩ ⟨rfl, rfl, rfl, rfl, rfl, trivial⟩ ⟨1, [8, 9, 10, 11, 12, 13, 14], rfl, rfl, 8, [9, 10, 11, 12, 13, 14], rfl, rfl, 9, [10, 11, 12, 13, 14], rfl, rfl, 10, [11, 12, 13, 14], rfl, rfl, 11, [12, 13, 14], rfl, rfl, 12, [13, 14], rfl, rfl, 13, [14], rfl, rfl, 14, [], rfl, rfl, trivial⟩ (by decide) ?_)
  rintro ⟨fuel, v33, v38, v43, v44, v49, v50, v51, v52, v53, v58, v59, v64, v66, p34, _, c36, C37, p39, _, c41, C42, p45, _, c47, C48, p54, _, c56, C57, p60, _, c62, C63, C65⟩ ⟨H1, rfl, o37, rfl, o42, rfl, o48, rfl, o57, rfl, o63, hl65, o65⟩
  have H1 : s_UsePages_L0 fl a1 fuel v33 v38 v43 v44 v49 v50 v51 v52 v53 v58 v59 v64 v66 = some o0_0 := H1
  rcases fuel with _ | fuel
  ·rw [s_UsePages_L0.eq_1] at H1; cases H1
  rw [s_UsePages_L0.eq_2] at H1
  dsimp only
  refine cw_seq (sr (oM rfl (oM rfl (oD (stp_len Tryz.underlying23 rfl) rfl (oW rfl (nn (cw_cond rfl (fun h67 => ?_) (fun h67 => ?_))))))))
  ·have H1 := cond_t H1 h67
   obtain ⟨x68, e68, H1⟩ := bS H1
   obtain ⟨x69, e69, H1⟩ := bS H1
   refine cw_skip (kw_nx (cw_seq (cw_block (cw_seq (rdt g_mixed [.n 0, .n 1, .n 2, .n 3, .n 4, .d 5, .d 11, .o 5, .n 6, .n 7, .n 8, .n 9, .n 10, .o 11, .n 12, .n 13, .n 14, .n 15] ⟨[[13],[],[],[],[],[8,9,10,11,12],[],[],[],[],[],[],[20]], [[],[],[],[],[],[15,16,17,18,19],[],[],[],[],[],[20],[20]], [5,11]⟩ (dB11 13 ts37 rfl (dM rfl (dM rfl (dD rfl (stp_indexAddr Tryz.underlying23 ts3 (by decide) rfl rfl rfl (Rdb.ro hr1_0) e68) (dD rfl (stp_load1 ts3 rfl (Cells.el (Rdb.ro hr1_0) (by decide) e68 0 1 rfl)) (dq rfl (fun hh => stpU_call (fun i => 15 + i) cf93 (fun w hw => c_s_UsePage fl w (⟨(⟨(⟨v33, v38⟩ : T), (⟨v44, v49⟩ : Ca), (⟨v50, v51, v52, v53⟩ : Tg), v58⟩ : Mc), v59, v43⟩ : Mm) x68 1 1 rfl (OwnC.pass (id := 8) (hh _ _ rfl) o37 hw) rfl (OwnC.pass (id := 9) (hh _ _ rfl) o42 hw) rfl (OwnC.pass (id := 10) (hh _ _ rfl) o48 hw) rfl (OwnC.pass (id := 11) (hh _ _ rfl) o57 hw) rfl (OwnC.pass (id := 12) (hh _ _ rfl) o63 hw) x69 e69) (yD rfl rfl rfl rfl)) (by rintro _ _ ⟨_, ⟨_, _, _, _, _, _, _, _, _, _, _, _, _, _, _, _, _, _, _, _, rfl, rfl, _, _, _, _, _, _, _, _, _, _⟩, rfl⟩; rfl) ?_)))))))))))
   refine dq rfl (fun hh => stpU_alloc 20 tz37 rfl) (by rintro _ _ ⟨_, rfl, rfl⟩; rfl) (dp rfl ?_)
   rintro _ _ ⟨_, ⟨p70, _, c72, C73, p74, _, c76, C77, p78, _, c80, C81, p82, _, c84, C85, p86, _, c88, C89, rfl, rfl, rfl, o73, rfl, o77, rfl, o81, rfl, o85, rfl, o89⟩, rfl⟩
   refine dM rfl (dT rfl (dT rfl (dT rfl (dT rfl (dp rfl ?_)))))
   rintro _ _ ⟨b90, rfl, rfl⟩
   refine dC11 20 ts37 rfl rfl rfl (dS rfl (dS rfl (dS rfl (dn (kw_nx (cw_seq (sr (oM rfl (oK rfl (nn (cw_cond rfl (fun h91 => ?_) (fun h91 => ?_))))))))))))
   ·have H1 := cond_t H1 h91
    refine sr (oD (stp_build (cs := #[.slice none 0 0, .slice none 0 0, .slice none 0 0, .int .i64 0, .int .i64 0, .int .i64 0, .int .i64 0, .slice none 0 0, .int .i64 0, .slice none 0 0, .int .i64 0]) sevp_nil bt37_19) rfl (oE (stpU_lit0 sl23 21) rfl ?_))
    rintro _ _ ⟨p92, C93, rfl, rfl, o93⟩
    refine oC11 1 ts37 rfl rfl (oS rfl (oS rfl (nn (cw_ret (kw_nx_ret (kw_bl_ret (kw_nx_ret (kw_lq_ret (kw_bl_ret (kw_join_ret (kw_nx_ret (kw_addNil 22 (kw_addNil 23 ?_)))))))))))))
    refine kw_addNil 24 (kw_addNil 25 (kw_addNil 26 ?_))
    obtain rfl := sI H1
    obtain rfl := sI H0
    exact kr Tryz.results59 (.cons (.cellN (us := [_, _, _, _, _, _, _, _, _, _, _]) ts37 rfl (Cells.box (id := 1) rfl 11 rfl)) (.cons (.tmp rfl) (rT rfl))) [22, 23, 24, 25, 26, 21] ⟨_, _, _, _, _, _, _, _, _, _, _, _, _, _, _, _, _, _, _, _, _, _, _, _, rfl, rfl, rfl, (OwnC.nil _ _), rfl, (OwnC.nil _ _), rfl, (OwnC.nil _ _), rfl, (OwnC.nil _ _), rfl, (OwnC.nil _ _), (by simp), o93⟩
   have H1 := cond_f H1 h91
   obtain ⟨x94, e94, H1⟩ := bS H1
   obtain ⟨x95, e95, H1⟩ := bS H1
   refine cw_skip (kw_nx (sr (oB11 20 ts37 rfl (oC11 13 ts37 rfl rfl (nn (cw_region (oM rfl (oM rfl (oM rfl (oM rfl (oD (stp_indexAddr Tryz.underlying23 ts3 (by decide) rfl (by simp [hl65]) rfl (Rdb.own (id := 14) rfl o65) e94) rfl (oD (stp_load1 ts3 rfl (Cells.el (Rdb.own (id := 14) rfl o65) (by decide) e94 0 1 rfl)) rfl (oP e95 rfl ?_)))))))))))))
   refine oD (stp_indexAddr Tryz.underlying23 ts3 (by decide) rfl (by simp [hl65]) rfl (Rdb.own (id := 14) rfl o65) e94) rfl (oF (stpU_storeEl (id := 14) (i := 0) x95 (by decide) ts3 rfl rfl rfl o65 e94 rfl rfl rfl rfl) ?_)
   rintro _ _ ⟨C96, rfl, o96⟩
   obtain ⟨x97, e97, H1⟩ := bS H1
   exact ow_nil (kw_bl_normal (kw_nx (cw_region (oM rfl (oP e97 rfl (oS rfl (ow_nil (kw_lqS (js := [1, 15, 16, 17, 18, 19, 13, 14]) (fuel, x69.1.m.t.b, x69.1.m.t.f, x69.1.h, x69.1.m.c.l, x69.1.m.c.h, x69.1.m.g.c, x69.1.m.g.n, x69.1.m.g.r, x69.1.m.g.o, x69.1.m.s, x69.1.k, (v64.set (Int.toNat x69.2.2.1) x95), x97, p70, ((x69.1.m.t.b).length), c72, C73, p74, ((x69.1.m.t.f).length), c76, C77, p78, ((x69.1.m.c.l).length), c80, C81, p82, ((x69.1.m.g.o).length), c84, C85, p86, ((x69.1.k).length), c88, C89, C96) ⟨H1, rfl, o73, rfl, o77, rfl, o81, rfl, o85, rfl, o89, (by simp [hl65]), o96⟩ (Nat.lt_succ_self _) ⟨rfl, rfl, rfl, rfl, rfl, trivial⟩ ⟨1, [15, 16, 17, 18, 19, 13, 14], rfl, rfl, 15, [16, 17, 18, 19, 13, 14], rfl, rfl, 16, [17, 18, 19, 13, 14], rfl, rfl, 17, [18, 19, 13, 14], rfl, rfl, 18, [19, 13, 14], rfl, rfl, 19, [13, 14], rfl, rfl, 13, [14], rfl, rfl, 14, [], rfl, rfl, trivial⟩ (by decide)))))))))
  have H1 := cond_f H1 h67
  refine cw_exit (kw_nx_exit (kw_lq_exit (kw_bl ?_)))
  obtain rfl := sI H1
  exact kw_joinS (js := [1, 8, 9, 10, 11, 12, 13, 14]) (v33, v38, v43, v44, v49, v50, v51, v52, v53, v58, v59, v64, v66, p34, ((v33).length), c36, C37, p39, ((v38).length), c41, C42, p45, ((v44).length), c47, C48, p54, ((v53).length), c56, C57, p60, ((v59).length), c62, C63, C65) ⟨rfl, rfl, o37, rfl, o42, rfl, o48, rfl, o57, rfl, o63, (by simp [hl65]), o65⟩ ⟨rfl, rfl, rfl, rfl, rfl, trivial⟩ ⟨1, [8, 9, 10, 11, 12, 13, 14], rfl, rfl, 8, [9, 10, 11, 12, 13, 14], rfl, rfl, 9, [10, 11, 12, 13, 14], rfl, rfl, 10, [11, 12, 13, 14], rfl, rfl, 11, [12, 13, 14], rfl, rfl, 12, [13, 14], rfl, rfl, 13, [14], rfl, rfl, 14, [], rfl, rfl, trivial⟩ (by decide)
 rintro ⟨v33, v38, v43, v44, v49, v50, v51, v52, v53, v58, v59, v64, v66, p34, _, c36, C37, p39, _, c41, C42, p45, _, c47, C48, p54, _, c56, C57, p60, _, c62, C63, C65⟩ ⟨rfl, rfl, o37, rfl, o42, rfl, o48, rfl, o57, rfl, o63, hl65, o65⟩
 dsimp only
 refine kw_nx (sr (oB11 13 ts37 rfl (oM rfl (oC11 1 ts37 rfl rfl (oS rfl (oS rfl (nn (cw_ret ?_))))))))
 obtain rfl := sI H0
 exact kr Tryz.results59 (.cons (.cellN (us := [_, _, _, _, _, _, _, _, _, _, _]) ts37 rfl (Cells.box (id := 1) rfl 11 rfl)) (.cons (.tmp rfl) (rT rfl))) [8, 9, 10, 11, 12, 14] ⟨_, _, _, _, _, _, _, _, _, _, _, _, _, _, _, _, _, _, _, _, _, _, _, _, rfl, rfl, rfl, o37, rfl, o42, rfl, o48, rfl, o57, rfl, o63, (by simp [hl65]), o65⟩

theorem c_s_ClearMarks (fl : Nat) (w : World) (a0 : Mm) (hn0_0 : n0_0 = (a0.m.t.b).length) (hr0_0 : RO w (hkeys []) (RdL p0_0 c0_0 a0.m.t.b)) (hn0_1 : n0_1 = (a0.m.t.f).length) (hr0_1 : RO w (hkeys []) (RdL p0_1 c0_1 a0.m.t.f)) (hn0_2 : n0_2 = (a0.m.c.l).length) (hr0_2 : RO w (hkeys []) (RdL p0_2 c0_2 a0.m.c.l)) (hn0_3 : n0_3 = (a0.m.g.o).length) (hr0_3 : RO w (hkeys []) (RdL p0_3 c0_3 a0.m.g.o)) (hn0_4 : n0_4 = (a0.k).length) (hr0_4 : RO w (hkeys []) (RdL p0_4 c0_4 a0.k)) (r : Mm × Bool) (H0 : s_ClearMarks fl a0 = some r) :
  Ct Tryz.prog 8 [.agg #[.slice p0_0 n0_0 c0_0, .slice p0_1 n0_1 c0_1, .slice p0_2 n0_2 c0_2, .int .i64 a0.m.c.h, .int .i64 a0.m.g.c, .int .i64 a0.m.g.n, .int .i64 a0.m.g.r, .slice p0_3 n0_3 c0_3, .int .i64 a0.m.s, .slice p0_4 n0_4 c0_4, .int .i64 a0.h]] w [] (fun rv h' => ∃ (x0 : Option Addr) (y0 z0 : Nat) (C0 : Res) (x1 : Option Addr) (y1 z1 : Nat) (C1 : Res) (x2 : Option Addr) (y2 z2 : Nat) (C2 : Res) (x3 : Option Addr) (y3 z3 : Nat) (C3 : Res) (x4 : Option Addr) (y4 z4 : Nat) (C4 : Res), rv = .tuple #[.agg #[.slice x0 y0 z0, .slice x1 y1 z1, .slice x2 y2 z2, .int .i64 r.1.m.c.h, .int .i64 r.1.m.g.c, .int .i64 r.1.m.g.n, .int .i64 r.1.m.g.r, .slice x3 y3 z3, .int .i64 r.1.m.s, .slice x4 y4 z4, .int .i64 r.1.h], .bool r.2] ∧ h' = [(0, C0), (1, C1), (2, C2), (3, C3), (4, C4)] ∧ y0 = (r.1.m.t.b).length ∧ OwnC 3 x0 z0 r.1.m.t.b C0 ∧ y1 = (r.1.m.t.f).length ∧ OwnC 51 x1 z1 r.1.m.t.f C1 ∧ y2 = (r.1.m.c.l).length ∧ OwnC 47 x2 z2 r.1.m.c.l C2 ∧ y3 = (r.1.m.g.o).length ∧ OwnC 89 x3 z3 r.1.m.g.o C3 ∧ y4 = (r.1.k).length ∧ OwnC 4 x4 z4 r.1.k C4) := by
 subst hn0_0 hn0_1 hn0_2 hn0_3 hn0_4
 unfold s_ClearMarks at H0
 refine ct_of_cw Tryz.func8 rfl Tryz.ntmps8 rfl (Sat.refl _ _) ?_
 refine sr (oE (stpU_box 0 rfl rfl) rfl ?_)
 rintro _ _ ⟨b1, rfl, rfl⟩
 refine oE (stpU_alloc 1 tz37 rfl) rfl ?_
 rintro _ _ ⟨b2, rfl, rfl⟩
 obtain ⟨x3, e3, H0⟩ := bS H0
 refine oS rfl (nn (cw_seq (sr (oB11 0 ts37 rfl (oE (stpU_call (fun i => 2 + i) cf11 (fun w hw => c_s_MemoryValid fl w a0 rfl (RO.pass hr0_0 hw) rfl (RO.pass hr0_1 hw) rfl (RO.pass hr0_2 hw) rfl (RO.pass hr0_3 hw) rfl (RO.pass hr0_4 hw) x3 e3) (yA rfl)) rfl ?_)))))
 rintro _ _ ⟨_, ⟨rfl, rfl⟩, rfl⟩
 refine oK rfl (nn (cw_cond rfl (fun h4 => ?_) (fun h4 => ?_)))
 ·have H0 := cond_t H0 h4
  refine sr (oD (stp_build (cs := #[.slice none 0 0, .slice none 0 0, .slice none 0 0, .int .i64 0, .int .i64 0, .int .i64 0, .int .i64 0, .slice none 0 0, .int .i64 0, .slice none 0 0, .int .i64 0]) sevp_nil bt37_19) rfl (oC11 1 ts37 rfl rfl (oS rfl (nn (cw_ret (kw_nx_ret (kw_addNil 2 (kw_addNil 3 (kw_addNil 4 (kw_addNil 5 (kw_addNil 6 ?_)))))))))))
  obtain rfl := sI H0
  exact kr Tryz.results8 (.cons (.cellN (us := [_, _, _, _, _, _, _, _, _, _, _]) ts37 rfl (Cells.box (id := 1) rfl 11 rfl)) (rT rfl)) [2, 3, 4, 5, 6] ⟨_, _, _, _, _, _, _, _, _, _, _, _, _, _, _, _, _, _, _, _, rfl, rfl, rfl, (OwnC.nil _ _), rfl, (OwnC.nil _ _), rfl, (OwnC.nil _ _), rfl, (OwnC.nil _ _), rfl, (OwnC.nil _ _)⟩
 have H0 := cond_f H0 h4
 obtain ⟨x5, e5, H0⟩ := bS H0
 refine cw_skip (kw_nx (sr (oB11 0 ts37 rfl (oE (stpU_call (fun i => 7 + i) cf18 (fun w hw => c_s_l7Copy fl w a0 rfl (RO.pass hr0_0 hw) rfl (RO.pass hr0_1 hw) rfl (RO.pass hr0_2 hw) rfl (RO.pass hr0_3 hw) rfl (RO.pass hr0_4 hw) x5 e5) (yA rfl)) rfl ?_))))
 rintro _ _ ⟨_, ⟨p6, _, c8, C9, p10, _, c12, C13, p14, _, c16, C17, p18, _, c20, C21, p22, _, c24, C25, rfl, rfl, rfl, o9, rfl, o13, rfl, o17, rfl, o21, rfl, o25⟩, rfl⟩
 refine oE (stpU_alloc 12 tz37 rfl) rfl ?_
 rintro _ _ ⟨b26, rfl, rfl⟩
 obtain ⟨x27, e27, H0⟩ := bS H0
 refine oC11 12 ts37 rfl rfl (nn (sr (oA 9 Tryz.underlying37 rfl ts35 rfl (oL 0 ts35 rfl (oD (stp_len Tryz.underlying35 rfl) rfl (oE (stpU_make sl35 rfl 13 rfl rfl e27) rfl ?_))))))
 rintro _ _ ⟨p28, C29, rfl, rfl, o29⟩
 refine oA 9 Tryz.underlying37 rfl ts35 rfl (oC11 12 ts35 rfl rfl (nn (sr (oB11 12 ts37 rfl (oC11 1 ts37 rfl rfl (oS rfl (nn (cw_ret ?_))))))))
 obtain rfl := sI H0
 exact kr Tryz.results8 (.cons (.cellN (us := [_, _, _, _, _, _, _, _, _, _, _]) ts37 rfl (Cells.box (id := 1) rfl 11 rfl)) (rT rfl)) [7, 8, 9, 10, 13] ⟨_, _, _, _, _, _, _, _, _, _, _, _, _, _, _, _, _, _, _, _, rfl, rfl, rfl, o9, rfl, o13, rfl, o17, rfl, o21, (by simp), o29⟩

theorem c_s_l7Draw (fl : Nat) (w : World) (m0 : Nat) (a0_0 : (List UInt8)) (a0_1 : Int) (hn0_0_0 : n0_0_0 = (a0_0).length) (hr0_0_0 : RO w (hkeys [(0, [(m0, .cells #[.slice p0_0_0 n0_0_0 c0_0_0, .int .i64 a0_1] 91 (0, 0))])]) (RdL p0_0_0 c0_0_0 a0_0)) (hM : Sat w (hkeys [(0, [(m0, .cells #[.slice p0_0_0 n0_0_0 c0_0_0, .int .i64 a0_1] 91 (0, 0))])]) w [(0, [(m0, .cells #[.slice p0_0_0 n0_0_0 c0_0_0, .int .i64 a0_1] 91 (0, 0))])]) (r : Mm × Int) (H0 : s_l7Draw fl a0_0 a0_1 = some r) :
  Ct Tryz.prog 31 [.pointer (some ⟨m0, 0, none⟩)] w [(0, [(m0, .cells #[.slice p0_0_0 n0_0_0 c0_0_0, .int .i64 a0_1] 91 (0, 0))])] (fun rv h' => ∃ (x1 : Option Addr) (y1 z1 : Nat) (C1 : Res) (x2 : Option Addr) (y2 z2 : Nat) (C2 : Res) (x3 : Option Addr) (y3 z3 : Nat) (C3 : Res) (x4 : Option Addr) (y4 z4 : Nat) (C4 : Res) (x5 : Option Addr) (y5 z5 : Nat) (C5 : Res), rv = .agg #[.slice x1 y1 z1, .slice x2 y2 z2, .slice x3 y3 z3, .int .i64 r.1.m.c.h, .int .i64 r.1.m.g.c, .int .i64 r.1.m.g.n, .int .i64 r.1.m.g.r, .slice x4 y4 z4, .int .i64 r.1.m.s, .slice x5 y5 z5, .int .i64 r.1.h] ∧ h' = [(0, [(m0, .cells #[.slice p0_0_0 n0_0_0 c0_0_0, .int .i64 r.2] 91 (0, 0))]), (1, C1), (2, C2), (3, C3), (4, C4), (5, C5)] ∧ y1 = (r.1.m.t.b).length ∧ OwnC 3 x1 z1 r.1.m.t.b C1 ∧ y2 = (r.1.m.t.f).length ∧ OwnC 51 x2 z2 r.1.m.t.f C2 ∧ y3 = (r.1.m.c.l).length ∧ OwnC 47 x3 z3 r.1.m.c.l C3 ∧ y4 = (r.1.m.g.o).length ∧ OwnC 89 x4 z4 r.1.m.g.o C4 ∧ y5 = (r.1.k).length ∧ OwnC 4 x5 z5 r.1.k C5) := by
 subst hn0_0_0
 unfold s_l7Draw at H0
 refine ct_of_cw Tryz.func31 rfl Tryz.ntmps31 rfl hM ?_
 refine sr (oE (stpU_alloc 1 tz37 rfl) rfl ?_)
 rintro _ _ ⟨b1, rfl, rfl⟩
 obtain ⟨x2, e2, H0⟩ := bS H0
 refine nn (sr (oM rfl (oE (stpU_callM (fun i => bif Nat.beq i 0 then 0 else 2 + i) cf58 (fun w hw hb => c_s_l6Draw fl w m0 a0_0 a0_1 rfl (RO.passM hr0_0_0 hw hb) (hw.pass (js := [0]) ⟨0, [], rfl, rfl, trivial⟩ (by decide)) x2 e2) (yA rfl) ⟨rfl, (fun _ _ hp => by obtain ⟨_, _, _, _, _, _, _, _, _, _, _, _, _, _, _, _, _, rfl, _⟩ := hp; exact ⟨_, rfl⟩), trivial⟩) rfl ?_)))
 rintro _ _ ⟨_, ⟨p3, _, c5, C6, p7, _, c9, C10, p11, _, c13, C14, p15, _, c17, C18, rfl, rfl, rfl, o6, rfl, o10, rfl, o14, rfl, o18⟩, rfl⟩
 obtain ⟨x19, e19, H0⟩ := bS H0
 refine oE (stpU_call (fun i => 7 + i) cf57 (fun w hw => c_s_NewMemory fl w x2.1 rfl (OwnC.pass (id := 3) rfl o6 hw) rfl (OwnC.pass (id := 4) rfl o10 hw) rfl (OwnC.pass (id := 5) rfl o14 hw) rfl (OwnC.pass (id := 6) rfl o18 hw) x19 e19) (yA rfl)) rfl ?_
 rintro _ _ ⟨_, ⟨p20, _, c22, C23, p24, _, c26, C27, p28, _, c30, C31, p32, _, c34, C35, p36, _, c38, C39, rfl, rfl, rfl, o23, rfl, o27, rfl, o31, rfl, o35, rfl, o39⟩, rfl⟩
 refine oM rfl (oT rfl (oT rfl (oE (stpU_alloc 12 tz37 rfl) rfl ?_)))
 rintro _ _ ⟨b40, rfl, rfl⟩
 obtain ⟨x41, e41, H0⟩ := bS H0
 refine oC11 12 ts37 rfl rfl (oS rfl (nn (cw_seq (rdt g_mixed [.n 0, .n 1, .d 2, .d 8, .o 2, .n 3, .n 4, .n 5, .n 6, .n 7, .o 8, .n 9, .n 10, .n 11] ⟨[[12],[],[0],[7,8,9,10,11,14],[],[],[],[],[],[15]], [[],[],[0,14],[16,17,18,19,20,21],[],[],[],[],[15],[15]], [2,3,8]⟩ (dB11 12 ts37 rfl (dM rfl (dq rfl (fun hh => stpU_callM (fun i => bif Nat.beq i 0 then 0 else 13 + i) cf60 (fun w hw hb => c_s_l7Pages fl w m0 a0_0 x2.2 rfl (RO.passM hr0_0_0 hw hb) (hw.pass (js := [0]) ⟨0, [], rfl, (hh _ _ rfl), trivial⟩ (by decide)) x41 e41) (yA rfl) ⟨(hh _ _ rfl), (fun _ _ hp => by obtain ⟨_, _, _, _, _, rfl, _⟩ := hp; exact ⟨_, rfl⟩), trivial⟩) (by rintro _ _ ⟨_, ⟨_, _, _, _, rfl, rfl, _, _⟩, rfl⟩; rfl) (dq rfl (fun hh => stpU_alloc 15 tz37 rfl) (by rintro _ _ ⟨_, rfl, rfl⟩; rfl) (dp rfl ?_)))))))))
 rintro _ _ ⟨_, ⟨p42, _, c44, C45, rfl, rfl, rfl, o45⟩, rfl⟩
 obtain ⟨x47, e47, H0⟩ := bS H0
 refine dE rfl (fun hh => stpU_call (fun i => 16 + i) cf59 (fun w hw => c_s_UsePages fl w x19.1 x41.1 rfl (OwnC.pass (id := 7) (hh _ _ rfl) o23 hw) rfl (OwnC.pass (id := 8) (hh _ _ rfl) o27 hw) rfl (OwnC.pass (id := 9) (hh _ _ rfl) o31 hw) rfl (OwnC.pass (id := 10) (hh _ _ rfl) o35 hw) rfl (OwnC.pass (id := 11) (hh _ _ rfl) o39 hw) rfl (OwnC.pass (id := 14) (hh _ _ rfl) o45 hw) x47 e47) (yB rfl rfl)) ?_
 rintro _ _ ⟨_, ⟨p48, _, c50, C51, p52, _, c54, C55, p56, _, c58, C59, p60, _, c62, C63, p64, _, c66, C67, p68, _, c70, C71, rfl, rfl, rfl, o51, rfl, o55, rfl, o59, rfl, o63, rfl, o67, rfl, o71⟩, rfl⟩
 refine dk rfl (dM rfl (dT rfl (dT rfl (dT rfl (dp rfl ?_)))))
 rintro _ _ ⟨b46, rfl, rfl⟩
 refine dC11 15 ts37 rfl rfl rfl (dS rfl (dS rfl (dn (kw_nx (cw_seq (sr (oM rfl (nn (cw_cond rfl (fun h72 => ?_) (fun h72 => ?_))))))))))
 ·have H0 := cond_t H0 h72
  obtain ⟨x73, e73, H0⟩ := bS H0
  refine cw_region (oB11 15 ts37 rfl (oC11 12 ts37 rfl rfl (nn (cw_seq (sr (oM rfl (oE (stpU_callM (fun i => bif Nat.beq i 0 then 0 else 22 + i) cf54 (fun w hw hb => c_s_l12Rd_pick fl w m0 a0_0 x41.2 3 rfl (RO.passM hr0_0_0 hw hb) (hw.pass (js := [0]) ⟨0, [], rfl, rfl, trivial⟩ (by decide)) x73 e73) (yB rfl rfl) ⟨rfl, (fun _ _ hp => by obtain ⟨_, rfl⟩ := hp; exact ⟨_, rfl⟩), trivial⟩) rfl ?_)))))))
  rintro _ _ ⟨_, ⟨rfl, rfl⟩, rfl⟩
  refine oQ rfl (nn (cw_cond rfl (fun h74 => ?_) (fun h74 => ?_)))
  ·have H0 := cond_t H0 h74
   obtain ⟨x75, e75, H0⟩ := bS H0
   refine cw_region (oB11 12 ts37 rfl (oE (stpU_call (fun i => 23 + i) cf8 (fun w hw => c_s_ClearMarks fl w x47.1 rfl (OwnC.pass (id := 16) rfl o51 hw) rfl (OwnC.pass (id := 17) rfl o55 hw) rfl (OwnC.pass (id := 18) rfl o59 hw) rfl (OwnC.pass (id := 19) rfl o63 hw) rfl (OwnC.pass (id := 20) rfl o67 hw) x75 e75) (yA rfl)) rfl ?_))
   rintro _ _ ⟨_, ⟨p76, _, c78, C79, p80, _, c82, C83, p84, _, c86, C87, p88, _, c90, C91, p92, _, c94, C95, rfl, rfl, rfl, o79, rfl, o83, rfl, o87, rfl, o91, rfl, o95⟩, rfl⟩
   refine oM rfl (oT rfl (oT rfl (oC11 12 ts37 rfl rfl (nn (sr (oB11 12 ts37 rfl (oC11 1 ts37 rfl rfl (nn (cw_ret ?_)))))))))
   obtain rfl := sI H0
   exact kr Tryz.results31 (rC11 1 ts37 rfl rfl) [0, 23, 24, 25, 26, 27] ⟨_, _, _, _, _, _, _, _, _, _, _, _, _, _, _, _, _, _, _, _, rfl, rfl, rfl, o79, rfl, o83, rfl, o87, rfl, o91, rfl, o95⟩
  have H0 := cond_f H0 h74
  refine cw_skip (kw_nx (sr (oB11 12 ts37 rfl (oC11 1 ts37 rfl rfl (nn (cw_ret ?_))))))
  obtain rfl := sI H0
  exact kr Tryz.results31 (rC11 1 ts37 rfl rfl) [0, 16, 17, 18, 19, 20] ⟨_, _, _, _, _, _, _, _, _, _, _, _, _, _, _, _, _, _, _, _, rfl, rfl, rfl, o51, rfl, o55, rfl, o59, rfl, o63, rfl, o67⟩
 have H0 := cond_f H0 h72
 obtain ⟨x96, e96, H0⟩ := bS H0
 refine cw_skip (kw_nx (cw_seq (sr (oM rfl (oE (stpU_callM (fun i => bif Nat.beq i 0 then 0 else 28 + i) cf54 (fun w hw hb => c_s_l12Rd_pick fl w m0 a0_0 x41.2 3 rfl (RO.passM hr0_0_0 hw hb) (hw.pass (js := [0]) ⟨0, [], rfl, rfl, trivial⟩ (by decide)) x96 e96) (yB rfl rfl) ⟨rfl, (fun _ _ hp => by obtain ⟨_, rfl⟩ := hp; exact ⟨_, rfl⟩), trivial⟩) rfl ?_)))))
 rintro _ _ ⟨_, ⟨rfl, rfl⟩, rfl⟩
 refine oQ rfl (nn (cw_cond rfl (fun h97 => ?_) (fun h97 => ?_)))
 ·have H0 := cond_t H0 h97
  obtain ⟨x98, e98, H0⟩ := bS H0
  refine cw_region (oB11 12 ts37 rfl (oE (stpU_call (fun i => 29 + i) cf8 (fun w hw => c_s_ClearMarks fl w x19.1 rfl (OwnC.pass (id := 7) rfl o23 hw) rfl (OwnC.pass (id := 8) rfl o27 hw) rfl (OwnC.pass (id := 9) rfl o31 hw) rfl (OwnC.pass (id := 10) rfl o35 hw) rfl (OwnC.pass (id := 11) rfl o39 hw) x98 e98) (yA rfl)) rfl ?_))
  rintro _ _ ⟨_, ⟨p99, _, c101, C102, p103, _, c105, C106, p107, _, c109, C110, p111, _, c113, C114, p115, _, c117, C118, rfl, rfl, rfl, o102, rfl, o106, rfl, o110, rfl, o114, rfl, o118⟩, rfl⟩
  refine oM rfl (oT rfl (oT rfl (oC11 12 ts37 rfl rfl (nn (sr (oB11 12 ts37 rfl (oC11 1 ts37 rfl rfl (nn (cw_ret ?_)))))))))
  obtain rfl := sI H0
  exact kr Tryz.results31 (rC11 1 ts37 rfl rfl) [0, 29, 30, 31, 32, 33] ⟨_, _, _, _, _, _, _, _, _, _, _, _, _, _, _, _, _, _, _, _, rfl, rfl, rfl, o102, rfl, o106, rfl, o110, rfl, o114, rfl, o118⟩
 have H0 := cond_f H0 h97
 refine cw_skip (kw_nx (sr (oB11 12 ts37 rfl (oC11 1 ts37 rfl rfl (nn (cw_ret ?_))))))
 obtain rfl := sI H0
 exact kr Tryz.results31 (rC11 1 ts37 rfl rfl) [0, 7, 8, 9, 10, 11] ⟨_, _, _, _, _, _, _, _, _, _, _, _, _, _, _, _, _, _, _, _, rfl, rfl, rfl, o23, rfl, o27, rfl, o31, rfl, o35, rfl, o39⟩

theorem c_s_l4Wrong (fl : Nat) (w : World) (m0 : Nat) (a0_0 : (List UInt8)) (a0_1 : Int) (a1 : Ca) (hn0_0_0 : n0_0_0 = (a0_0).length) (hr0_0_0 : RO w (hkeys [(0, [(m0, .cells #[.slice p0_0_0 n0_0_0 c0_0_0, .int .i64 a0_1] 91 (0, 0))])]) (RdL p0_0_0 c0_0_0 a0_0)) (hn1_0 : n1_0 = (a1.l).length) (hr1_0 : RO w (hkeys [(0, [(m0, .cells #[.slice p0_0_0 n0_0_0 c0_0_0, .int .i64 a0_1] 91 (0, 0))])]) (RdL p1_0 c1_0 a1.l)) (hM : Sat w (hkeys [(0, [(m0, .cells #[.slice p0_0_0 n0_0_0 c0_0_0, .int .i64 a0_1] 91 (0, 0))])]) w [(0, [(m0, .cells #[.slice p0_0_0 n0_0_0 c0_0_0, .int .i64 a0_1] 91 (0, 0))])]) (r : Ca × Int) (H0 : s_l4Wrong fl a0_0 a0_1 a1 = some r) :
  Ct Tryz.prog 88 [.pointer (some ⟨m0, 0, none⟩), .agg #[.slice p1_0 n1_0 c1_0, .int .i64 a1.h]] w [(0, [(m0, .cells #[.slice p0_0_0 n0_0_0 c0_0_0, .int .i64 a0_1] 91 (0, 0))])] (fun rv h' => ∃ (x1 : Option Addr) (y1 z1 : Nat) (C1 : Res), rv = .agg #[.slice x1 y1 z1, .int .i64 r.1.h] ∧ h' = [(0, [(m0, .cells #[.slice p0_0_0 n0_0_0 c0_0_0, .int .i64 r.2] 91 (0, 0))]), (1, C1)] ∧ y1 = (r.1.l).length ∧ OwnC 47 x1 z1 r.1.l C1) := by
 subst hn0_0_0 hn1_0
 unfold s_l4Wrong at H0
 refine ct_of_cw Tryz.func88 rfl Tryz.ntmps88 rfl hM ?_
 refine sr (oE (stpU_box 1 rfl rfl) rfl ?_)
 rintro _ _ ⟨b1, rfl, rfl⟩
 refine oE (stpU_alloc 2 tz29 rfl) rfl ?_
 rintro _ _ ⟨b2, rfl, rfl⟩
 obtain ⟨x3, e3, H0⟩ := bS H0
 refine nn (sr (oB2 1 ts29 rfl (oE (stpU_call (fun i => 3 + i) cf67 (fun w hw => c_s_l4Copy fl w a1 rfl (RO.pass hr1_0 hw) x3 e3) (yA rfl)) rfl ?_)))
 rintro _ _ ⟨_, ⟨p4, _, c6, C7, rfl, rfl, rfl, o7⟩, rfl⟩
 refine oE (stpU_alloc 4 tz29 rfl) rfl ?_
 rintro _ _ ⟨b8, rfl, rfl⟩
 refine oC2 4 ts29 rfl rfl (nn (cw_seq (sr (oA 0 Tryz.underlying29 rfl ts27 rfl (oL 4 ts27 rfl (oD (stp_len Tryz.underlying27 rfl) rfl (oQ rfl (nn (cw_cond rfl (fun h9 => ?_) (fun h9 => ?_))))))))))
 ·have H0 := cond_t H0 h9
  refine sr (oB2 4 ts29 rfl (oC2 2 ts29 rfl rfl (nn (cw_ret (kw_nx_ret ?_)))))
  obtain rfl := sI H0
  exact kr Tryz.results88 (rC2 2 ts29 rfl rfl) [0, 3] ⟨_, _, _, _, rfl, rfl, rfl, o7⟩
 have H0 := cond_f H0 h9
 obtain ⟨x10, e10, H0⟩ := bS H0
 refine cw_skip (kw_nx (sr (oM rfl (oA 0 Tryz.underlying29 rfl ts27 rfl (oL 4 ts27 rfl (oD (stp_len Tryz.underlying27 rfl) rfl (oE (stpU_callM (fun i => bif Nat.beq i 0 then 0 else 5 + i) cf54 (fun w hw hb => c_s_l12Rd_pick fl w m0 a0_0 a0_1 ((x3.l).length : Int) rfl (RO.passM hr0_0_0 hw hb) (hw.pass (js := [0]) ⟨0, [], rfl, rfl, trivial⟩ (by decide)) x10 e10) (yB rfl rfl) ⟨rfl, (fun _ _ hp => by obtain ⟨_, rfl⟩ := hp; exact ⟨_, rfl⟩), trivial⟩) rfl ?_)))))))
 rintro _ _ ⟨_, ⟨rfl, rfl⟩, rfl⟩
 obtain ⟨x11, e11, H0⟩ := bS H0
 refine oS rfl (nn (cw_seq (sr (oM rfl (oE (stpU_callM (fun i => bif Nat.beq i 0 then 0 else 6 + i) cf54 (fun w hw hb => c_s_l12Rd_pick fl w m0 a0_0 x10.2 24 rfl (RO.passM hr0_0_0 hw hb) (hw.pass (js := [0]) ⟨0, [], rfl, rfl, trivial⟩ (by decide)) x11 e11) (yB rfl rfl) ⟨rfl, (fun _ _ hp => by obtain ⟨_, rfl⟩ := hp; exact ⟨_, rfl⟩), trivial⟩) rfl ?_)))))
 rintro _ _ ⟨_, ⟨rfl, rfl⟩, rfl⟩
 refine nn (cw_block (sr (oQ rfl (oS rfl (nn (cw_cond rfl (fun h12 => ?_) (fun h12 => ?_)))))))
 ·have H0 := cond_t H0 h12
  refine cw_region (oM rfl (oE (stpU_lit (sz := 1) (l := [(-1), 8, 0]) [.int .i64 (-1), .int .i64 8, .int .i64 0] sl23 7 (sevp_cons rfl (sevp_cons rfl (sevp_cons rfl sevp_nil))) rfl rfl rfl rfl rfl rfl rfl rfl rfl) rfl ?_))
  rintro _ _ ⟨p13, C14, rfl, rfl, o14⟩
  obtain ⟨x15, e15, H0⟩ := bS H0
  refine oE (stpU_callM (fun i => bif Nat.beq i 0 then 0 else 8 + i) cf55 (fun w hw hb => c_s_l12Rd_num fl w m0 a0_0 x11.2 ([(-1), 8, 0]) rfl (RO.passM hr0_0_0 hw hb) (by simp) (OwnC.passM (id := 7) rfl o14 hw hb ⟨rfl, trivial⟩) (hw.pass (js := [0]) ⟨0, [], rfl, rfl, trivial⟩ (by decide)) x15 e15) (yB rfl rfl) ⟨rfl, (fun _ _ hp => by obtain ⟨_, rfl⟩ := hp; exact ⟨_, rfl⟩), trivial⟩) rfl ?_
  rintro _ _ ⟨_, ⟨rfl, rfl⟩, rfl⟩
  refine oA 1 Tryz.underlying29 rfl ts3 rfl (oC2 4 ts3 rfl rfl (ow_nil (kw_bl_normal (kw_nx (sr (oB2 4 ts29 rfl (oC2 2 ts29 rfl rfl (nn (cw_ret ?_)))))))))
  obtain rfl := sI H0
  exact kr Tryz.results88 (rC2 2 ts29 rfl rfl) [0, 3] ⟨_, _, _, _, rfl, rfl, rfl, o7⟩
 have H0 := cond_f H0 h12
 refine sr (oQ rfl (oS rfl (nn (cw_cond rfl (fun h16 => ?_) (fun h16 => ?_)))))
 ·have H0 := cond_t H0 h16
  obtain ⟨x17, e17, H0⟩ := bS H0
  refine rdt g_mixed (rn 0 13) ⟨[[],[4],[],[],[4],[],[3],[],[3],[],[3],[],[3]], [[],[],[],[],[],[],[],[],[],[],[],[],[3]], [12]⟩ (dA 0 rfl Tryz.underlying29 rfl ts27 rfl (dL 4 ts27 rfl (dM rfl (dA 0 rfl Tryz.underlying29 rfl ts27 rfl (dL 4 ts27 rfl (dM rfl (dD rfl (stp_indexAddr Tryz.underlying27 ts47 (by decide) rfl rfl rfl (Rdb.own (id := 3) rfl o7) e17) (dA 0 rfl Tryz.underlying47 rfl ts4 rfl (dD rfl (stp_load1 ts4 rfl (Cells.el (Rdb.own (id := 3) rfl o7) (by decide) e17 0 1 rfl)) (dK rfl (dD rfl (stp_indexAddr Tryz.underlying27 ts47 (by decide) rfl rfl rfl (Rdb.own (id := 3) rfl o7) e17) (dA 0 rfl Tryz.underlying47 rfl ts4 rfl (dF rfl (fun hh => stpU_storeEl (id := 3) (i := 0) (⟨(!x17.va), x17.tg, x17.pg, x17.fr, x17.ri, x17.wi⟩ : Ln) (by decide) ts4 rfl rfl (hh _ _ rfl) o7 e17 rfl rfl rfl rfl) ?_)))))))))))))
  rintro _ _ ⟨C18, rfl, o18⟩
  refine dk rfl (dn (kw_bl_normal (kw_nx (sr (oB2 4 ts29 rfl (oC2 2 ts29 rfl rfl (nn (cw_ret ?_))))))))
  obtain rfl := sI H0
  exact kr Tryz.results88 (rC2 2 ts29 rfl rfl) [0, 3] ⟨_, _, _, _, rfl, rfl, (by simp), o18⟩
 have H0 := cond_f H0 h16
 refine sr (oQ rfl (oS rfl (nn (cw_cond rfl (fun h19 => ?_) (fun h19 => ?_)))))
 ·have H0 := cond_t H0 h19
  refine rdt g_mixed (rn 0 9) ⟨[[],[4],[],[],[],[0,9],[3],[],[3]], [[],[],[],[],[9],[0],[],[],[3]], [4,8]⟩ (dA 0 rfl Tryz.underlying29 rfl ts27 rfl (dL 4 ts27 rfl (dM rfl (dM rfl (dE rfl (fun hh => stpU_lit (sz := 1) (l := [2, 256, 3]) [.int .i64 2, .int .i64 256, .int .i64 3] sl23 9 (sevp_cons rfl (sevp_cons rfl (sevp_cons rfl sevp_nil))) rfl rfl rfl rfl rfl rfl rfl rfl rfl) ?_)))))
  rintro _ _ ⟨p20, C21, rfl, rfl, o21⟩
  obtain ⟨x22, e22, H0⟩ := bS H0
  obtain ⟨x23, e23, H0⟩ := bS H0
  refine dk rfl (dV rfl (fun hh => stpU_callM (fun i => bif Nat.beq i 0 then 0 else 10 + i) cf55 (fun w hw hb => c_s_l12Rd_num fl w m0 a0_0 x11.2 ([2, 256, 3]) rfl (RO.passM hr0_0_0 hw hb) (by simp) (OwnC.passM (id := 9) (hh _ _ rfl) o21 hw hb ⟨rfl, trivial⟩) (hw.pass (js := [0]) ⟨0, [], rfl, (hh _ _ rfl), trivial⟩ (by decide)) x22 e22) (yB rfl rfl) ⟨(hh _ _ rfl), (fun _ _ hp => by obtain ⟨_, rfl⟩ := hp; exact ⟨_, rfl⟩), trivial⟩) rfl (dD rfl (stp_indexAddr Tryz.underlying27 ts47 (by decide) rfl rfl rfl (Rdb.own (id := 3) rfl o7) e23) (dA 2 rfl Tryz.underlying47 rfl ts3 rfl (dF rfl (fun hh => stpU_storeEl (id := 3) (i := 2) (⟨x23.va, x23.tg, x22.1, x23.fr, x23.ri, x23.wi⟩ : Ln) (by decide) ts3 rfl rfl (hh _ _ rfl) o7 e23 rfl rfl rfl rfl) ?_))))
  rintro _ _ ⟨C24, rfl, o24⟩
  refine dk rfl (dn (kw_bl_normal (kw_nx (sr (oB2 4 ts29 rfl (oC2 2 ts29 rfl rfl (nn (cw_ret ?_))))))))
  obtain rfl := sI H0
  exact kr Tryz.results88 (rC2 2 ts29 rfl rfl) [0, 3] ⟨_, _, _, _, rfl, rfl, (by simp), o24⟩
 have H0 := cond_f H0 h19
 refine sr (oQ rfl (oS rfl (nn (cw_cond rfl (fun h25 => ?_) (fun h25 => ?_)))))
 ·have H0 := cond_t H0 h25
  refine rdt g_mixed (rn 0 9) ⟨[[],[4],[],[],[],[0,11],[3],[],[3]], [[],[],[],[],[11],[0],[],[],[3]], [4,8]⟩ (dA 0 rfl Tryz.underlying29 rfl ts27 rfl (dL 4 ts27 rfl (dM rfl (dM rfl (dE rfl (fun hh => stpU_lit (sz := 1) (l := [8, (-2), 0, (-1)]) [.int .i64 8, .int .i64 (-2), .int .i64 0, .int .i64 (-1)] sl23 11 (sevp_cons rfl (sevp_cons rfl (sevp_cons rfl (sevp_cons rfl sevp_nil)))) rfl rfl rfl rfl rfl rfl rfl rfl rfl) ?_)))))
  rintro _ _ ⟨p26, C27, rfl, rfl, o27⟩
  obtain ⟨x28, e28, H0⟩ := bS H0
  obtain ⟨x29, e29, H0⟩ := bS H0
  refine dk rfl (dV rfl (fun hh => stpU_callM (fun i => bif Nat.beq i 0 then 0 else 12 + i) cf55 (fun w hw hb => c_s_l12Rd_num fl w m0 a0_0 x11.2 ([8, (-2), 0, (-1)]) rfl (RO.passM hr0_0_0 hw hb) (by simp) (OwnC.passM (id := 11) (hh _ _ rfl) o27 hw hb ⟨rfl, trivial⟩) (hw.pass (js := [0]) ⟨0, [], rfl, (hh _ _ rfl), trivial⟩ (by decide)) x28 e28) (yB rfl rfl) ⟨(hh _ _ rfl), (fun _ _ hp => by obtain ⟨_, rfl⟩ := hp; exact ⟨_, rfl⟩), trivial⟩) rfl (dD rfl (stp_indexAddr Tryz.underlying27 ts47 (by decide) rfl rfl rfl (Rdb.own (id := 3) rfl o7) e29) (dA 1 rfl Tryz.underlying47 rfl ts3 rfl (dF rfl (fun hh => stpU_storeEl (id := 3) (i := 1) (⟨x29.va, x28.1, x29.pg, x29.fr, x29.ri, x29.wi⟩ : Ln) (by decide) ts3 rfl rfl (hh _ _ rfl) o7 e29 rfl rfl rfl rfl) ?_))))
  rintro _ _ ⟨C30, rfl, o30⟩
  refine dk rfl (dn (kw_bl_normal (kw_nx (sr (oB2 4 ts29 rfl (oC2 2 ts29 rfl rfl (nn (cw_ret ?_))))))))
  obtain rfl := sI H0
  exact kr Tryz.results88 (rC2 2 ts29 rfl rfl) [0, 3] ⟨_, _, _, _, rfl, rfl, (by simp), o30⟩
 have H0 := cond_f H0 h25
 refine sr (oQ rfl (oS rfl (nn (cw_cond rfl (fun h31 => ?_) (fun h31 => ?_)))))
 ·have H0 := cond_t H0 h31
  refine cw_region (oE (stpU_lit0 sl27 13) rfl ?_)
  rintro _ _ ⟨p32, C33, rfl, rfl, o33⟩
  refine oA 0 Tryz.underlying29 rfl ts27 rfl (oC2 4 ts27 rfl rfl (ow_nil (kw_bl_normal (kw_nx (sr (oB2 4 ts29 rfl (oC2 2 ts29 rfl rfl (nn (cw_ret ?_)))))))))
  obtain rfl := sI H0
  exact kr Tryz.results88 (rC2 2 ts29 rfl rfl) [0, 13] ⟨_, _, _, _, rfl, rfl, (by simp), o33⟩
 have H0 := cond_f H0 h31
 refine cw_skip (kw_bl_normal (kw_nx (sr (oB2 4 ts29 rfl (oC2 2 ts29 rfl rfl (nn (cw_ret ?_)))))))
 obtain rfl := sI H0
 exact kr Tryz.results88 (rC2 2 ts29 rfl rfl) [0, 3] ⟨_, _, _, _, rfl, rfl, rfl, o7⟩

theorem c_s_l2Draw (fl : Nat) (w : World) (m0 : Nat) (a0_0 : (List UInt8)) (a0_1 : Int) (hn0_0_0 : n0_0_0 = (a0_0).length) (hr0_0_0 : RO w (hkeys [(0, [(m0, .cells #[.slice p0_0_0 n0_0_0 c0_0_0, .int .i64 a0_1] 91 (0, 0))])]) (RdL p0_0_0 c0_0_0 a0_0)) (hM : Sat w (hkeys [(0, [(m0, .cells #[.slice p0_0_0 n0_0_0 c0_0_0, .int .i64 a0_1] 91 (0, 0))])]) w [(0, [(m0, .cells #[.slice p0_0_0 n0_0_0 c0_0_0, .int .i64 a0_1] 91 (0, 0))])]) (r : K × Int) (H0 : s_l2Draw fl a0_0 a0_1 = some r) :
  Ct Tryz.prog 102 [.pointer (some ⟨m0, 0, none⟩)] w [(0, [(m0, .cells #[.slice p0_0_0 n0_0_0 c0_0_0, .int .i64 a0_1] 91 (0, 0))])] (fun rv h' => rv = .agg #[.int .i64 r.1.s, .int .i64 r.1.p] ∧ h' = [(0, [(m0, .cells #[.slice p0_0_0 n0_0_0 c0_0_0, .int .i64 r.2] 91 (0, 0))])]) := by
 subst hn0_0_0
 unfold s_l2Draw at H0
 refine ct_of_cw Tryz.func102 rfl Tryz.ntmps102 rfl hM ?_
 refine sr (oE (stpU_alloc 1 tz49 rfl) rfl ?_)
 rintro _ _ ⟨b1, rfl, rfl⟩
 refine nn (sr (oM rfl (oE (stpU_lit (sz := 1) (l := [0, 1, 2, 3, 1]) [.int .i64 0, .int .i64 1, .int .i64 2, .int .i64 3, .int .i64 1] sl23 2 (sevp_cons rfl (sevp_cons rfl (sevp_cons rfl (sevp_cons rfl (sevp_cons rfl sevp_nil))))) rfl rfl rfl rfl rfl rfl rfl rfl rfl) rfl ?_)))
 rintro _ _ ⟨p2, C3, rfl, rfl, o3⟩
 obtain ⟨x4, e4, H0⟩ := bS H0
 refine oE (stpU_callM (fun i => bif Nat.beq i 0 then 0 else 3 + i) cf55 (fun w hw hb => c_s_l12Rd_num fl w m0 a0_0 a0_1 ([0, 1, 2, 3, 1]) rfl (RO.passM hr0_0_0 hw hb) (by simp) (OwnC.passM (id := 2) rfl o3 hw hb ⟨rfl, trivial⟩) (hw.pass (js := [0]) ⟨0, [], rfl, rfl, trivial⟩ (by decide)) x4 e4) (yB rfl rfl) ⟨rfl, (fun _ _ hp => by obtain ⟨_, rfl⟩ := hp; exact ⟨_, rfl⟩), trivial⟩) rfl ?_
 rintro _ _ ⟨_, ⟨rfl, rfl⟩, rfl⟩
 refine oM rfl (oE (stpU_lit (sz := 1) (l := [0, 1, 2, 3, 4, 5, 100, 255]) [.int .i64 0, .int .i64 1, .int .i64 2, .int .i64 3, .int .i64 4, .int .i64 5, .int .i64 100, .int .i64 255] sl23 4 (sevp_cons rfl (sevp_cons rfl (sevp_cons rfl (sevp_cons rfl (sevp_cons rfl (sevp_cons rfl (sevp_cons rfl (sevp_cons rfl sevp_nil)))))))) rfl rfl rfl rfl rfl rfl rfl rfl rfl) rfl ?_)
 rintro _ _ ⟨p5, C6, rfl, rfl, o6⟩
 obtain ⟨x7, e7, H0⟩ := bS H0
 refine oE (stpU_callM (fun i => bif Nat.beq i 0 then 0 else 5 + i) cf55 (fun w hw hb => c_s_l12Rd_num fl w m0 a0_0 x4.2 ([0, 1, 2, 3, 4, 5, 100, 255]) rfl (RO.passM hr0_0_0 hw hb) (by simp) (OwnC.passM (id := 4) rfl o6 hw hb ⟨rfl, trivial⟩) (hw.pass (js := [0]) ⟨0, [], rfl, rfl, trivial⟩ (by decide)) x7 e7) (yB rfl rfl) ⟨rfl, (fun _ _ hp => by obtain ⟨_, rfl⟩ := hp; exact ⟨_, rfl⟩), trivial⟩) rfl ?_
 rintro _ _ ⟨_, ⟨rfl, rfl⟩, rfl⟩
 refine oD (stp_build (cs := #[.int .i64 x4.1, .int .i64 x7.1]) (sevp_cons rfl (sevp_cons rfl sevp_nil)) bt49_13) rfl (oC2 1 ts49 rfl rfl (nn (cw_ret ?_)))
 obtain rfl := sI H0
 exact kr Tryz.results102 (rC2 1 ts49 rfl rfl) [0] ⟨rfl, rfl⟩
end Go.Proofs.YtkccmjfhmkjnlaaGreatDoor
