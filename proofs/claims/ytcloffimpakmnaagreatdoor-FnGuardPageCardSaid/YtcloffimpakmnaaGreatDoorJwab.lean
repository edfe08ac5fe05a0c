/- The walks: functions of the program return what their pure functions say. Printed by a program (gen.py). -/
import Derived.Test.YtcloffimpakmnaaGreatDoorJp
import Derived.Test.YtcloffimpakmnaaGreatDoorJt
import Derived.Test.YtcloffimpakmnaaGreatDoorMan
import Derived.Test.YtcloffimpakmnaaGreatDoorMap
import Derived.Test.YtcloffimpakmnaaGreatDoorCpy
import Derived.Test.YtcloffimpakmnaaGreatDoorJe
import Derived.Test.YtcloffimpakmnaaGreatDoorJwaa
import Derived.Test.YtcloffimpakmnaaGreatDoorJws
set_option linter.unusedSimpArgs false
set_option linter.unusedVariables false
set_option linter.unusedSectionVars false
namespace Go.Proofs.YtcloffimpakmnaaGreatDoor
open Go.RowKit
set_option maxHeartbeats 4000000
set_option maxRecDepth 20000
variable {p0_0 p0_0_0 p0_1 p0_2 p0_3 p1_0 p1_1 p1_2 p1_3 : Option Addr} {n0_0 n0_0_0 n0_1 n0_2 n0_3 n1_0 n1_1 n1_2 n1_3 : Nat} {c0_0 c0_0_0 c0_1 c0_2 c0_3 c1_0 c1_1 c1_2 c1_3 : Nat} {C1_0 C1_1 C1_2 C1_3 : Res}
theorem c_s_TouchPage (fl : Nat) (w : World) (a0 : Mc) (a1 : Int) (a2 : Int) (hn0_0 : n0_0 = (a0.t.b).length) (hr0_0 : RO w (hkeys []) (RdL p0_0 c0_0 a0.t.b)) (hn0_1 : n0_1 = (a0.t.f).length) (hr0_1 : RO w (hkeys []) (RdL p0_1 c0_1 a0.t.f)) (hn0_2 : n0_2 = (a0.c.l).length) (hr0_2 : RO w (hkeys []) (RdL p0_2 c0_2 a0.c.l)) (hn0_3 : n0_3 = (a0.g.o).length) (hr0_3 : RO w (hkeys []) (RdL p0_3 c0_3 a0.g.o)) (r : Mc × Int × Int × Bool) (H0 : s_TouchPage fl a0 a1 a2 = some r) :
  Ct Tryz.prog 43 [.agg #[.slice p0_0 n0_0 c0_0, .slice p0_1 n0_1 c0_1, .slice p0_2 n0_2 c0_2, .int .i64 a0.c.h, .int .i64 a0.g.c, .int .i64 a0.g.n, .int .i64 a0.g.r, .slice p0_3 n0_3 c0_3, .int .i64 a0.s], .int .i64 a1, .int .i64 a2] w [] (fun rv h' => ∃ (x0 : Option Addr) (y0 z0 : Nat) (C0 : Res) (x1 : Option Addr) (y1 z1 : Nat) (C1 : Res) (x2 : Option Addr) (y2 z2 : Nat) (C2 : Res) (x3 : Option Addr) (y3 z3 : Nat) (C3 : Res), rv = .tuple #[.agg #[.slice x0 y0 z0, .slice x1 y1 z1, .slice x2 y2 z2, .int .i64 r.1.c.h, .int .i64 r.1.g.c, .int .i64 r.1.g.n, .int .i64 r.1.g.r, .slice x3 y3 z3, .int .i64 r.1.s], .int .i64 r.2.1, .int .i64 r.2.2.1, .bool r.2.2.2] ∧ h' = [(0, C0), (1, C1), (2, C2), (3, C3)] ∧ y0 = (r.1.t.b).length ∧ OwnC 3 x0 z0 r.1.t.b C0 ∧ y1 = (r.1.t.f).length ∧ OwnC 74 x1 z1 r.1.t.f C1 ∧ y2 = (r.1.c.l).length ∧ OwnC 66 x2 z2 r.1.c.l C2 ∧ y3 = (r.1.g.o).length ∧ OwnC 108 x3 z3 r.1.g.o C3) := by
 subst hn0_0 hn0_1 hn0_2 hn0_3
 unfold s_TouchPage at H0
 refine ct_of_cw Tryz.func43 rfl Tryz.ntmps43 rfl (Sat.refl _ _) ?_
 refine sr (oE (stpU_box 0 rfl rfl) rfl ?_)
 rintro _ _ ⟨b1, rfl, rfl⟩
 refine oE (stpU_alloc 1 tz34 rfl) rfl ?_
 rintro _ _ ⟨b2, rfl, rfl⟩
 obtain ⟨x3, e3, H0⟩ := bS H0
 refine oS rfl (oS rfl (oS rfl (nn (cw_seq (sr (oB9 0 ts34 rfl (oE (stpU_call (fun i => 2 + i) cf21 (fun w hw => c_s_MachineValid fl w a0 rfl (RO.pass hr0_0 hw) rfl (RO.pass hr0_1 hw) rfl (RO.pass hr0_2 hw) rfl (RO.pass hr0_3 hw) x3 e3) (yA rfl)) rfl ?_)))))))
 rintro _ _ ⟨_, ⟨rfl, rfl⟩, rfl⟩
 obtain ⟨y4, ey4, H0⟩ := bS H0
 refine oK rfl (oM rfl (ow_cutY 4 25 y4 ?_ ?_))
 ·rcases Bool.eq_false_or_eq_true (!x3) with hy4 | hy4
  ·have ey4 := cond_t ey4 hy4
   refine oO rfl hy4 rfl (oO rfl hy4 rfl (oO rfl hy4 rfl (oD (stp_pick_t rfl hy4 rfl) rfl ?_)))
   obtain rfl := sI ey4
   exact ow_nil (jy 4 0)
  have ey4 := cond_f ey4 hy4
  obtain ⟨x5, e5, ey4⟩ := bS ey4
  refine oG rfl hy4 (mv rfl) rfl (ow_eff (.some rfl hy4) (stpU_call (fun i => 2 + i) cf86 (fun w hw => c_s_l1Page fl w a1 x5 e5) (yA rfl)) rfl ?_)
  rintro _ _ ⟨_, ⟨rfl, rfl⟩, rfl⟩
  refine oG rfl hy4 (stp_not rfl) rfl (oD (stp_pick_f rfl hy4 rfl) rfl ?_)
  obtain rfl := sI ey4
  exact ow_nil (jy 4 0)
 obtain ⟨y6, ey6, H0⟩ := bS H0
 refine oM rfl (ow_cutY 4 30 y6 ?_ ?_)
 ·rcases Bool.eq_false_or_eq_true y4 with hy6 | hy6
  ·have ey6 := cond_t ey6 hy6
   refine oO rfl hy6 rfl (oO rfl hy6 rfl (oO rfl hy6 rfl (oD (stp_pick_t rfl hy6 rfl) rfl ?_)))
   obtain rfl := sI ey6
   exact ow_nil (jy 4 0)
  have ey6 := cond_f ey6 hy6
  obtain ⟨x7, e7, ey6⟩ := bS ey6
  refine oG rfl hy6 (mv rfl) rfl (ow_eff (.some rfl hy6) (stpU_call (fun i => 2 + i) cf60 (fun w hw => c_s_RightsValid fl w a2 x7 e7) (yA rfl)) rfl ?_)
  rintro _ _ ⟨_, ⟨rfl, rfl⟩, rfl⟩
  refine oG rfl hy6 (stp_not rfl) rfl (oD (stp_pick_f rfl hy6 rfl) rfl ?_)
  obtain rfl := sI ey6
  exact ow_nil (jy 4 0)
 refine ow_nil (kw_nx (cw_cond rfl (fun h8 => ?_) (fun h8 => ?_)))
 ·have H0 := cond_t H0 h8
  refine sr (oD (stp_build (cs := #[.slice none 0 0, .slice none 0 0, .slice none 0 0, .int .i64 0, .int .i64 0, .int .i64 0, .int .i64 0, .slice none 0 0, .int .i64 0]) sevp_nil bt34_6) rfl (oC9 1 ts34 rfl rfl (oS rfl (oS rfl (oS rfl (nn (cw_ret (kw_nx_ret (kw_addNil 2 (kw_addNil 3 (kw_addNil 4 (kw_addNil 5 ?_))))))))))))
  obtain rfl := sI H0
  exact kr Tryz.results43 (.cons (.cellN (us := [_, _, _, _, _, _, _, _, _]) ts34 rfl (Cells.box (id := 1) rfl 9 rfl)) (.cons (.tmp rfl) (.cons (.tmp rfl) (rT rfl)))) [2, 3, 4, 5] ⟨_, _, _, _, _, _, _, _, _, _, _, _, _, _, _, _, rfl, rfl, rfl, (OwnC.nil _ _), rfl, (OwnC.nil _ _), rfl, (OwnC.nil _ _), rfl, (OwnC.nil _ _)⟩
 have H0 := cond_f H0 h8
 obtain ⟨x9, e9, H0⟩ := bS H0
 refine cw_skip (kw_nx (sr (oB9 0 ts34 rfl (oA 8 Tryz.underlying34 rfl ts3 rfl (oL 0 ts3 rfl (oM rfl (oE (stpU_call (fun i => 6 + i) cf63 (fun w hw => c_s_l6Tag fl w a0 a0.s a1 rfl (RO.pass hr0_0 hw) rfl (RO.pass hr0_1 hw) rfl (RO.pass hr0_2 hw) rfl (RO.pass hr0_3 hw) x9 e9) (yC rfl rfl rfl)) rfl ?_)))))))
 rintro _ _ ⟨_, ⟨rfl, rfl⟩, rfl⟩
 obtain ⟨x10, e10, H0⟩ := bS H0
 refine oM rfl (oT rfl (oT rfl (oS rfl (oS rfl (nn (sr (oB9 0 ts34 rfl (oE (stpU_call (fun i => 6 + i) cf62 (fun w hw => c_s_l6Copy fl w a0 rfl (RO.pass hr0_0 hw) rfl (RO.pass hr0_1 hw) rfl (RO.pass hr0_2 hw) rfl (RO.pass hr0_3 hw) x10 e10) (yA rfl)) rfl ?_))))))))
 rintro _ _ ⟨_, ⟨p11, _, c13, C14, p15, _, c17, C18, p19, _, c21, C22, p23, _, c25, C26, rfl, rfl, rfl, o14, rfl, o18, rfl, o22, rfl, o26⟩, rfl⟩
 refine oE (stpU_alloc 10 tz34 rfl) rfl ?_
 rintro _ _ ⟨b27, rfl, rfl⟩
 obtain ⟨x28, e28, H0⟩ := bS H0
 refine oC9 10 ts34 rfl rfl (nn (sr (oS rfl (nn (sr (oA 2 Tryz.underlying34 rfl ts29 rfl (oB2 0 ts29 rfl (oM rfl (oM rfl (oE (stpU_call (fun i => 11 + i) cf45 (fun w hw => c_s_l4Find fl w a0.c x9.1 a1 rfl (RO.pass hr0_2 hw) x28 e28) (yC rfl rfl rfl)) rfl ?_))))))))))
 rintro _ _ ⟨_, ⟨rfl, rfl⟩, rfl⟩
 refine oS rfl (nn (sr (oS rfl (nn (cw_seq (sr (oM rfl (oI rfl (nn (cw_cond rfl (fun h29 => ?_) (fun h29 => ?_)))))))))))
 ·have H0 := cond_t H0 h29
  obtain ⟨x30, e30, H0⟩ := bS H0
  refine cw_region (oA 2 Tryz.underlying34 rfl ts29 rfl (oA 0 Tryz.underlying29 rfl ts27 rfl (oL 0 ts27 rfl (oM rfl (oD (stp_indexAddr Tryz.underlying27 ts66 (by decide) rfl rfl rfl (Rdb.ro hr0_2) e30) rfl (oA 3 Tryz.underlying66 rfl ts3 rfl (oD (stp_load1 ts3 rfl (Cells.el (Rdb.ro hr0_2) (by decide) e30 3 1 rfl)) rfl (oS rfl (nn (cw_seq (sr (oA 0 Tryz.underlying34 rfl ts26 rfl (oA 1 Tryz.underlying26 rfl ts24 rfl ?_)))))))))))))
  obtain ⟨x31, e31, H0⟩ := bS H0
  obtain ⟨x32, e32, H0⟩ := bS H0
  refine oL 0 ts24 rfl (oM rfl (oD (stp_indexAddr Tryz.underlying24 ts74 (by decide) rfl rfl rfl (Rdb.ro hr0_1) e31) rfl (oA 3 Tryz.underlying74 rfl ts3 rfl (oD (stp_load1 ts3 rfl (Cells.el (Rdb.ro hr0_1) (by decide) e31 3 1 rfl)) rfl (oM rfl (oE (stpU_call (fun i => 11 + i) cf89 (fun w hw => c_s_Allows fl w x31.r a2 x32 e32) (yB rfl rfl)) rfl ?_))))))
  rintro _ _ ⟨_, ⟨rfl, rfl⟩, rfl⟩
  refine oK rfl (nn (cw_cond rfl (fun h33 => ?_) (fun h33 => ?_)))
  ·have H0 := cond_t H0 h33
   refine sr (oB9 10 ts34 rfl (oM rfl (oC9 1 ts34 rfl rfl (oS rfl (oS rfl (oS rfl (nn (cw_ret (kw_nx_ret ?_)))))))))
   obtain rfl := sI H0
   exact kr Tryz.results43 (.cons (.cellN (us := [_, _, _, _, _, _, _, _, _]) ts34 rfl (Cells.box (id := 1) rfl 9 rfl)) (.cons (.tmp rfl) (.cons (.tmp rfl) (rT rfl)))) [6, 7, 8, 9] ⟨_, _, _, _, _, _, _, _, _, _, _, _, _, _, _, _, rfl, rfl, rfl, o14, rfl, o18, rfl, o22, rfl, o26⟩
  have H0 := cond_f H0 h33
  refine cw_skip (kw_nx (sr (oB9 10 ts34 rfl (oM rfl (oM rfl (oC9 1 ts34 rfl rfl (oS rfl (oS rfl (oS rfl (nn (cw_ret ?_)))))))))))
  obtain rfl := sI H0
  exact kr Tryz.results43 (.cons (.cellN (us := [_, _, _, _, _, _, _, _, _]) ts34 rfl (Cells.box (id := 1) rfl 9 rfl)) (.cons (.tmp rfl) (.cons (.tmp rfl) (rT rfl)))) [6, 7, 8, 9] ⟨_, _, _, _, _, _, _, _, _, _, _, _, _, _, _, _, rfl, rfl, rfl, o14, rfl, o18, rfl, o22, rfl, o26⟩
 have H0 := cond_f H0 h29
 obtain ⟨x34, e34, H0⟩ := bS H0
 obtain ⟨x35, e35, H0⟩ := bS H0
 refine cw_seq (rdt g_mixed (rn 0 12) ⟨[[],[0],[],[0]], [], []⟩ (dA 0 rfl Tryz.underlying34 rfl ts26 rfl (dB2 0 ts26 rfl (dA 8 rfl Tryz.underlying34 rfl ts3 rfl (dL 0 ts3 rfl (dM rfl (dV rfl (fun hh => stpU_call (fun i => 11 + i) cf48 (fun w hw => c_s_KeyFor fl w a0.s a1 x34 e34) (yB rfl rfl)) rfl (dV rfl (fun hh => stpU_call (fun i => 11 + i) cf87 (fun w hw => c_s_l3Find fl w a0.t x34 rfl (RO.pass hr0_0 hw) rfl (RO.pass hr0_1 hw) x35 e35) (yB rfl rfl)) rfl (dM rfl (dT rfl (dT rfl (dS rfl (dS rfl ?_)))))))))))))
 refine dn (kw_nx (cw_seq (sr (oM rfl (oW rfl (nn (cw_cond rfl (fun h36 => ?_) (fun h36 => ?_))))))))
 ·have H0 := cond_t H0 h36
  refine sr (oB9 10 ts34 rfl (oC9 1 ts34 rfl rfl (oS rfl (oS rfl (oS rfl (nn (cw_ret (kw_nx_ret (kw_nx_ret ?_)))))))))
  obtain rfl := sI H0
  exact kr Tryz.results43 (.cons (.cellN (us := [_, _, _, _, _, _, _, _, _]) ts34 rfl (Cells.box (id := 1) rfl 9 rfl)) (.cons (.tmp rfl) (.cons (.tmp rfl) (rT rfl)))) [6, 7, 8, 9] ⟨_, _, _, _, _, _, _, _, _, _, _, _, _, _, _, _, rfl, rfl, rfl, o14, rfl, o18, rfl, o22, rfl, o26⟩
 have H0 := cond_f H0 h36
 obtain ⟨x37, e37, H0⟩ := bS H0
 refine cw_skip (kw_nx (sr (oB9 0 ts34 rfl (oM rfl (oM rfl (oM rfl (oE (stpU_call (fun i => 11 + i) cf88 (fun w hw => c_s_l6Fill fl w a0 a1 x35.1 x9.1 rfl (RO.pass hr0_0 hw) rfl (RO.pass hr0_1 hw) rfl (RO.pass hr0_2 hw) rfl (RO.pass hr0_3 hw) x37 e37) (yD rfl rfl rfl rfl)) rfl ?_)))))))
 rintro _ _ ⟨_, ⟨p38, _, c40, C41, p42, _, c44, C45, p46, _, c48, C49, p50, _, c52, C53, rfl, rfl, rfl, o41, rfl, o45, rfl, o49, rfl, o53⟩, rfl⟩
 refine oM rfl (oT rfl (oT rfl (oC9 10 ts34 rfl rfl (nn (sr (oM rfl (oS rfl (nn (cw_region (oS rfl (nn (cw_seq (sr ?_)))))))))))))
 obtain ⟨x54, e54, H0⟩ := bS H0
 obtain ⟨x55, e55, H0⟩ := bS H0
 refine oA 0 Tryz.underlying34 rfl ts26 rfl (oA 1 Tryz.underlying26 rfl ts24 rfl (oL 0 ts24 rfl (oM rfl (oD (stp_indexAddr Tryz.underlying24 ts74 (by decide) rfl rfl rfl (Rdb.ro hr0_1) e54) rfl (oA 3 Tryz.underlying74 rfl ts3 rfl (oD (stp_load1 ts3 rfl (Cells.el (Rdb.ro hr0_1) (by decide) e54 3 1 rfl)) rfl (oM rfl (oE (stpU_call (fun i => 15 + i) cf89 (fun w hw => c_s_Allows fl w x54.r a2 x55 e55) (yB rfl rfl)) rfl ?_))))))))
 rintro _ _ ⟨_, ⟨rfl, rfl⟩, rfl⟩
 refine oK rfl (nn (cw_cond rfl (fun h56 => ?_) (fun h56 => ?_)))
 ·have H0 := cond_t H0 h56
  refine sr (oB9 10 ts34 rfl (oM rfl (oC9 1 ts34 rfl rfl (oS rfl (oS rfl (oS rfl (nn (cw_ret (kw_nx_ret ?_)))))))))
  obtain rfl := sI H0
  exact kr Tryz.results43 (.cons (.cellN (us := [_, _, _, _, _, _, _, _, _]) ts34 rfl (Cells.box (id := 1) rfl 9 rfl)) (.cons (.tmp rfl) (.cons (.tmp rfl) (rT rfl)))) [11, 12, 13, 14] ⟨_, _, _, _, _, _, _, _, _, _, _, _, _, _, _, _, rfl, rfl, rfl, o41, rfl, o45, rfl, o49, rfl, o53⟩
 have H0 := cond_f H0 h56
 refine cw_skip (kw_nx (sr (oB9 10 ts34 rfl (oM rfl (oM rfl (oC9 1 ts34 rfl rfl (oS rfl (oS rfl (oS rfl (nn (cw_ret ?_)))))))))))
 obtain rfl := sI H0
 exact kr Tryz.results43 (.cons (.cellN (us := [_, _, _, _, _, _, _, _, _]) ts34 rfl (Cells.box (id := 1) rfl 9 rfl)) (.cons (.tmp rfl) (.cons (.tmp rfl) (rT rfl)))) [11, 12, 13, 14] ⟨_, _, _, _, _, _, _, _, _, _, _, _, _, _, _, _, rfl, rfl, rfl, o41, rfl, o45, rfl, o49, rfl, o53⟩

theorem c_s_WireLine (fl : Nat) (w : World) (a0 : Ca) (a1 : Int) (a2 : Bool) (hn0_0 : n0_0 = (a0.l).length) (hr0_0 : RO w (hkeys []) (RdL p0_0 c0_0 a0.l)) (r : Ca × Bool) (H0 : s_WireLine fl a0 a1 a2 = some r) :
  Ct Tryz.prog 44 [.agg #[.slice p0_0 n0_0 c0_0, .int .i64 a0.h], .int .i64 a1, .bool a2] w [] (fun rv h' => ∃ (x0 : Option Addr) (y0 z0 : Nat) (C0 : Res), rv = .tuple #[.agg #[.slice x0 y0 z0, .int .i64 r.1.h], .bool r.2] ∧ h' = [(0, C0)] ∧ y0 = (r.1.l).length ∧ OwnC 66 x0 z0 r.1.l C0) := by
 subst hn0_0
 unfold s_WireLine at H0
 refine ct_of_cw Tryz.func44 rfl Tryz.ntmps44 rfl (Sat.refl _ _) ?_
 refine sr (oE (stpU_box 0 rfl rfl) rfl ?_)
 rintro _ _ ⟨b1, rfl, rfl⟩
 refine oE (stpU_alloc 1 tz29 rfl) rfl ?_
 rintro _ _ ⟨b2, rfl, rfl⟩
 obtain ⟨x3, e3, H0⟩ := bS H0
 refine oS rfl (nn (cw_seq (sr (oB2 0 ts29 rfl (oE (stpU_call (fun i => 2 + i) cf55 (fun w hw => c_s_CacheValid fl w a0 rfl (RO.pass hr0_0 hw) x3 e3) (yA rfl)) rfl ?_)))))
 rintro _ _ ⟨_, ⟨rfl, rfl⟩, rfl⟩
 obtain ⟨y4, ey4, H0⟩ := bS H0
 refine oK rfl (oM rfl (ow_cutY 3 15 y4 ?_ ?_))
 ·rcases Bool.eq_false_or_eq_true (!x3) with hy4 | hy4
  ·have ey4 := cond_t ey4 hy4
   refine oO rfl hy4 rfl (oO rfl hy4 rfl (oD (stp_pick_t rfl hy4 rfl) rfl ?_))
   obtain rfl := sI ey4
   exact ow_nil (jy 3 0)
  have ey4 := cond_f ey4 hy4
  refine oG rfl hy4 (mv rfl) rfl (oG rfl hy4 (stp_lss rfl rfl) rfl (oD (stp_pick_f rfl hy4 rfl) rfl ?_))
  obtain rfl := sI ey4
  exact ow_nil (jy 3 0)
 obtain ⟨y5, ey5, H0⟩ := bS H0
 refine oM rfl (ow_cutY 6 22 y5 ?_ ?_)
 ·rcases Bool.eq_false_or_eq_true y4 with hy5 | hy5
  ·have ey5 := cond_t ey5 hy5
   refine oO rfl hy5 rfl (oO rfl hy5 rfl (oO rfl hy5 rfl (oO rfl hy5 rfl (oO rfl hy5 rfl (oD (stp_pick_t rfl hy5 rfl) rfl ?_)))))
   obtain rfl := sI ey5
   exact ow_nil (jy 6 0)
  have ey5 := cond_f ey5 hy5
  refine oG rfl hy5 (mv rfl) rfl (oG rfl hy5 (fA 0 Tryz.underlying29 rfl ts27 rfl rfl rfl) rfl (oG rfl hy5 (lB 0 ts27 rfl rfl rfl) rfl (oG rfl hy5 (stp_len Tryz.underlying27 rfl) rfl (oG rfl hy5 (stp_geq rfl rfl) rfl (oD (stp_pick_f rfl hy5 rfl) rfl ?_)))))
  obtain rfl := sI ey5
  exact ow_nil (jy 6 0)
 obtain ⟨y6, ey6, H0⟩ := bS H0
 refine oM rfl (ow_cutY 8 31 y6 ?_ ?_)
 ·rcases Bool.eq_false_or_eq_true y5 with hy6 | hy6
  ·have ey6 := cond_t ey6 hy6
   refine oO rfl hy6 rfl (oO rfl hy6 rfl (oO rfl hy6 rfl (oO rfl hy6 rfl (oO rfl hy6 rfl (oO rfl hy6 rfl (oO rfl hy6 rfl (oD (stp_pick_t rfl hy6 rfl) rfl ?_)))))))
   obtain rfl := sI ey6
   exact ow_nil (jy 8 0)
  have ey6 := cond_f ey6 hy6
  obtain ⟨x7, e7, ey6⟩ := bS ey6
  refine oG rfl hy6 (fA 0 Tryz.underlying29 rfl ts27 rfl rfl rfl) rfl (oG rfl hy6 (lB 0 ts27 rfl rfl rfl) rfl (oG rfl hy6 (mv rfl) rfl (oG rfl hy6 (stp_indexAddr Tryz.underlying27 ts66 (by decide) rfl rfl rfl (Rdb.ro hr0_0) e7) rfl (oG rfl hy6 (fA 0 Tryz.underlying66 rfl ts4 rfl rfl rfl) rfl (oG rfl hy6 (stp_load1 ts4 rfl (Cells.el (Rdb.ro hr0_0) (by decide) e7 0 1 rfl)) rfl (oG rfl hy6 (stp_not rfl) rfl (oD (stp_pick_f rfl hy6 rfl) rfl ?_)))))))
  obtain rfl := sI ey6
  exact ow_nil (jy 8 0)
 refine ow_nil (kw_nx (cw_cond rfl (fun h8 => ?_) (fun h8 => ?_)))
 ·have H0 := cond_t H0 h8
  refine sr (oD (stp_build (cs := #[.slice none 0 0, .int .i64 0]) sevp_nil bt29_2) rfl (oC2 1 ts29 rfl rfl (oS rfl (nn (cw_ret (kw_nx_ret (kw_addNil 2 ?_)))))))
  obtain rfl := sI H0
  exact kr Tryz.results44 (.cons (.cellN (us := [_, _]) ts29 rfl (Cells.box (id := 1) rfl 2 rfl)) (rT rfl)) [2] ⟨_, _, _, _, rfl, rfl, rfl, (OwnC.nil _ _)⟩
 have H0 := cond_f H0 h8
 obtain ⟨x9, e9, H0⟩ := bS H0
 refine cw_skip (kw_nx (sr (oB2 0 ts29 rfl (oE (stpU_call (fun i => 3 + i) cf90 (fun w hw => c_s_l4Copy fl w a0 rfl (RO.pass hr0_0 hw) x9 e9) (yA rfl)) rfl ?_))))
 rintro _ _ ⟨_, ⟨p10, _, c12, C13, rfl, rfl, rfl, o13⟩, rfl⟩
 refine oE (stpU_alloc 4 tz29 rfl) rfl ?_
 rintro _ _ ⟨b14, rfl, rfl⟩
 obtain ⟨x15, e15, H0⟩ := bS H0
 refine oC2 4 ts29 rfl rfl (nn (sr (oA 0 Tryz.underlying29 rfl ts27 rfl (oL 4 ts27 rfl (oM rfl (oM rfl (oD (stp_indexAddr Tryz.underlying27 ts66 (by decide) rfl rfl rfl (Rdb.own (id := 3) rfl o13) e15) rfl (oA 5 Tryz.underlying66 rfl ts4 rfl (oF (stpU_storeEl (id := 3) (i := 5) (⟨x15.va, x15.tg, x15.pg, x15.fr, x15.ri, a2⟩ : Ln) (by decide) ts4 rfl rfl rfl o13 e15 rfl rfl rfl rfl) ?_)))))))))
 rintro _ _ ⟨C16, rfl, o16⟩
 obtain ⟨x17, e17, H0⟩ := bS H0
 refine nn (cw_seq (sr (oB2 4 ts29 rfl (oE (stpU_call (fun i => 5 + i) cf55 (fun w hw => c_s_CacheValid fl w (⟨(x9.l.set (Int.toNat a1) (⟨x15.va, x15.tg, x15.pg, x15.fr, x15.ri, a2⟩ : Ln)), x9.h⟩ : Ca) (by simp) (OwnC.pass (id := 3) rfl o16 hw) x17 e17) (yA rfl)) rfl ?_))))
 rintro _ _ ⟨_, ⟨rfl, rfl⟩, rfl⟩
 refine oK rfl (nn (cw_cond rfl (fun h18 => ?_) (fun h18 => ?_)))
 ·have H0 := cond_t H0 h18
  refine sr (oD (stp_build (cs := #[.slice none 0 0, .int .i64 0]) sevp_nil bt29_2) rfl (oC2 1 ts29 rfl rfl (oS rfl (nn (cw_ret (kw_nx_ret (kw_addNil 5 ?_)))))))
  obtain rfl := sI H0
  exact kr Tryz.results44 (.cons (.cellN (us := [_, _]) ts29 rfl (Cells.box (id := 1) rfl 2 rfl)) (rT rfl)) [5] ⟨_, _, _, _, rfl, rfl, rfl, (OwnC.nil _ _)⟩
 have H0 := cond_f H0 h18
 refine cw_skip (kw_nx (sr (oB2 4 ts29 rfl (oC2 1 ts29 rfl rfl (oS rfl (nn (cw_ret ?_)))))))
 obtain rfl := sI H0
 exact kr Tryz.results44 (.cons (.cellN (us := [_, _]) ts29 rfl (Cells.box (id := 1) rfl 2 rfl)) (rT rfl)) [3] ⟨_, _, _, _, rfl, rfl, (by simp), o16⟩

theorem c_s_WirePage (fl : Nat) (w : World) (a0 : Mc) (a1 : Int) (hn0_0 : n0_0 = (a0.t.b).length) (hr0_0 : RO w (hkeys []) (RdL p0_0 c0_0 a0.t.b)) (hn0_1 : n0_1 = (a0.t.f).length) (hr0_1 : RO w (hkeys []) (RdL p0_1 c0_1 a0.t.f)) (hn0_2 : n0_2 = (a0.c.l).length) (hr0_2 : RO w (hkeys []) (RdL p0_2 c0_2 a0.c.l)) (hn0_3 : n0_3 = (a0.g.o).length) (hr0_3 : RO w (hkeys []) (RdL p0_3 c0_3 a0.g.o)) (r : Mc × Bool) (H0 : s_WirePage fl a0 a1 = some r) :
  Ct Tryz.prog 15 [.agg #[.slice p0_0 n0_0 c0_0, .slice p0_1 n0_1 c0_1, .slice p0_2 n0_2 c0_2, .int .i64 a0.c.h, .int .i64 a0.g.c, .int .i64 a0.g.n, .int .i64 a0.g.r, .slice p0_3 n0_3 c0_3, .int .i64 a0.s], .int .i64 a1] w [] (fun rv h' => ∃ (x0 : Option Addr) (y0 z0 : Nat) (C0 : Res) (x1 : Option Addr) (y1 z1 : Nat) (C1 : Res) (x2 : Option Addr) (y2 z2 : Nat) (C2 : Res) (x3 : Option Addr) (y3 z3 : Nat) (C3 : Res), rv = .tuple #[.agg #[.slice x0 y0 z0, .slice x1 y1 z1, .slice x2 y2 z2, .int .i64 r.1.c.h, .int .i64 r.1.g.c, .int .i64 r.1.g.n, .int .i64 r.1.g.r, .slice x3 y3 z3, .int .i64 r.1.s], .bool r.2] ∧ h' = [(0, C0), (1, C1), (2, C2), (3, C3)] ∧ y0 = (r.1.t.b).length ∧ OwnC 3 x0 z0 r.1.t.b C0 ∧ y1 = (r.1.t.f).length ∧ OwnC 74 x1 z1 r.1.t.f C1 ∧ y2 = (r.1.c.l).length ∧ OwnC 66 x2 z2 r.1.c.l C2 ∧ y3 = (r.1.g.o).length ∧ OwnC 108 x3 z3 r.1.g.o C3) := by
 subst hn0_0 hn0_1 hn0_2 hn0_3
 unfold s_WirePage at H0
 refine ct_of_cw Tryz.func15 rfl Tryz.ntmps15 rfl (Sat.refl _ _) ?_
 refine sr (oE (stpU_box 0 rfl rfl) rfl ?_)
 rintro _ _ ⟨b1, rfl, rfl⟩
 refine oE (stpU_alloc 1 tz34 rfl) rfl ?_
 rintro _ _ ⟨b2, rfl, rfl⟩
 obtain ⟨x3, e3, H0⟩ := bS H0
 refine oS rfl (nn (sr (oB9 0 ts34 rfl (oM rfl (oE (stpU_call (fun i => 2 + i) cf43 (fun w hw => c_s_TouchPage fl w a0 a1 0 rfl (RO.pass hr0_0 hw) rfl (RO.pass hr0_1 hw) rfl (RO.pass hr0_2 hw) rfl (RO.pass hr0_3 hw) x3 e3) (yC rfl rfl rfl)) rfl ?_)))))
 rintro _ _ ⟨_, ⟨p4, _, c6, C7, p8, _, c10, C11, p12, _, c14, C15, p16, _, c18, C19, rfl, rfl, rfl, o7, rfl, o11, rfl, o15, rfl, o19⟩, rfl⟩
 refine oM rfl (oT rfl (oT rfl (oT rfl (oT rfl (oE (stpU_alloc 6 tz34 rfl) rfl ?_)))))
 rintro _ _ ⟨b20, rfl, rfl⟩
 obtain ⟨y21, ey21, H0⟩ := bS H0
 refine oC9 6 ts34 rfl rfl (oS rfl (oS rfl (oS rfl (nn (cw_seq (sr (oM rfl (oK rfl (oM rfl (ow_cutY 3 25 y21 ?_ ?_))))))))))
 ·rcases Bool.eq_false_or_eq_true (!x3.2.2.2) with hy21 | hy21
  ·have ey21 := cond_t ey21 hy21
   refine oO rfl hy21 rfl (oO rfl hy21 rfl (oD (stp_pick_t rfl hy21 rfl) rfl ?_))
   obtain rfl := sI ey21
   exact ow_nil (jy 3 0)
  have ey21 := cond_f ey21 hy21
  refine oG rfl hy21 (mv rfl) rfl (oG rfl hy21 (stp_eql rfl rfl) rfl (oD (stp_pick_f rfl hy21 rfl) rfl ?_))
  obtain rfl := sI ey21
  exact ow_nil (jy 3 0)
 obtain ⟨y22, ey22, H0⟩ := bS H0
 refine oM rfl (ow_cutY 3 29 y22 ?_ ?_)
 ·rcases Bool.eq_false_or_eq_true y21 with hy22 | hy22
  ·have ey22 := cond_t ey22 hy22
   refine oO rfl hy22 rfl (oO rfl hy22 rfl (oD (stp_pick_t rfl hy22 rfl) rfl ?_))
   obtain rfl := sI ey22
   exact ow_nil (jy 3 0)
  have ey22 := cond_f ey22 hy22
  refine oG rfl hy22 (mv rfl) rfl (oG rfl hy22 (stp_lss rfl rfl) rfl (oD (stp_pick_f rfl hy22 rfl) rfl ?_))
  obtain rfl := sI ey22
  exact ow_nil (jy 3 0)
 refine ow_nil (kw_nx (cw_cond rfl (fun h23 => ?_) (fun h23 => ?_)))
 ·have H0 := cond_t H0 h23
  refine sr (oD (stp_build (cs := #[.slice none 0 0, .slice none 0 0, .slice none 0 0, .int .i64 0, .int .i64 0, .int .i64 0, .int .i64 0, .slice none 0 0, .int .i64 0]) sevp_nil bt34_6) rfl (oC9 1 ts34 rfl rfl (oS rfl (nn (cw_ret (kw_nx_ret (kw_addNil 7 (kw_addNil 8 (kw_addNil 9 (kw_addNil 10 ?_))))))))))
  obtain rfl := sI H0
  exact kr Tryz.results15 (.cons (.cellN (us := [_, _, _, _, _, _, _, _, _]) ts34 rfl (Cells.box (id := 1) rfl 9 rfl)) (rT rfl)) [7, 8, 9, 10] ⟨_, _, _, _, _, _, _, _, _, _, _, _, _, _, _, _, rfl, rfl, rfl, (OwnC.nil _ _), rfl, (OwnC.nil _ _), rfl, (OwnC.nil _ _), rfl, (OwnC.nil _ _)⟩
 have H0 := cond_f H0 h23
 obtain ⟨x24, e24, H0⟩ := bS H0
 obtain ⟨x25, e25, H0⟩ := bS H0
 refine cw_skip (kw_nx (cw_seq (rdt g_mixed [.n 0, .n 1, .n 2, .n 3, .n 4, .n 5, .d 6, .d 10, .o 6, .n 7, .n 8, .n 9, .o 10, .n 11, .n 12] ⟨[[],[6],[],[6],[],[4],[4],[],[],[],[],[12]], [[],[],[],[],[],[],[11],[],[],[],[12],[12]], [6,10]⟩ (dA 2 rfl Tryz.underlying34 rfl ts29 rfl (dB2 6 ts29 rfl (dA 2 rfl Tryz.underlying34 rfl ts29 rfl (dB2 6 ts29 rfl (dM rfl (dV rfl (fun hh => stpU_call (fun i => 11 + i) cf45 (fun w hw => c_s_l4Find fl w x3.1.c (-1) a1 rfl (OwnC.pass (id := 4) (hh _ _ rfl) o15 hw) x24 e24) (yC rfl rfl rfl)) rfl (dq rfl (fun hh => stpU_call (fun i => 11 + i) cf44 (fun w hw => c_s_WireLine fl w x3.1.c x24 true rfl (OwnC.pass (id := 4) (hh _ _ rfl) o15 hw) x25 e25) (yC rfl rfl rfl)) (by rintro _ _ ⟨_, ⟨_, _, _, _, rfl, rfl, _, _⟩, rfl⟩; rfl) (dq rfl (fun hh => stpU_alloc 12 tz29 rfl) (by rintro _ _ ⟨_, rfl, rfl⟩; rfl) (dp rfl ?_))))))))))))
 rintro _ _ ⟨_, ⟨p26, _, c28, C29, rfl, rfl, rfl, o29⟩, rfl⟩
 refine dM rfl (dT rfl (dT rfl (dp rfl ?_)))
 rintro _ _ ⟨b30, rfl, rfl⟩
 refine dC2 12 ts29 rfl rfl rfl (dS rfl (dn (kw_nx (cw_seq (sr (oM rfl (oK rfl (nn (cw_cond rfl (fun h31 => ?_) (fun h31 => ?_))))))))))
 ·have H0 := cond_t H0 h31
  refine sr (oD (stp_build (cs := #[.slice none 0 0, .slice none 0 0, .slice none 0 0, .int .i64 0, .int .i64 0, .int .i64 0, .int .i64 0, .slice none 0 0, .int .i64 0]) sevp_nil bt34_6) rfl (oC9 1 ts34 rfl rfl (oS rfl (nn (cw_ret (kw_nx_ret (kw_addNil 13 (kw_addNil 14 (kw_addNil 15 (kw_addNil 16 ?_))))))))))
  obtain rfl := sI H0
  exact kr Tryz.results15 (.cons (.cellN (us := [_, _, _, _, _, _, _, _, _]) ts34 rfl (Cells.box (id := 1) rfl 9 rfl)) (rT rfl)) [13, 14, 15, 16] ⟨_, _, _, _, _, _, _, _, _, _, _, _, _, _, _, _, rfl, rfl, rfl, (OwnC.nil _ _), rfl, (OwnC.nil _ _), rfl, (OwnC.nil _ _), rfl, (OwnC.nil _ _)⟩
 have H0 := cond_f H0 h31
 refine cw_skip (kw_nx (sr (oB2 12 ts29 rfl (oA 2 Tryz.underlying34 rfl ts29 rfl (oC9 6 ts29 rfl rfl (nn (sr (oB9 6 ts34 rfl (oC9 1 ts34 rfl rfl (oS rfl (nn (cw_ret ?_))))))))))))
 obtain rfl := sI H0
 exact kr Tryz.results15 (.cons (.cellN (us := [_, _, _, _, _, _, _, _, _]) ts34 rfl (Cells.box (id := 1) rfl 9 rfl)) (rT rfl)) [2, 3, 11, 5] ⟨_, _, _, _, _, _, _, _, _, _, _, _, _, _, _, _, rfl, rfl, rfl, o7, rfl, o11, rfl, o29, rfl, o19⟩

theorem c_s_FindPage (fl : Nat) (w : World) (a0 : T) (a1 : K) (hn0_0 : n0_0 = (a0.b).length) (hr0_0 : RO w (hkeys []) (RdL p0_0 c0_0 a0.b)) (hn0_1 : n0_1 = (a0.f).length) (hr0_1 : RO w (hkeys []) (RdL p0_1 c0_1 a0.f)) (r : Int × Int × Bool) (H0 : s_FindPage fl a0 a1 = some r) :
  Ct Tryz.prog 59 [.agg #[.slice p0_0 n0_0 c0_0, .slice p0_1 n0_1 c0_1], .agg #[.int .i64 a1.s, .int .i64 a1.p]] w [] (fun rv h' => rv = .tuple #[.int .i64 r.1, .int .i64 r.2.1, .bool r.2.2] ∧ h' = []) := by
 subst hn0_0 hn0_1
 unfold s_FindPage at H0
 refine ct_of_cw Tryz.func59 rfl Tryz.ntmps59 rfl (Sat.refl _ _) ?_
 refine sr (oE (stpU_box 0 rfl rfl) rfl ?_)
 rintro _ _ ⟨b1, rfl, rfl⟩
 refine oE (stpU_box 1 rfl rfl) rfl ?_
 rintro _ _ ⟨b2, rfl, rfl⟩
 obtain ⟨x3, e3, H0⟩ := bS H0
 refine oS rfl (oS rfl (oS rfl (nn (cw_seq (sr (oB2 0 ts26 rfl (oE (stpU_call (fun i => 2 + i) cf54 (fun w hw => c_s_TableValid fl w a0 rfl (RO.pass hr0_0 hw) rfl (RO.pass hr0_1 hw) x3 e3) (yA rfl)) rfl ?_)))))))
 rintro _ _ ⟨_, ⟨rfl, rfl⟩, rfl⟩
 obtain ⟨y4, ey4, H0⟩ := bS H0
 refine oK rfl (oM rfl (ow_cutY 4 16 y4 ?_ ?_))
 ·rcases Bool.eq_false_or_eq_true (!x3) with hy4 | hy4
  ·have ey4 := cond_t ey4 hy4
   refine oO rfl hy4 rfl (oO rfl hy4 rfl (oO rfl hy4 rfl (oD (stp_pick_t rfl hy4 rfl) rfl ?_)))
   obtain rfl := sI ey4
   exact ow_nil (jy 4 0)
  have ey4 := cond_f ey4 hy4
  obtain ⟨x5, e5, ey4⟩ := bS ey4
  refine oG rfl hy4 (stp_loadN (us := [_, _]) ts36 rfl (Cells.box (id := 1) rfl 2 rfl)) rfl (ow_eff (.some rfl hy4) (stpU_call (fun i => 2 + i) cf109 (fun w hw => c_s_KeyValid fl w a1 x5 e5) (yA rfl)) rfl ?_)
  rintro _ _ ⟨_, ⟨rfl, rfl⟩, rfl⟩
  refine oG rfl hy4 (stp_not rfl) rfl (oD (stp_pick_f rfl hy4 rfl) rfl ?_)
  obtain rfl := sI ey4
  exact ow_nil (jy 4 0)
 refine ow_nil (kw_nx (cw_cond rfl (fun h6 => ?_) (fun h6 => ?_)))
 ·have H0 := cond_t H0 h6
  refine sr (oS rfl (oS rfl (oS rfl (nn (cw_ret (kw_nx_ret ?_))))))
  obtain rfl := sI H0
  exact kr Tryz.results59 (.cons (.tmp rfl) (.cons (.tmp rfl) (rT rfl))) [] ⟨rfl, rfl⟩
 have H0 := cond_f H0 h6
 obtain ⟨x7, e7, H0⟩ := bS H0
 refine cw_skip (kw_nx (sr (oB2 0 ts26 rfl (oB2 1 ts36 rfl (oE (stpU_call (fun i => 2 + i) cf87 (fun w hw => c_s_l3Find fl w a0 a1 rfl (RO.pass hr0_0 hw) rfl (RO.pass hr0_1 hw) x7 e7) (yB rfl rfl)) rfl ?_)))))
 rintro _ _ ⟨_, ⟨rfl, rfl⟩, rfl⟩
 refine oM rfl (oT rfl (oT rfl (oS rfl (oS rfl (nn (cw_seq (sr (oM rfl (oW rfl (nn (cw_cond rfl (fun h8 => ?_) (fun h8 => ?_))))))))))))
 ·have H0 := cond_t H0 h8
  refine sr (oM rfl (oS rfl (oS rfl (oS rfl (nn (cw_ret (kw_nx_ret ?_)))))))
  obtain rfl := sI H0
  exact kr Tryz.results59 (.cons (.tmp rfl) (.cons (.tmp rfl) (rT rfl))) [] ⟨rfl, rfl⟩
 have H0 := cond_f H0 h8
 refine cw_skip (kw_nx (sr (oM rfl (oM rfl (oS rfl (oS rfl (oS rfl (nn (cw_ret ?_)))))))))
 obtain rfl := sI H0
 exact kr Tryz.results59 (.cons (.tmp rfl) (.cons (.tmp rfl) (rT rfl))) [] ⟨rfl, rfl⟩

theorem c_s_l3Unmap (fl : Nat) (w : World) (a0 : T) (a1 : Int) (hn0_0 : n0_0 = (a0.b).length) (hr0_0 : RO w (hkeys []) (RdL p0_0 c0_0 a0.b)) (hn0_1 : n0_1 = (a0.f).length) (hr0_1 : RO w (hkeys []) (RdL p0_1 c0_1 a0.f)) (r : T) (H0 : s_l3Unmap fl a0 a1 = some r) :
  Ct Tryz.prog 129 [.agg #[.slice p0_0 n0_0 c0_0, .slice p0_1 n0_1 c0_1], .int .i64 a1] w [] (fun rv h' => ∃ (x0 : Option Addr) (y0 z0 : Nat) (C0 : Res) (x1 : Option Addr) (y1 z1 : Nat) (C1 : Res), rv = .agg #[.slice x0 y0 z0, .slice x1 y1 z1] ∧ h' = [(0, C0), (1, C1)] ∧ y0 = (r.b).length ∧ OwnC 3 x0 z0 r.b C0 ∧ y1 = (r.f).length ∧ OwnC 74 x1 z1 r.f C1) := by
 subst hn0_0 hn0_1
 unfold s_l3Unmap at H0
 refine ct_of_cw Tryz.func129 rfl Tryz.ntmps129 rfl (Sat.refl _ _) ?_
 refine sr (oE (stpU_box 0 rfl rfl) rfl ?_)
 rintro _ _ ⟨b1, rfl, rfl⟩
 refine oE (stpU_alloc 1 tz26 rfl) rfl ?_
 rintro _ _ ⟨b2, rfl, rfl⟩
 obtain ⟨x3, e3, H0⟩ := bS H0
 refine nn (sr (oB2 0 ts26 rfl (oE (stpU_call (fun i => 2 + i) cf61 (fun w hw => c_s_l3Copy fl w a0 rfl (RO.pass hr0_0 hw) rfl (RO.pass hr0_1 hw) x3 e3) (yA rfl)) rfl ?_)))
 rintro _ _ ⟨_, ⟨p4, _, c6, C7, p8, _, c10, C11, rfl, rfl, rfl, o7, rfl, o11⟩, rfl⟩
 refine oE (stpU_alloc 4 tz26 rfl) rfl ?_
 rintro _ _ ⟨b12, rfl, rfl⟩
 obtain ⟨x13, e13, H0⟩ := bS H0
 obtain ⟨x14, e14, H0⟩ := bS H0
 refine oC2 4 ts26 rfl rfl (nn (cw_seq (rdt g_mixed (rn 0 11) ⟨[[],[0],[],[],[],[],[],[0]], [], []⟩ (dA 1 rfl Tryz.underlying26 rfl ts24 rfl (dL 0 ts24 rfl (dM rfl (dD rfl (stp_indexAddr Tryz.underlying24 ts74 (by decide) rfl rfl rfl (Rdb.ro hr0_1) e13) (dA 1 rfl Tryz.underlying74 rfl ts36 rfl (dD rfl (stp_loadN (us := [_, _]) ts36 rfl (Cells.el (Rdb.ro hr0_1) (by decide) e13 1 2 rfl)) (dA 0 rfl Tryz.underlying26 rfl ts23 rfl (dL 0 ts23 rfl (dD rfl (stp_len Tryz.underlying23 rfl) (dV rfl (fun hh => stpU_call (fun i => 5 + i) cf105 (fun w hw => c_s_l2Hash fl w x13.k ((a0.b).length : Int) x14 e14) (yB rfl rfl)) rfl ?_)))))))))))))
 refine dS rfl (dn (kw_nx (sr (oA 1 Tryz.underlying26 rfl ts24 rfl (oL 0 ts24 rfl (oM rfl (oD (stp_indexAddr Tryz.underlying24 ts74 (by decide) rfl rfl rfl (Rdb.ro hr0_1) e13) rfl (oA 4 Tryz.underlying74 rfl ts3 rfl (oD (stp_load1 ts3 rfl (Cells.el (Rdb.ro hr0_1) (by decide) e13 4 1 rfl)) rfl (oS rfl (nn (sr (oA 1 Tryz.underlying26 rfl ts24 rfl ?_)))))))))))))
 obtain ⟨x15, e15, H0⟩ := bS H0
 refine oL 4 ts24 rfl (oM rfl (oD (stp_build (cs := #[.bool false, .int .i64 0, .int .i64 0, .int .i64 0, .int .i64 (-1)]) (sevp_cons rfl sevp_nil) bt74_1) rfl (oD (stp_indexAddr Tryz.underlying24 ts74 (by decide) rfl rfl rfl (Rdb.own (id := 3) rfl o11) e15) rfl (oF (stpU_storeEl (id := 3) (i := 0) (⟨false, (⟨0, 0⟩ : K), 0, (-1)⟩ : F) (by decide) ts74 rfl rfl rfl o11 e15 rfl rfl rfl rfl) ?_))))
 rintro _ _ ⟨C16, rfl, o16⟩
 obtain ⟨x17, e17, H0⟩ := bS H0
 refine nn (cw_seq (sr (oA 0 Tryz.underlying26 rfl ts23 rfl (oL 0 ts23 rfl (oM rfl (oD (stp_indexAddr Tryz.underlying23 ts3 (by decide) rfl rfl rfl (Rdb.ro hr0_0) e17) rfl (oD (stp_load1 ts3 rfl (Cells.el (Rdb.ro hr0_0) (by decide) e17 0 1 rfl)) rfl (oM rfl (oQ rfl (nn (cw_cond rfl (fun h18 => ?_) (fun h18 => ?_))))))))))))
 ·have H0 := cond_t H0 h18
  obtain ⟨x19, e19, H0⟩ := bS H0
  refine sr (oA 0 Tryz.underlying26 rfl ts23 rfl (oL 4 ts23 rfl (oM rfl (oM rfl (oD (stp_indexAddr Tryz.underlying23 ts3 (by decide) rfl rfl rfl (Rdb.own (id := 2) rfl o7) e19) rfl (oF (stpU_storeEl (id := 2) (i := 0) x13.nx (by decide) ts3 rfl rfl rfl o7 e19 rfl rfl rfl rfl) ?_))))))
  rintro _ _ ⟨C20, rfl, o20⟩
  refine nn (sr (oB2 4 ts26 rfl (oC2 1 ts26 rfl rfl (nn (cw_ret (kw_nx_ret ?_))))))
  obtain rfl := sI H0
  exact kr Tryz.results129 (rC2 1 ts26 rfl rfl) [2, 3] ⟨_, _, _, _, _, _, _, _, rfl, rfl, (by simp), o20, (by simp), o16⟩
 have H0 := cond_f H0 h18
 obtain ⟨o0_0, eo0_0, H0⟩ := bS H0
 refine cw_skip (kw_nx (cw_seq (sr (oS rfl (nn (cw_join (ι := (List F) × Int × Res) (fun | (v21, v23, C22) => o0_0 = .out (v21, v23) ∧ (x3.f).length = (v21).length ∧ OwnC 74 p8 c10 v21 C22) (fun | (v21, v23, C22) => [(1, .int .i64 a1), (2, .pointer (some ⟨b1, 0, none⟩)), (4, .pointer (some ⟨b2, 0, none⟩)), (5, .pointer (some ⟨b12, 0, none⟩)), (7, .int .i64 x13.nx), (8, .int .i64 v23)]) (fun | (v21, v23, C22) => [(0, [(b1, .cells #[.slice p0_0 ((a0.b).length) c0_0, .slice p0_1 ((a0.f).length) c0_1] 26 (0, 0))]), (1, [(b2, .cells #[.slice none 0 0, .slice none 0 0] 26 (0, 0))]), (2, C7), (3, C22), (4, [(b12, .cells #[.slice p4 ((x3.b).length) c6, .slice p8 ((x3.f).length) c10] 26 (0, 0))])]) ?_ ?_))))))
 ·refine cw_block (cw_loopS (ι := Nat × (List F) × Int × Res) (js := [0, 1, 2, 3, 4]) (fun x => x.1) (fun | (fuel, v21, v23, C22) => s_l3Unmap_L0 fl a0 a1 x13 fuel v21 v23 = some o0_0 ∧ (x3.f).length = (v21).length ∧ OwnC 74 p8 c10 v21 C22) (fun | (_, v21, v23, C22) => [(1, .int .i64 a1), (2, .pointer (some ⟨b1, 0, none⟩)), (4, .pointer (some ⟨b2, 0, none⟩)), (5, .pointer (some ⟨b12, 0, none⟩)), (7, .int .i64 x13.nx), (8, .int .i64 v23)]) (fun | (_, v21, v23, C22) => [(0, [(b1, .cells #[.slice p0_0 ((a0.b).length) c0_0, .slice p0_1 ((a0.f).length) c0_1] 26 (0, 0))]), (1, [(b2, .cells #[.slice none 0 0, .slice none 0 0] 26 (0, 0))]), (2, C7), (3, C22), (4, [(b12, .cells #[.slice p4 ((x3.b).length) c6, .slice p8 ((x3.f).length) c10] 26 (0, 0))])]) (fl, (x3.f.set (Int.toNat a1) (⟨false, (⟨0, 0⟩ : K), 0, (-1)⟩ : F)), 0, C16) ⟨eo0_0, (by simp), o16⟩ ⟨rfl, rfl, rfl, rfl, rfl, rfl, trivial⟩ ⟨0, [1, 2, 3, 4], rfl, rfl, 1, [2, 3, 4], rfl, rfl, 2, [3, 4], rfl, rfl, 3, [4], rfl, rfl, 4, [], rfl, rfl, trivial⟩ (by decide) ?_)
  rintro ⟨fuel, v21, v23, C22⟩ ⟨H1, hl22, o22⟩
  have H1 : s_l3Unmap_L0 fl a0 a1 x13 fuel v21 v23 = some o0_0 := H1
  rcases fuel with _ | fuel
  ·rw [s_l3Unmap_L0.eq_1] at H1; cases H1
  rw [s_l3Unmap_L0.eq_2] at H1
  dsimp only
  refine cw_seq (sr (oM rfl (oA 1 Tryz.underlying26 rfl ts24 rfl (oL 0 ts24 rfl (oD (stp_len Tryz.underlying24 rfl) rfl (oW rfl (nn (cw_cond rfl (fun h24 => ?_) (fun h24 => ?_)))))))))
  ·have H1 := cond_t H1 h24
   obtain ⟨x25, e25, H1⟩ := bS H1
   obtain ⟨y26, ey26, H1⟩ := bS H1
   refine cw_skip (kw_nx (cw_seq (cw_block (sr (oA 1 Tryz.underlying26 rfl ts24 rfl (oL 0 ts24 rfl (oM rfl (oD (stp_indexAddr Tryz.underlying24 ts74 (by decide) rfl rfl rfl (Rdb.ro hr0_1) e25) rfl (oA 0 Tryz.underlying74 rfl ts4 rfl (oD (stp_load1 ts4 rfl (Cells.el (Rdb.ro hr0_1) (by decide) e25 0 1 rfl)) rfl (oM rfl (ow_cutY 9 67 y26 ?_ ?_))))))))))))
   ·rcases Bool.eq_false_or_eq_true x25.u with hy26 | hy26
    ·have ey26 := cond_t ey26 hy26
     refine oG rfl hy26 (fA 1 Tryz.underlying26 rfl ts24 rfl rfl rfl) rfl (oG rfl hy26 (lB 0 ts24 rfl rfl rfl) rfl (oG rfl hy26 (mv rfl) rfl (oG rfl hy26 (stp_indexAddr Tryz.underlying24 ts74 (by decide) rfl rfl rfl (Rdb.ro hr0_1) e25) rfl (oG rfl hy26 (fA 4 Tryz.underlying74 rfl ts3 rfl rfl rfl) rfl (oG rfl hy26 (stp_load1 ts3 rfl (Cells.el (Rdb.ro hr0_1) (by decide) e25 4 1 rfl)) rfl (oG rfl hy26 (mv rfl) rfl (oG rfl hy26 (stp_eql rfl rfl) rfl (oD (stp_pick_t rfl hy26 rfl) rfl ?_))))))))
     obtain rfl := sI ey26
     exact ow_nil (jy 9 0)
    have ey26 := cond_f ey26 hy26
    refine oO rfl hy26 rfl (oO rfl hy26 rfl (oO rfl hy26 rfl (oO rfl hy26 rfl (oO rfl hy26 rfl (oO rfl hy26 rfl (oO rfl hy26 rfl (oO rfl hy26 rfl (oD (stp_pick_f rfl hy26 rfl) rfl ?_))))))))
    obtain rfl := sI ey26
    exact ow_nil (jy 9 0)
   refine ow_nil (kw_nx (cw_cond rfl (fun h27 => ?_) (fun h27 => ?_)))
   ·have H1 := cond_t H1 h27
    obtain ⟨x28, e28, H1⟩ := bS H1
    refine cw_region (oA 1 Tryz.underlying26 rfl ts24 rfl (oL 4 ts24 rfl (oM rfl (oM rfl (oD (stp_indexAddr Tryz.underlying24 ts74 (by decide) rfl (by simp [hl22]) rfl (Rdb.own (id := 3) rfl o22) e28) rfl (oA 4 Tryz.underlying74 rfl ts3 rfl (oF (stpU_storeEl (id := 3) (i := 4) (⟨x28.u, x28.k, x28.r, x13.nx⟩ : F) (by decide) ts3 rfl rfl rfl o22 e28 rfl rfl rfl rfl) ?_)))))))
    rintro _ _ ⟨C29, rfl, o29⟩
    obtain ⟨x30, e30, H1⟩ := bS H1
    exact ow_nil (kw_bl_normal (kw_nx (cw_region (oM rfl (oP e30 rfl (oS rfl (ow_nil (kw_lqS (js := [0, 1, 2, 3, 4]) (fuel, (v21.set (Int.toNat v23) (⟨x28.u, x28.k, x28.r, x13.nx⟩ : F)), x30, C29) ⟨H1, (by simp [hl22]), o29⟩ (Nat.lt_succ_self _) ⟨rfl, rfl, rfl, rfl, rfl, rfl, trivial⟩ ⟨0, [1, 2, 3, 4], rfl, rfl, 1, [2, 3, 4], rfl, rfl, 2, [3, 4], rfl, rfl, 3, [4], rfl, rfl, 4, [], rfl, rfl, trivial⟩ (by decide)))))))))
   have H1 := cond_f H1 h27
   obtain ⟨x31, e31, H1⟩ := bS H1
   exact cw_skip (kw_bl_normal (kw_nx (cw_region (oM rfl (oP e31 rfl (oS rfl (ow_nil (kw_lqS (js := [0, 1, 2, 3, 4]) (fuel, v21, x31, C22) ⟨H1, (by simp [hl22]), o22⟩ (Nat.lt_succ_self _) ⟨rfl, rfl, rfl, rfl, rfl, rfl, trivial⟩ ⟨0, [1, 2, 3, 4], rfl, rfl, 1, [2, 3, 4], rfl, rfl, 2, [3, 4], rfl, rfl, 3, [4], rfl, rfl, 4, [], rfl, rfl, trivial⟩ (by decide)))))))))
  have H1 := cond_f H1 h24
  refine cw_exit (kw_nx_exit (kw_lq_exit (kw_bl ?_)))
  obtain rfl := sI H1
  exact kw_joinS (js := [0, 1, 2, 3, 4]) (v21, v23, C22) ⟨rfl, (by simp [hl22]), o22⟩ ⟨rfl, rfl, rfl, rfl, rfl, rfl, trivial⟩ ⟨0, [1, 2, 3, 4], rfl, rfl, 1, [2, 3, 4], rfl, rfl, 2, [3, 4], rfl, rfl, 3, [4], rfl, rfl, 4, [], rfl, rfl, trivial⟩ (by decide)
 rintro ⟨v21, v23, C22⟩ ⟨rfl, hl22, o22⟩
 dsimp only
 refine kw_nx (sr (oB2 4 ts26 rfl (oC2 1 ts26 rfl rfl (nn (cw_ret ?_)))))
 obtain rfl := sI H0
 exact kr Tryz.results129 (rC2 1 ts26 rfl rfl) [2, 3] ⟨_, _, _, _, _, _, _, _, rfl, rfl, rfl, o7, (by simp [hl22]), o22⟩

theorem c_s_UnmapPage (fl : Nat) (w : World) (a0 : T) (a1 : K) (hn0_0 : n0_0 = (a0.b).length) (hr0_0 : RO w (hkeys []) (RdL p0_0 c0_0 a0.b)) (hn0_1 : n0_1 = (a0.f).length) (hr0_1 : RO w (hkeys []) (RdL p0_1 c0_1 a0.f)) (r : T × Bool) (H0 : s_UnmapPage fl a0 a1 = some r) :
  Ct Tryz.prog 127 [.agg #[.slice p0_0 n0_0 c0_0, .slice p0_1 n0_1 c0_1], .agg #[.int .i64 a1.s, .int .i64 a1.p]] w [] (fun rv h' => ∃ (x0 : Option Addr) (y0 z0 : Nat) (C0 : Res) (x1 : Option Addr) (y1 z1 : Nat) (C1 : Res), rv = .tuple #[.agg #[.slice x0 y0 z0, .slice x1 y1 z1], .bool r.2] ∧ h' = [(0, C0), (1, C1)] ∧ y0 = (r.1.b).length ∧ OwnC 3 x0 z0 r.1.b C0 ∧ y1 = (r.1.f).length ∧ OwnC 74 x1 z1 r.1.f C1) := by
 subst hn0_0 hn0_1
 unfold s_UnmapPage at H0
 refine ct_of_cw Tryz.func127 rfl Tryz.ntmps127 rfl (Sat.refl _ _) ?_
 refine sr (oE (stpU_box 0 rfl rfl) rfl ?_)
 rintro _ _ ⟨b1, rfl, rfl⟩
 refine oE (stpU_box 1 rfl rfl) rfl ?_
 rintro _ _ ⟨b2, rfl, rfl⟩
 refine oE (stpU_alloc 2 tz26 rfl) rfl ?_
 rintro _ _ ⟨b3, rfl, rfl⟩
 obtain ⟨x4, e4, H0⟩ := bS H0
 refine oS rfl (nn (sr (oB2 0 ts26 rfl (oB2 1 ts36 rfl (oE (stpU_call (fun i => 3 + i) cf59 (fun w hw => c_s_FindPage fl w a0 a1 rfl (RO.pass hr0_0 hw) rfl (RO.pass hr0_1 hw) x4 e4) (yB rfl rfl)) rfl ?_)))))
 rintro _ _ ⟨_, ⟨rfl, rfl⟩, rfl⟩
 refine oM rfl (oT rfl (oT rfl (oT rfl (oS rfl (oS rfl (oS rfl (nn (cw_seq (sr (oM rfl (oK rfl (nn (cw_cond rfl (fun h5 => ?_) (fun h5 => ?_))))))))))))))
 ·have H0 := cond_t H0 h5
  refine sr (oD (stp_build (cs := #[.slice none 0 0, .slice none 0 0]) sevp_nil bt26_0) rfl (oC2 2 ts26 rfl rfl (oS rfl (nn (cw_ret (kw_nx_ret (kw_addNil 3 (kw_addNil 4 ?_))))))))
  obtain rfl := sI H0
  exact kr Tryz.results127 (.cons (.cellN (us := [_, _]) ts26 rfl (Cells.box (id := 2) rfl 2 rfl)) (rT rfl)) [3, 4] ⟨_, _, _, _, _, _, _, _, rfl, rfl, rfl, (OwnC.nil _ _), rfl, (OwnC.nil _ _)⟩
 have H0 := cond_f H0 h5
 obtain ⟨x6, e6, H0⟩ := bS H0
 refine cw_skip (kw_nx (sr (oB2 0 ts26 rfl (oM rfl (oE (stpU_call (fun i => 5 + i) cf129 (fun w hw => c_s_l3Unmap fl w a0 x4.1 rfl (RO.pass hr0_0 hw) rfl (RO.pass hr0_1 hw) x6 e6) (yB rfl rfl)) rfl ?_)))))
 rintro _ _ ⟨_, ⟨p7, _, c9, C10, p11, _, c13, C14, rfl, rfl, rfl, o10, rfl, o14⟩, rfl⟩
 refine oC2 2 ts26 rfl rfl (oS rfl (nn (cw_ret ?_)))
 obtain rfl := sI H0
 exact kr Tryz.results127 (.cons (.cellN (us := [_, _]) ts26 rfl (Cells.box (id := 2) rfl 2 rfl)) (rT rfl)) [5, 6] ⟨_, _, _, _, _, _, _, _, rfl, rfl, rfl, o10, rfl, o14⟩

theorem c_s_l4Tag (fl : Nat) (w : World) (a0 : Int) (r : Bool) (H0 : s_l4Tag fl a0 = some r) :
  Ct Tryz.prog 122 [.int .i64 a0] w [] (fun rv h' => rv = .bool r ∧ h' = []) := by
 unfold s_l4Tag at H0
 refine ct_of_cw Tryz.func122 rfl Tryz.ntmps122 rfl (Sat.refl _ _) ?_
 obtain ⟨y1, ey1, H0⟩ := bS H0
 refine sr (oS rfl (nn (sr (oM rfl (oI rfl (oM rfl (ow_cutY 3 8 y1 ?_ ?_)))))))
 ·rcases Bool.eq_false_or_eq_true (decide ((-1) ≤ a0)) with hy1 | hy1
  ·have ey1 := cond_t ey1 hy1
   refine oG rfl hy1 (mv rfl) rfl (oG rfl hy1 (stp_lss rfl rfl) rfl (oD (stp_pick_t rfl hy1 rfl) rfl ?_))
   obtain rfl := sI ey1
   exact ow_nil (jy 3 0)
  have ey1 := cond_f ey1 hy1
  refine oO rfl hy1 rfl (oO rfl hy1 rfl (oD (stp_pick_f rfl hy1 rfl) rfl ?_))
  obtain rfl := sI ey1
  exact ow_nil (jy 3 0)
 refine oS rfl (nn (cw_ret ?_))
 obtain rfl := sI H0
 exact kr Tryz.results122 (rT rfl) [] ⟨rfl, rfl⟩

theorem c_s_FindLine (fl : Nat) (w : World) (a0 : Ca) (a1 : Int) (a2 : Int) (hn0_0 : n0_0 = (a0.l).length) (hr0_0 : RO w (hkeys []) (RdL p0_0 c0_0 a0.l)) (r : Int × Bool) (H0 : s_FindLine fl a0 a1 a2 = some r) :
  Ct Tryz.prog 111 [.agg #[.slice p0_0 n0_0 c0_0, .int .i64 a0.h], .int .i64 a1, .int .i64 a2] w [] (fun rv h' => rv = .tuple #[.int .i64 r.1, .bool r.2] ∧ h' = []) := by
 subst hn0_0
 unfold s_FindLine at H0
 refine ct_of_cw Tryz.func111 rfl Tryz.ntmps111 rfl (Sat.refl _ _) ?_
 refine sr (oE (stpU_box 0 rfl rfl) rfl ?_)
 rintro _ _ ⟨b1, rfl, rfl⟩
 obtain ⟨x2, e2, H0⟩ := bS H0
 refine oS rfl (oS rfl (nn (cw_seq (sr (oB2 0 ts29 rfl (oE (stpU_call (fun i => 1 + i) cf55 (fun w hw => c_s_CacheValid fl w a0 rfl (RO.pass hr0_0 hw) x2 e2) (yA rfl)) rfl ?_))))))
 rintro _ _ ⟨_, ⟨rfl, rfl⟩, rfl⟩
 obtain ⟨y3, ey3, H0⟩ := bS H0
 refine oK rfl (oM rfl (ow_cutY 4 16 y3 ?_ ?_))
 ·rcases Bool.eq_false_or_eq_true (!x2) with hy3 | hy3
  ·have ey3 := cond_t ey3 hy3
   refine oO rfl hy3 rfl (oO rfl hy3 rfl (oO rfl hy3 rfl (oD (stp_pick_t rfl hy3 rfl) rfl ?_)))
   obtain rfl := sI ey3
   exact ow_nil (jy 4 0)
  have ey3 := cond_f ey3 hy3
  obtain ⟨x4, e4, ey3⟩ := bS ey3
  refine oG rfl hy3 (mv rfl) rfl (ow_eff (.some rfl hy3) (stpU_call (fun i => 1 + i) cf122 (fun w hw => c_s_l4Tag fl w a1 x4 e4) (yA rfl)) rfl ?_)
  rintro _ _ ⟨_, ⟨rfl, rfl⟩, rfl⟩
  refine oG rfl hy3 (stp_not rfl) rfl (oD (stp_pick_f rfl hy3 rfl) rfl ?_)
  obtain rfl := sI ey3
  exact ow_nil (jy 4 0)
 obtain ⟨y5, ey5, H0⟩ := bS H0
 refine oM rfl (ow_cutY 4 21 y5 ?_ ?_)
 ·rcases Bool.eq_false_or_eq_true y3 with hy5 | hy5
  ·have ey5 := cond_t ey5 hy5
   refine oO rfl hy5 rfl (oO rfl hy5 rfl (oO rfl hy5 rfl (oD (stp_pick_t rfl hy5 rfl) rfl ?_)))
   obtain rfl := sI ey5
   exact ow_nil (jy 4 0)
  have ey5 := cond_f ey5 hy5
  obtain ⟨x6, e6, ey5⟩ := bS ey5
  refine oG rfl hy5 (mv rfl) rfl (ow_eff (.some rfl hy5) (stpU_call (fun i => 1 + i) cf86 (fun w hw => c_s_l1Page fl w a2 x6 e6) (yA rfl)) rfl ?_)
  rintro _ _ ⟨_, ⟨rfl, rfl⟩, rfl⟩
  refine oG rfl hy5 (stp_not rfl) rfl (oD (stp_pick_f rfl hy5 rfl) rfl ?_)
  obtain rfl := sI ey5
  exact ow_nil (jy 4 0)
 refine ow_nil (kw_nx (cw_cond rfl (fun h7 => ?_) (fun h7 => ?_)))
 ·have H0 := cond_t H0 h7
  refine sr (oS rfl (oS rfl (nn (cw_ret (kw_nx_ret ?_)))))
  obtain rfl := sI H0
  exact kr Tryz.results111 (.cons (.tmp rfl) (rT rfl)) [] ⟨rfl, rfl⟩
 have H0 := cond_f H0 h7
 obtain ⟨x8, e8, H0⟩ := bS H0
 refine cw_skip (kw_nx (sr (oB2 0 ts29 rfl (oM rfl (oM rfl (oE (stpU_call (fun i => 1 + i) cf45 (fun w hw => c_s_l4Find fl w a0 a1 a2 rfl (RO.pass hr0_0 hw) x8 e8) (yC rfl rfl rfl)) rfl ?_))))))
 rintro _ _ ⟨_, ⟨rfl, rfl⟩, rfl⟩
 refine oS rfl (nn (cw_seq (sr (oM rfl (oW rfl (nn (cw_cond rfl (fun h9 => ?_) (fun h9 => ?_))))))))
 ·have H0 := cond_t H0 h9
  refine sr (oS rfl (oS rfl (nn (cw_ret (kw_nx_ret ?_)))))
  obtain rfl := sI H0
  exact kr Tryz.results111 (.cons (.tmp rfl) (rT rfl)) [] ⟨rfl, rfl⟩
 have H0 := cond_f H0 h9
 refine cw_skip (kw_nx (sr (oM rfl (oS rfl (oS rfl (nn (cw_ret ?_)))))))
 obtain rfl := sI H0
 exact kr Tryz.results111 (.cons (.tmp rfl) (rT rfl)) [] ⟨rfl, rfl⟩

theorem c_s_DropPage (fl : Nat) (w : World) (a0 : Ca) (a1 : Int) (a2 : Int) (hn0_0 : n0_0 = (a0.l).length) (hr0_0 : RO w (hkeys []) (RdL p0_0 c0_0 a0.l)) (r : Ca × Bool) (H0 : s_DropPage fl a0 a1 a2 = some r) :
  Ct Tryz.prog 64 [.agg #[.slice p0_0 n0_0 c0_0, .int .i64 a0.h], .int .i64 a1, .int .i64 a2] w [] (fun rv h' => ∃ (x0 : Option Addr) (y0 z0 : Nat) (C0 : Res), rv = .tuple #[.agg #[.slice x0 y0 z0, .int .i64 r.1.h], .bool r.2] ∧ h' = [(0, C0)] ∧ y0 = (r.1.l).length ∧ OwnC 66 x0 z0 r.1.l C0) := by
 subst hn0_0
 unfold s_DropPage at H0
 refine ct_of_cw Tryz.func64 rfl Tryz.ntmps64 rfl (Sat.refl _ _) ?_
 refine sr (oE (stpU_box 0 rfl rfl) rfl ?_)
 rintro _ _ ⟨b1, rfl, rfl⟩
 refine oE (stpU_alloc 1 tz29 rfl) rfl ?_
 rintro _ _ ⟨b2, rfl, rfl⟩
 obtain ⟨x3, e3, H0⟩ := bS H0
 refine oS rfl (nn (sr (oB2 0 ts29 rfl (oM rfl (oM rfl (oE (stpU_call (fun i => 2 + i) cf111 (fun w hw => c_s_FindLine fl w a0 a1 a2 rfl (RO.pass hr0_0 hw) x3 e3) (yC rfl rfl rfl)) rfl ?_))))))
 rintro _ _ ⟨_, ⟨rfl, rfl⟩, rfl⟩
 refine oM rfl (oT rfl (oT rfl (oS rfl (oS rfl (nn (cw_seq (sr (oM rfl (oK rfl (nn (cw_cond rfl (fun h4 => ?_) (fun h4 => ?_))))))))))))
 ·have H0 := cond_t H0 h4
  refine sr (oD (stp_build (cs := #[.slice none 0 0, .int .i64 0]) sevp_nil bt29_2) rfl (oC2 1 ts29 rfl rfl (oS rfl (nn (cw_ret (kw_nx_ret (kw_addNil 2 ?_)))))))
  obtain rfl := sI H0
  exact kr Tryz.results64 (.cons (.cellN (us := [_, _]) ts29 rfl (Cells.box (id := 1) rfl 2 rfl)) (rT rfl)) [2] ⟨_, _, _, _, rfl, rfl, rfl, (OwnC.nil _ _)⟩
 have H0 := cond_f H0 h4
 obtain ⟨x5, e5, H0⟩ := bS H0
 refine cw_skip (kw_nx (sr (oB2 0 ts29 rfl (oE (stpU_call (fun i => 3 + i) cf90 (fun w hw => c_s_l4Copy fl w a0 rfl (RO.pass hr0_0 hw) x5 e5) (yA rfl)) rfl ?_))))
 rintro _ _ ⟨_, ⟨p6, _, c8, C9, rfl, rfl, rfl, o9⟩, rfl⟩
 refine oE (stpU_alloc 4 tz29 rfl) rfl ?_
 rintro _ _ ⟨b10, rfl, rfl⟩
 obtain ⟨x11, e11, H0⟩ := bS H0
 refine oC2 4 ts29 rfl rfl (nn (sr (oA 0 Tryz.underlying29 rfl ts27 rfl (oL 4 ts27 rfl (oM rfl (oD (stp_build (cs := #[.bool false, .int .i64 0, .int .i64 0, .int .i64 0, .int .i64 0, .bool false]) sevp_nil bt66_11) rfl (oD (stp_indexAddr Tryz.underlying27 ts66 (by decide) rfl rfl rfl (Rdb.own (id := 3) rfl o9) e11) rfl (oF (stpU_storeEl (id := 3) (i := 0) (⟨false, 0, 0, 0, 0, false⟩ : Ln) (by decide) ts66 rfl rfl rfl o9 e11 rfl rfl rfl rfl) ?_))))))))
 rintro _ _ ⟨C12, rfl, o12⟩
 refine nn (sr (oB2 4 ts29 rfl (oC2 1 ts29 rfl rfl (oS rfl (nn (cw_ret ?_))))))
 obtain rfl := sI H0
 exact kr Tryz.results64 (.cons (.cellN (us := [_, _]) ts29 rfl (Cells.box (id := 1) rfl 2 rfl)) (rT rfl)) [3] ⟨_, _, _, _, rfl, rfl, (by simp), o12⟩

theorem c_s_l6Forget (fl : Nat) (w : World) (a0 : Mc) (a1 : K) (hn0_0 : n0_0 = (a0.t.b).length) (hr0_0 : RO w (hkeys []) (RdL p0_0 c0_0 a0.t.b)) (hn0_1 : n0_1 = (a0.t.f).length) (hr0_1 : RO w (hkeys []) (RdL p0_1 c0_1 a0.t.f)) (hn0_2 : n0_2 = (a0.c.l).length) (hr0_2 : RO w (hkeys []) (RdL p0_2 c0_2 a0.c.l)) (hn0_3 : n0_3 = (a0.g.o).length) (hr0_3 : RO w (hkeys []) (RdL p0_3 c0_3 a0.g.o)) (r : Mc) (H0 : s_l6Forget fl a0 a1 = some r) :
  Ct Tryz.prog 23 [.agg #[.slice p0_0 n0_0 c0_0, .slice p0_1 n0_1 c0_1, .slice p0_2 n0_2 c0_2, .int .i64 a0.c.h, .int .i64 a0.g.c, .int .i64 a0.g.n, .int .i64 a0.g.r, .slice p0_3 n0_3 c0_3, .int .i64 a0.s], .agg #[.int .i64 a1.s, .int .i64 a1.p]] w [] (fun rv h' => ∃ (x0 : Option Addr) (y0 z0 : Nat) (C0 : Res) (x1 : Option Addr) (y1 z1 : Nat) (C1 : Res) (x2 : Option Addr) (y2 z2 : Nat) (C2 : Res) (x3 : Option Addr) (y3 z3 : Nat) (C3 : Res), rv = .agg #[.slice x0 y0 z0, .slice x1 y1 z1, .slice x2 y2 z2, .int .i64 r.c.h, .int .i64 r.g.c, .int .i64 r.g.n, .int .i64 r.g.r, .slice x3 y3 z3, .int .i64 r.s] ∧ h' = [(0, C0), (1, C1), (2, C2), (3, C3)] ∧ y0 = (r.t.b).length ∧ OwnC 3 x0 z0 r.t.b C0 ∧ y1 = (r.t.f).length ∧ OwnC 74 x1 z1 r.t.f C1 ∧ y2 = (r.c.l).length ∧ OwnC 66 x2 z2 r.c.l C2 ∧ y3 = (r.g.o).length ∧ OwnC 108 x3 z3 r.g.o C3) := by
 subst hn0_0 hn0_1 hn0_2 hn0_3
 unfold s_l6Forget at H0
 refine ct_of_cw Tryz.func23 rfl Tryz.ntmps23 rfl (Sat.refl _ _) ?_
 refine sr (oE (stpU_box 0 rfl rfl) rfl ?_)
 rintro _ _ ⟨b1, rfl, rfl⟩
 refine oE (stpU_box 1 rfl rfl) rfl ?_
 rintro _ _ ⟨b2, rfl, rfl⟩
 refine oE (stpU_alloc 2 tz34 rfl) rfl ?_
 rintro _ _ ⟨b3, rfl, rfl⟩
 obtain ⟨x4, e4, H0⟩ := bS H0
 refine nn (sr (oB9 0 ts34 rfl (oE (stpU_call (fun i => 3 + i) cf62 (fun w hw => c_s_l6Copy fl w a0 rfl (RO.pass hr0_0 hw) rfl (RO.pass hr0_1 hw) rfl (RO.pass hr0_2 hw) rfl (RO.pass hr0_3 hw) x4 e4) (yA rfl)) rfl ?_)))
 rintro _ _ ⟨_, ⟨p5, _, c7, C8, p9, _, c11, C12, p13, _, c15, C16, p17, _, c19, C20, rfl, rfl, rfl, o8, rfl, o12, rfl, o16, rfl, o20⟩, rfl⟩
 refine oE (stpU_alloc 7 tz34 rfl) rfl ?_
 rintro _ _ ⟨b21, rfl, rfl⟩
 obtain ⟨x22, e22, H0⟩ := bS H0
 refine oC9 7 ts34 rfl rfl (nn (sr (oB9 0 ts34 rfl (oA 0 Tryz.underlying36 rfl ts3 rfl (oL 1 ts3 rfl (oA 1 Tryz.underlying36 rfl ts3 rfl (oL 1 ts3 rfl (oE (stpU_call (fun i => 8 + i) cf63 (fun w hw => c_s_l6Tag fl w a0 a1.s a1.p rfl (RO.pass hr0_0 hw) rfl (RO.pass hr0_1 hw) rfl (RO.pass hr0_2 hw) rfl (RO.pass hr0_3 hw) x22 e22) (yC rfl rfl rfl)) rfl ?_))))))))
 rintro _ _ ⟨_, ⟨rfl, rfl⟩, rfl⟩
 refine oM rfl (oT rfl (oT rfl (oS rfl (oS rfl (nn (cw_seq (sr (oM rfl (oK rfl (nn (cw_cond rfl (fun h23 => ?_) (fun h23 => ?_))))))))))))
 ·have H0 := cond_t H0 h23
  refine sr (oB9 7 ts34 rfl (oC9 2 ts34 rfl rfl (nn (cw_ret (kw_nx_ret ?_)))))
  obtain rfl := sI H0
  exact kr Tryz.results23 (rC9 2 ts34 rfl rfl) [3, 4, 5, 6] ⟨_, _, _, _, _, _, _, _, _, _, _, _, _, _, _, _, rfl, rfl, rfl, o8, rfl, o12, rfl, o16, rfl, o20⟩
 have H0 := cond_f H0 h23
 obtain ⟨x24, e24, H0⟩ := bS H0
 refine cw_skip (kw_nx (sr (oA 2 Tryz.underlying34 rfl ts29 rfl (oB2 0 ts29 rfl (oM rfl (oA 1 Tryz.underlying36 rfl ts3 rfl (oL 1 ts3 rfl (oE (stpU_call (fun i => 8 + i) cf64 (fun w hw => c_s_DropPage fl w a0.c x22.1 a1.p rfl (RO.pass hr0_2 hw) x24 e24) (yC rfl rfl rfl)) rfl ?_))))))))
 rintro _ _ ⟨_, ⟨p25, _, c27, C28, rfl, rfl, rfl, o28⟩, rfl⟩
 refine oM rfl (oT rfl (oT rfl (oE (stpU_alloc 9 tz29 rfl) rfl ?_)))
 rintro _ _ ⟨b29, rfl, rfl⟩
 refine oC2 9 ts29 rfl rfl (oS rfl (nn (cw_seq (sr (oM rfl (nn (cw_cond rfl (fun h30 => ?_) (fun h30 => ?_))))))))
 ·have H0 := cond_t H0 h30
  refine cw_region (oB2 9 ts29 rfl (oA 2 Tryz.underlying34 rfl ts29 rfl (oC9 7 ts29 rfl rfl (nn (sr (oB9 7 ts34 rfl (oC9 2 ts34 rfl rfl (nn (cw_ret ?_)))))))))
  obtain rfl := sI H0
  exact kr Tryz.results23 (rC9 2 ts34 rfl rfl) [3, 4, 8, 6] ⟨_, _, _, _, _, _, _, _, _, _, _, _, _, _, _, _, rfl, rfl, rfl, o8, rfl, o12, rfl, o28, rfl, o20⟩
 have H0 := cond_f H0 h30
 refine cw_skip (kw_nx (sr (oB9 7 ts34 rfl (oC9 2 ts34 rfl rfl (nn (cw_ret ?_))))))
 obtain rfl := sI H0
 exact kr Tryz.results23 (rC9 2 ts34 rfl rfl) [3, 4, 5, 6] ⟨_, _, _, _, _, _, _, _, _, _, _, _, _, _, _, _, rfl, rfl, rfl, o8, rfl, o12, rfl, o16, rfl, o20⟩

theorem c_s_TakePage (fl : Nat) (w : World) (a0 : Mc) (a1 : K) (hn0_0 : n0_0 = (a0.t.b).length) (hr0_0 : RO w (hkeys []) (RdL p0_0 c0_0 a0.t.b)) (hn0_1 : n0_1 = (a0.t.f).length) (hr0_1 : RO w (hkeys []) (RdL p0_1 c0_1 a0.t.f)) (hn0_2 : n0_2 = (a0.c.l).length) (hr0_2 : RO w (hkeys []) (RdL p0_2 c0_2 a0.c.l)) (hn0_3 : n0_3 = (a0.g.o).length) (hr0_3 : RO w (hkeys []) (RdL p0_3 c0_3 a0.g.o)) (r : Mc × Bool) (H0 : s_TakePage fl a0 a1 = some r) :
  Ct Tryz.prog 120 [.agg #[.slice p0_0 n0_0 c0_0, .slice p0_1 n0_1 c0_1, .slice p0_2 n0_2 c0_2, .int .i64 a0.c.h, .int .i64 a0.g.c, .int .i64 a0.g.n, .int .i64 a0.g.r, .slice p0_3 n0_3 c0_3, .int .i64 a0.s], .agg #[.int .i64 a1.s, .int .i64 a1.p]] w [] (fun rv h' => ∃ (x0 : Option Addr) (y0 z0 : Nat) (C0 : Res) (x1 : Option Addr) (y1 z1 : Nat) (C1 : Res) (x2 : Option Addr) (y2 z2 : Nat) (C2 : Res) (x3 : Option Addr) (y3 z3 : Nat) (C3 : Res), rv = .tuple #[.agg #[.slice x0 y0 z0, .slice x1 y1 z1, .slice x2 y2 z2, .int .i64 r.1.c.h, .int .i64 r.1.g.c, .int .i64 r.1.g.n, .int .i64 r.1.g.r, .slice x3 y3 z3, .int .i64 r.1.s], .bool r.2] ∧ h' = [(0, C0), (1, C1), (2, C2), (3, C3)] ∧ y0 = (r.1.t.b).length ∧ OwnC 3 x0 z0 r.1.t.b C0 ∧ y1 = (r.1.t.f).length ∧ OwnC 74 x1 z1 r.1.t.f C1 ∧ y2 = (r.1.c.l).length ∧ OwnC 66 x2 z2 r.1.c.l C2 ∧ y3 = (r.1.g.o).length ∧ OwnC 108 x3 z3 r.1.g.o C3) := by
 subst hn0_0 hn0_1 hn0_2 hn0_3
 unfold s_TakePage at H0
 refine ct_of_cw Tryz.func120 rfl Tryz.ntmps120 rfl (Sat.refl _ _) ?_
 refine sr (oE (stpU_box 0 rfl rfl) rfl ?_)
 rintro _ _ ⟨b1, rfl, rfl⟩
 refine oE (stpU_box 1 rfl rfl) rfl ?_
 rintro _ _ ⟨b2, rfl, rfl⟩
 refine oE (stpU_alloc 2 tz34 rfl) rfl ?_
 rintro _ _ ⟨b3, rfl, rfl⟩
 obtain ⟨x4, e4, H0⟩ := bS H0
 refine oS rfl (nn (cw_seq (sr (oB9 0 ts34 rfl (oE (stpU_call (fun i => 3 + i) cf21 (fun w hw => c_s_MachineValid fl w a0 rfl (RO.pass hr0_0 hw) rfl (RO.pass hr0_1 hw) rfl (RO.pass hr0_2 hw) rfl (RO.pass hr0_3 hw) x4 e4) (yA rfl)) rfl ?_)))))
 rintro _ _ ⟨_, ⟨rfl, rfl⟩, rfl⟩
 refine oK rfl (nn (cw_cond rfl (fun h5 => ?_) (fun h5 => ?_)))
 ·have H0 := cond_t H0 h5
  refine sr (oD (stp_build (cs := #[.slice none 0 0, .slice none 0 0, .slice none 0 0, .int .i64 0, .int .i64 0, .int .i64 0, .int .i64 0, .slice none 0 0, .int .i64 0]) sevp_nil bt34_6) rfl (oC9 2 ts34 rfl rfl (oS rfl (nn (cw_ret (kw_nx_ret (kw_addNil 3 (kw_addNil 4 (kw_addNil 5 (kw_addNil 6 ?_))))))))))
  obtain rfl := sI H0
  exact kr Tryz.results120 (.cons (.cellN (us := [_, _, _, _, _, _, _, _, _]) ts34 rfl (Cells.box (id := 2) rfl 9 rfl)) (rT rfl)) [3, 4, 5, 6] ⟨_, _, _, _, _, _, _, _, _, _, _, _, _, _, _, _, rfl, rfl, rfl, (OwnC.nil _ _), rfl, (OwnC.nil _ _), rfl, (OwnC.nil _ _), rfl, (OwnC.nil _ _)⟩
 have H0 := cond_f H0 h5
 obtain ⟨x6, e6, H0⟩ := bS H0
 refine cw_skip (kw_nx (sr (oA 0 Tryz.underlying34 rfl ts26 rfl (oB2 0 ts26 rfl (oB2 1 ts36 rfl (oE (stpU_call (fun i => 7 + i) cf127 (fun w hw => c_s_UnmapPage fl w a0.t a1 rfl (RO.pass hr0_0 hw) rfl (RO.pass hr0_1 hw) x6 e6) (yB rfl rfl)) rfl ?_))))))
 rintro _ _ ⟨_, ⟨p7, _, c9, C10, p11, _, c13, C14, rfl, rfl, rfl, o10, rfl, o14⟩, rfl⟩
 refine oM rfl (oT rfl (oT rfl (oE (stpU_alloc 9 tz26 rfl) rfl ?_)))
 rintro _ _ ⟨b15, rfl, rfl⟩
 refine oC2 9 ts26 rfl rfl (oS rfl (nn (cw_seq (sr (oM rfl (oK rfl (nn (cw_cond rfl (fun h16 => ?_) (fun h16 => ?_)))))))))
 ·have H0 := cond_t H0 h16
  refine sr (oD (stp_build (cs := #[.slice none 0 0, .slice none 0 0, .slice none 0 0, .int .i64 0, .int .i64 0, .int .i64 0, .int .i64 0, .slice none 0 0, .int .i64 0]) sevp_nil bt34_6) rfl (oC9 2 ts34 rfl rfl (oS rfl (nn (cw_ret (kw_nx_ret (kw_addNil 10 (kw_addNil 11 (kw_addNil 12 (kw_addNil 13 ?_))))))))))
  obtain rfl := sI H0
  exact kr Tryz.results120 (.cons (.cellN (us := [_, _, _, _, _, _, _, _, _]) ts34 rfl (Cells.box (id := 2) rfl 9 rfl)) (rT rfl)) [10, 11, 12, 13] ⟨_, _, _, _, _, _, _, _, _, _, _, _, _, _, _, _, rfl, rfl, rfl, (OwnC.nil _ _), rfl, (OwnC.nil _ _), rfl, (OwnC.nil _ _), rfl, (OwnC.nil _ _)⟩
 have H0 := cond_f H0 h16
 obtain ⟨x17, e17, H0⟩ := bS H0
 refine cw_skip (kw_nx (sr (oB9 0 ts34 rfl (oB2 1 ts36 rfl (oE (stpU_call (fun i => 14 + i) cf23 (fun w hw => c_s_l6Forget fl w a0 a1 rfl (RO.pass hr0_0 hw) rfl (RO.pass hr0_1 hw) rfl (RO.pass hr0_2 hw) rfl (RO.pass hr0_3 hw) x17 e17) (yB rfl rfl)) rfl ?_)))))
 rintro _ _ ⟨_, ⟨p18, _, c20, C21, p22, _, c24, C25, p26, _, c28, C29, p30, _, c32, C33, rfl, rfl, rfl, o21, rfl, o25, rfl, o29, rfl, o33⟩, rfl⟩
 refine oE (stpU_alloc 18 tz34 rfl) rfl ?_
 rintro _ _ ⟨b34, rfl, rfl⟩
 refine oC9 18 ts34 rfl rfl (nn (sr (oB2 9 ts26 rfl (oA 0 Tryz.underlying34 rfl ts26 rfl (oC9 18 ts26 rfl rfl (nn (sr (oB9 18 ts34 rfl (oC9 2 ts34 rfl rfl (oS rfl (nn (cw_ret ?_))))))))))))
 obtain rfl := sI H0
 exact kr Tryz.results120 (.cons (.cellN (us := [_, _, _, _, _, _, _, _, _]) ts34 rfl (Cells.box (id := 2) rfl 9 rfl)) (rT rfl)) [7, 8, 16, 17] ⟨_, _, _, _, _, _, _, _, _, _, _, _, _, _, _, _, rfl, rfl, rfl, o10, rfl, o14, rfl, o29, rfl, o33⟩

theorem c_s_l6Step (fl : Nat) (w : World) (m0 : Nat) (a0_0 : (List UInt8)) (a0_1 : Int) (a1 : Mc) (hn0_0_0 : n0_0_0 = (a0_0).length) (hr0_0_0 : RO w (hkeys [(0, [(m0, .cells #[.slice p0_0_0 n0_0_0 c0_0_0, .int .i64 a0_1] 92 (0, 0))]), (1, C1_0), (2, C1_1), (3, C1_2), (4, C1_3)]) (RdL p0_0_0 c0_0_0 a0_0)) (hn1_0 : n1_0 = (a1.t.b).length) (ho1_0 : OwnC 3 p1_0 c1_0 a1.t.b C1_0) (hn1_1 : n1_1 = (a1.t.f).length) (ho1_1 : OwnC 74 p1_1 c1_1 a1.t.f C1_1) (hn1_2 : n1_2 = (a1.c.l).length) (ho1_2 : OwnC 66 p1_2 c1_2 a1.c.l C1_2) (hn1_3 : n1_3 = (a1.g.o).length) (ho1_3 : OwnC 108 p1_3 c1_3 a1.g.o C1_3) (hM : Sat w (hkeys [(0, [(m0, .cells #[.slice p0_0_0 n0_0_0 c0_0_0, .int .i64 a0_1] 92 (0, 0))]), (1, C1_0), (2, C1_1), (3, C1_2), (4, C1_3)]) w [(0, [(m0, .cells #[.slice p0_0_0 n0_0_0 c0_0_0, .int .i64 a0_1] 92 (0, 0))]), (1, C1_0), (2, C1_1), (3, C1_2), (4, C1_3)]) (r : Mc × Int) (H0 : s_l6Step fl a0_0 a0_1 a1 = some r) :
  Ct Tryz.prog 93 [.pointer (some ⟨m0, 0, none⟩), .agg #[.slice p1_0 n1_0 c1_0, .slice p1_1 n1_1 c1_1, .slice p1_2 n1_2 c1_2, .int .i64 a1.c.h, .int .i64 a1.g.c, .int .i64 a1.g.n, .int .i64 a1.g.r, .slice p1_3 n1_3 c1_3, .int .i64 a1.s]] w [(0, [(m0, .cells #[.slice p0_0_0 n0_0_0 c0_0_0, .int .i64 a0_1] 92 (0, 0))]), (1, C1_0), (2, C1_1), (3, C1_2), (4, C1_3)] (fun rv h' => ∃ (x5 : Option Addr) (y5 z5 : Nat) (C5 : Res) (x6 : Option Addr) (y6 z6 : Nat) (C6 : Res) (x7 : Option Addr) (y7 z7 : Nat) (C7 : Res) (x8 : Option Addr) (y8 z8 : Nat) (C8 : Res), rv = .agg #[.slice x5 y5 z5, .slice x6 y6 z6, .slice x7 y7 z7, .int .i64 r.1.c.h, .int .i64 r.1.g.c, .int .i64 r.1.g.n, .int .i64 r.1.g.r, .slice x8 y8 z8, .int .i64 r.1.s] ∧ h' = [(0, [(m0, .cells #[.slice p0_0_0 n0_0_0 c0_0_0, .int .i64 r.2] 92 (0, 0))]), (1, []), (2, []), (3, []), (4, []), (5, C5), (6, C6), (7, C7), (8, C8)] ∧ y5 = (r.1.t.b).length ∧ OwnC 3 x5 z5 r.1.t.b C5 ∧ y6 = (r.1.t.f).length ∧ OwnC 74 x6 z6 r.1.t.f C6 ∧ y7 = (r.1.c.l).length ∧ OwnC 66 x7 z7 r.1.c.l C7 ∧ y8 = (r.1.g.o).length ∧ OwnC 108 x8 z8 r.1.g.o C8) := by
 subst hn0_0_0 hn1_0 hn1_1 hn1_2 hn1_3
 unfold s_l6Step at H0
 refine ct_of_cw Tryz.func93 rfl Tryz.ntmps93 rfl hM ?_
 refine sr (oE (stpU_box 5 rfl rfl) rfl ?_)
 rintro _ _ ⟨b1, rfl, rfl⟩
 refine oE (stpU_alloc 6 tz34 rfl) rfl ?_
 rintro _ _ ⟨b2, rfl, rfl⟩
 refine nn (sr (oB9 5 ts34 rfl (oE (stpU_alloc 7 tz34 rfl) rfl ?_)))
 rintro _ _ ⟨b3, rfl, rfl⟩
 obtain ⟨x4, e4, H0⟩ := bS H0
 refine oC9 7 ts34 rfl rfl (nn (sr (oS rfl (nn (cw_seq (sr (oM rfl (oE (stpU_callM (fun i => bif Nat.beq i 0 then 0 else 8 + i) cf49 (fun w hw hb => c_s_l12Rd_pick fl w m0 a0_0 a0_1 8 rfl (RO.passM hr0_0_0 hw hb) (hw.pass (js := [0]) ⟨0, [], rfl, rfl, trivial⟩ (by decide)) x4 e4) (yB rfl rfl) ⟨rfl, (fun _ _ hp => by obtain ⟨_, rfl⟩ := hp; exact ⟨_, rfl⟩), trivial⟩) rfl ?_))))))))
 rintro _ _ ⟨_, ⟨rfl, rfl⟩, rfl⟩
 refine nn (cw_block (sr (oQ rfl (oS rfl (nn (cw_cond rfl (fun h5 => ?_) (fun h5 => ?_)))))))
 ·have H0 := cond_t H0 h5
  refine rdt g_mixed (rn 0 10) ⟨[[5],[],[],[0,9],[1,2,3,4],[],[],[],[7]], [[],[],[9],[0],[11,12,13,14],[],[],[],[7]], [2,4]⟩ (dB9 5 ts34 rfl (dM rfl (dE rfl (fun hh => stpU_lit (sz := 1) (l := [0, 1, 2, 3]) [.int .i64 0, .int .i64 1, .int .i64 2, .int .i64 3] sl23 9 (sevp_cons rfl (sevp_cons rfl (sevp_cons rfl (sevp_cons rfl sevp_nil)))) rfl rfl rfl rfl rfl rfl rfl rfl rfl) ?_)))
  rintro _ _ ⟨p6, C7, rfl, rfl, o7⟩
  obtain ⟨x8, e8, H0⟩ := bS H0
  obtain ⟨x9, e9, H0⟩ := bS H0
  refine dk rfl (dV rfl (fun hh => stpU_callM (fun i => bif Nat.beq i 0 then 0 else 10 + i) cf18 (fun w hw hb => c_s_l12Rd_num fl w m0 a0_0 x4.2 ([0, 1, 2, 3]) rfl (RO.passM hr0_0_0 hw hb) (by simp) (OwnC.passM (id := 9) (hh _ _ rfl) o7 hw hb ⟨rfl, trivial⟩) (hw.pass (js := [0]) ⟨0, [], rfl, (hh _ _ rfl), trivial⟩ (by decide)) x8 e8) (yB rfl rfl) ⟨(hh _ _ rfl), (fun _ _ hp => by obtain ⟨_, rfl⟩ := hp; exact ⟨_, rfl⟩), trivial⟩) rfl (dE rfl (fun hh => stpU_call (fun i => 11 + i) cf118 (fun w hw => c_s_EnterSpace fl w a1 x8.1 rfl (OwnC.pass (id := 1) (hh _ _ rfl) ho1_0 hw) rfl (OwnC.pass (id := 2) (hh _ _ rfl) ho1_1 hw) rfl (OwnC.pass (id := 3) (hh _ _ rfl) ho1_2 hw) rfl (OwnC.pass (id := 4) (hh _ _ rfl) ho1_3 hw) x9 e9) (yB rfl rfl)) ?_))
  rintro _ _ ⟨_, ⟨p10, _, c12, C13, p14, _, c16, C17, p18, _, c20, C21, p22, _, c24, C25, rfl, rfl, rfl, o13, rfl, o17, rfl, o21, rfl, o25⟩, rfl⟩
  refine dk rfl (dM rfl (dT rfl (dT rfl (dC9 7 ts34 rfl rfl rfl (dS rfl (dn (kw_bl_normal (kw_nx (cw_seq (sr (oM rfl (oK rfl (nn ?_)))))))))))))
  refine cw_cond rfl (fun h26 => ?_) (fun h26 => ?_)
  ·have H0 := cond_t H0 h26
   refine sr (oB9 5 ts34 rfl (oC9 6 ts34 rfl rfl (nn (cw_ret (kw_nx_ret (kw_addNil 15 (kw_addNil 16 (kw_addNil 17 (kw_addNil 18 ?_)))))))))
   obtain rfl := sI H0
   exact kr Tryz.results93 (rC9 6 ts34 rfl rfl) [0, 15, 16, 17, 18, 1, 2, 3, 4] ⟨_, _, _, _, _, _, _, _, _, _, _, _, _, _, _, _, rfl, rfl, rfl, ho1_0, rfl, ho1_1, rfl, ho1_2, rfl, ho1_3⟩
  have H0 := cond_f H0 h26
  refine cw_skip (kw_nx (sr (oB9 7 ts34 rfl (oC9 6 ts34 rfl rfl (nn (cw_ret (kw_addNil 19 (kw_addNil 20 (kw_addNil 21 (kw_addNil 22 ?_))))))))))
  obtain rfl := sI H0
  exact kr Tryz.results93 (rC9 6 ts34 rfl rfl) [0, 19, 20, 21, 22, 11, 12, 13, 14] ⟨_, _, _, _, _, _, _, _, _, _, _, _, _, _, _, _, rfl, rfl, rfl, o13, rfl, o17, rfl, o21, rfl, o25⟩
 have H0 := cond_f H0 h5
 obtain ⟨y28, ey28, H0⟩ := bS H0
 refine cw_seq (sr (oQ rfl (oS rfl (nn (cw_join (ι := Unit) (fun _ => True) (fun _ => [(0, .pointer (some ⟨m0, 0, none⟩)), (3, .pointer (some ⟨b1, 0, none⟩)), (4, .pointer (some ⟨b2, 0, none⟩)), (5, .pointer (some ⟨b3, 0, none⟩)), (6, .bool false), (9, .int .i64 x4.1), (20, .bool y28)]) (fun _ => [(0, [(m0, .cells #[.slice p0_0_0 ((a0_0).length) c0_0_0, .int .i64 x4.2] 92 (0, 0))]), (1, C1_0), (2, C1_1), (3, C1_2), (4, C1_3), (5, [(b1, .cells #[.slice p1_0 ((a1.t.b).length) c1_0, .slice p1_1 ((a1.t.f).length) c1_1, .slice p1_2 ((a1.c.l).length) c1_2, .int .i64 a1.c.h, .int .i64 a1.g.c, .int .i64 a1.g.n, .int .i64 a1.g.r, .slice p1_3 ((a1.g.o).length) c1_3, .int .i64 a1.s] 34 (0, 0))]), (6, [(b2, .cells #[.slice none 0 0, .slice none 0 0, .slice none 0 0, .int .i64 0, .int .i64 0, .int .i64 0, .int .i64 0, .slice none 0 0, .int .i64 0] 34 (0, 0))]), (7, [(b3, .cells #[.slice p1_0 ((a1.t.b).length) c1_0, .slice p1_1 ((a1.t.f).length) c1_1, .slice p1_2 ((a1.c.l).length) c1_2, .int .i64 a1.c.h, .int .i64 a1.g.c, .int .i64 a1.g.n, .int .i64 a1.g.r, .slice p1_3 ((a1.g.o).length) c1_3, .int .i64 a1.s] 34 (0, 0))])]) ?_ (fun _ _ => ?_))))))
 ·refine cw_cond rfl (fun h29 => ?_) (fun h29 => ?_)
  ·have ey28 := cond_t ey28 h29
   refine cw_skip ?_
   obtain rfl := sI ey28
   exact kw_join () trivial ⟨rfl, rfl, rfl, rfl, rfl, rfl, rfl, trivial⟩ ⟨rfl, rfl, rfl, rfl, rfl, rfl, rfl, rfl, trivial⟩
  have ey28 := cond_f ey28 h29
  refine sr (oQ rfl (oS rfl (nn (cw_cond rfl (fun h30 => ?_) (fun h30 => ?_)))))
  ·have ey28 := cond_t ey28 h30
   refine cw_skip ?_
   obtain rfl := sI ey28
   exact kw_join () trivial ⟨rfl, rfl, rfl, rfl, rfl, rfl, rfl, trivial⟩ ⟨rfl, rfl, rfl, rfl, rfl, rfl, rfl, rfl, trivial⟩
  have ey28 := cond_f ey28 h30
  refine cw_region (oQ rfl (oS rfl (ow_nil ?_)))
  obtain rfl := sI ey28
  exact kw_join () trivial ⟨rfl, rfl, rfl, rfl, rfl, rfl, rfl, trivial⟩ ⟨rfl, rfl, rfl, rfl, rfl, rfl, rfl, rfl, trivial⟩
 refine kw_nx (cw_cond rfl (fun h31 => ?_) (fun h31 => ?_))
 ·have H0 := cond_t H0 h31
  obtain ⟨x32, e32, H0⟩ := bS H0
  obtain ⟨x33, e33, H0⟩ := bS H0
  obtain ⟨x34, e34, H0⟩ := bS H0
  refine rdt g_mixed (rn 0 21) ⟨[[5],[],[0],[],[0],[],[],[],[],[5],[],[0],[],[],[0,26],[1,2,3,4],[],[],[],[7]], [[],[],[0],[],[0],[],[],[],[],[],[],[0],[],[26],[0],[28,29,30,31],[],[],[],[7]], [13,15]⟩ (dB9 5 ts34 rfl (dM rfl (dV rfl (fun hh => stpU_callM (fun i => bif Nat.beq i 0 then 0 else 23 + i) cf49 (fun w hw hb => c_s_l12Rd_pick fl w m0 a0_0 x4.2 3 rfl (RO.passM hr0_0_0 hw hb) (hw.pass (js := [0]) ⟨0, [], rfl, (hh _ _ rfl), trivial⟩ (by decide)) x32 e32) (yB rfl rfl) ⟨(hh _ _ rfl), (fun _ _ hp => by obtain ⟨_, rfl⟩ := hp; exact ⟨_, rfl⟩), trivial⟩) rfl (dM rfl (dV rfl (fun hh => stpU_callM (fun i => bif Nat.beq i 0 then 0 else 24 + i) cf50 (fun w hw hb => c_s_l6Page fl w m0 a0_0 x32.2 rfl (RO.passM hr0_0_0 hw hb) (hw.pass (js := [0]) ⟨0, [], rfl, (hh _ _ rfl), trivial⟩ (by decide)) x33 e33) (yA rfl) ⟨(hh _ _ rfl), (fun _ _ hp => by obtain ⟨_, rfl⟩ := hp; exact ⟨_, rfl⟩), trivial⟩) rfl (dV rfl (fun hh => stpU_call (fun i => 25 + i) cf48 (fun w hw => c_s_KeyFor fl w x32.1 x33.1 x34 e34) (yB rfl rfl)) rfl ?_))))))
  obtain ⟨x35, e35, H0⟩ := bS H0
  refine dM rfl (dA 0 rfl Tryz.underlying34 rfl ts26 rfl (dA 1 rfl Tryz.underlying26 rfl ts24 rfl (dL 5 ts24 rfl (dD rfl (stp_len Tryz.underlying24 rfl) (dV rfl (fun hh => stpU_callM (fun i => bif Nat.beq i 0 then 0 else 25 + i) cf49 (fun w hw hb => c_s_l12Rd_pick fl w m0 a0_0 x33.2 ((a1.t.f).length : Int) rfl (RO.passM hr0_0_0 hw hb) (hw.pass (js := [0]) ⟨0, [], rfl, (hh _ _ rfl), trivial⟩ (by decide)) x35 e35) (yB rfl rfl) ⟨(hh _ _ rfl), (fun _ _ hp => by obtain ⟨_, rfl⟩ := hp; exact ⟨_, rfl⟩), trivial⟩) rfl (dM rfl (dE rfl (fun hh => stpU_lit (sz := 1) (l := [3, 1, 7]) [.int .i64 3, .int .i64 1, .int .i64 7] sl23 26 (sevp_cons rfl (sevp_cons rfl (sevp_cons rfl sevp_nil))) rfl rfl rfl rfl rfl rfl rfl rfl rfl) ?_)))))))
  rintro _ _ ⟨p36, C37, rfl, rfl, o37⟩
  obtain ⟨x38, e38, H0⟩ := bS H0
  obtain ⟨x39, e39, H0⟩ := bS H0
  refine dk rfl (dV rfl (fun hh => stpU_callM (fun i => bif Nat.beq i 0 then 0 else 27 + i) cf18 (fun w hw hb => c_s_l12Rd_num fl w m0 a0_0 x35.2 ([3, 1, 7]) rfl (RO.passM hr0_0_0 hw hb) (by simp) (OwnC.passM (id := 26) (hh _ _ rfl) o37 hw hb ⟨rfl, trivial⟩) (hw.pass (js := [0]) ⟨0, [], rfl, (hh _ _ rfl), trivial⟩ (by decide)) x38 e38) (yB rfl rfl) ⟨(hh _ _ rfl), (fun _ _ hp => by obtain ⟨_, rfl⟩ := hp; exact ⟨_, rfl⟩), trivial⟩) rfl (dE rfl (fun hh => stpU_call (fun i => 28 + i) cf119 (fun w hw => c_s_PutPage fl w a1 x34 x35.1 x38.1 rfl (OwnC.pass (id := 1) (hh _ _ rfl) ho1_0 hw) rfl (OwnC.pass (id := 2) (hh _ _ rfl) ho1_1 hw) rfl (OwnC.pass (id := 3) (hh _ _ rfl) ho1_2 hw) rfl (OwnC.pass (id := 4) (hh _ _ rfl) ho1_3 hw) x39 e39) (yD rfl rfl rfl rfl)) ?_))
  rintro _ _ ⟨_, ⟨p40, _, c42, C43, p44, _, c46, C47, p48, _, c50, C51, p52, _, c54, C55, rfl, rfl, rfl, o43, rfl, o47, rfl, o51, rfl, o55⟩, rfl⟩
  refine dk rfl (dM rfl (dT rfl (dT rfl (dC9 7 ts34 rfl rfl rfl (dS rfl (dn (kw_bl_normal (kw_nx (cw_seq (sr (oM rfl (oK rfl (nn ?_)))))))))))))
  refine cw_cond rfl (fun h56 => ?_) (fun h56 => ?_)
  ·have H0 := cond_t H0 h56
   refine sr (oB9 5 ts34 rfl (oC9 6 ts34 rfl rfl (nn (cw_ret (kw_nx_ret (kw_addNil 32 (kw_addNil 33 (kw_addNil 34 (kw_addNil 35 ?_)))))))))
   obtain rfl := sI H0
   exact kr Tryz.results93 (rC9 6 ts34 rfl rfl) [0, 32, 33, 34, 35, 1, 2, 3, 4] ⟨_, _, _, _, _, _, _, _, _, _, _, _, _, _, _, _, rfl, rfl, rfl, ho1_0, rfl, ho1_1, rfl, ho1_2, rfl, ho1_3⟩
  have H0 := cond_f H0 h56
  refine cw_skip (kw_nx (sr (oB9 7 ts34 rfl (oC9 6 ts34 rfl rfl (nn (cw_ret (kw_addNil 36 (kw_addNil 37 (kw_addNil 38 (kw_addNil 39 ?_))))))))))
  obtain rfl := sI H0
  exact kr Tryz.results93 (rC9 6 ts34 rfl rfl) [0, 36, 37, 38, 39, 28, 29, 30, 31] ⟨_, _, _, _, _, _, _, _, _, _, _, _, _, _, _, _, rfl, rfl, rfl, o43, rfl, o47, rfl, o51, rfl, o55⟩
 have H0 := cond_f H0 h31
 obtain ⟨y58, ey58, H0⟩ := bS H0
 refine cw_seq (sr (oQ rfl (oS rfl (nn (cw_join (ι := Unit) (fun _ => True) (fun _ => [(0, .pointer (some ⟨m0, 0, none⟩)), (3, .pointer (some ⟨b1, 0, none⟩)), (4, .pointer (some ⟨b2, 0, none⟩)), (5, .pointer (some ⟨b3, 0, none⟩)), (6, .bool false), (9, .int .i64 x4.1), (43, .bool y58)]) (fun _ => [(0, [(m0, .cells #[.slice p0_0_0 ((a0_0).length) c0_0_0, .int .i64 x4.2] 92 (0, 0))]), (1, C1_0), (2, C1_1), (3, C1_2), (4, C1_3), (5, [(b1, .cells #[.slice p1_0 ((a1.t.b).length) c1_0, .slice p1_1 ((a1.t.f).length) c1_1, .slice p1_2 ((a1.c.l).length) c1_2, .int .i64 a1.c.h, .int .i64 a1.g.c, .int .i64 a1.g.n, .int .i64 a1.g.r, .slice p1_3 ((a1.g.o).length) c1_3, .int .i64 a1.s] 34 (0, 0))]), (6, [(b2, .cells #[.slice none 0 0, .slice none 0 0, .slice none 0 0, .int .i64 0, .int .i64 0, .int .i64 0, .int .i64 0, .slice none 0 0, .int .i64 0] 34 (0, 0))]), (7, [(b3, .cells #[.slice p1_0 ((a1.t.b).length) c1_0, .slice p1_1 ((a1.t.f).length) c1_1, .slice p1_2 ((a1.c.l).length) c1_2, .int .i64 a1.c.h, .int .i64 a1.g.c, .int .i64 a1.g.n, .int .i64 a1.g.r, .slice p1_3 ((a1.g.o).length) c1_3, .int .i64 a1.s] 34 (0, 0))])]) ?_ (fun _ _ => ?_))))))
 ·refine cw_cond rfl (fun h59 => ?_) (fun h59 => ?_)
  ·have ey58 := cond_t ey58 h59
   refine cw_skip ?_
   obtain rfl := sI ey58
   exact kw_join () trivial ⟨rfl, rfl, rfl, rfl, rfl, rfl, rfl, trivial⟩ ⟨rfl, rfl, rfl, rfl, rfl, rfl, rfl, rfl, trivial⟩
  have ey58 := cond_f ey58 h59
  refine cw_region (oQ rfl (oS rfl (ow_nil ?_)))
  obtain rfl := sI ey58
  exact kw_join () trivial ⟨rfl, rfl, rfl, rfl, rfl, rfl, rfl, trivial⟩ ⟨rfl, rfl, rfl, rfl, rfl, rfl, rfl, rfl, trivial⟩
 refine kw_nx (cw_cond rfl (fun h60 => ?_) (fun h60 => ?_))
 ·have H0 := cond_t H0 h60
  obtain ⟨x61, e61, H0⟩ := bS H0
  refine rdt g_mixed (rn 0 14) ⟨[[5],[],[0],[],[],[0,41],[1,2,3,4],[],[],[],[],[],[7]], [[],[],[0],[],[41],[0],[43,44,45,46],[],[],[],[],[],[7]], [4,6]⟩ (dB9 5 ts34 rfl (dM rfl (dV rfl (fun hh => stpU_callM (fun i => bif Nat.beq i 0 then 0 else 40 + i) cf50 (fun w hw hb => c_s_l6Page fl w m0 a0_0 x4.2 rfl (RO.passM hr0_0_0 hw hb) (hw.pass (js := [0]) ⟨0, [], rfl, (hh _ _ rfl), trivial⟩ (by decide)) x61 e61) (yA rfl) ⟨(hh _ _ rfl), (fun _ _ hp => by obtain ⟨_, rfl⟩ := hp; exact ⟨_, rfl⟩), trivial⟩) rfl (dM rfl (dE rfl (fun hh => stpU_lit (sz := 1) (l := [1, 0, 2]) [.int .i64 1, .int .i64 0, .int .i64 2] sl23 41 (sevp_cons rfl (sevp_cons rfl (sevp_cons rfl sevp_nil))) rfl rfl rfl rfl rfl rfl rfl rfl rfl) ?_)))))
  rintro _ _ ⟨p62, C63, rfl, rfl, o63⟩
  obtain ⟨x64, e64, H0⟩ := bS H0
  obtain ⟨x65, e65, H0⟩ := bS H0
  refine dk rfl (dV rfl (fun hh => stpU_callM (fun i => bif Nat.beq i 0 then 0 else 42 + i) cf18 (fun w hw hb => c_s_l12Rd_num fl w m0 a0_0 x61.2 ([1, 0, 2]) rfl (RO.passM hr0_0_0 hw hb) (by simp) (OwnC.passM (id := 41) (hh _ _ rfl) o63 hw hb ⟨rfl, trivial⟩) (hw.pass (js := [0]) ⟨0, [], rfl, (hh _ _ rfl), trivial⟩ (by decide)) x64 e64) (yB rfl rfl) ⟨(hh _ _ rfl), (fun _ _ hp => by obtain ⟨_, rfl⟩ := hp; exact ⟨_, rfl⟩), trivial⟩) rfl (dE rfl (fun hh => stpU_call (fun i => 43 + i) cf43 (fun w hw => c_s_TouchPage fl w a1 x61.1 x64.1 rfl (OwnC.pass (id := 1) (hh _ _ rfl) ho1_0 hw) rfl (OwnC.pass (id := 2) (hh _ _ rfl) ho1_1 hw) rfl (OwnC.pass (id := 3) (hh _ _ rfl) ho1_2 hw) rfl (OwnC.pass (id := 4) (hh _ _ rfl) ho1_3 hw) x65 e65) (yC rfl rfl rfl)) ?_))
  rintro _ _ ⟨_, ⟨p66, _, c68, C69, p70, _, c72, C73, p74, _, c76, C77, p78, _, c80, C81, rfl, rfl, rfl, o69, rfl, o73, rfl, o77, rfl, o81⟩, rfl⟩
  refine dk rfl (dM rfl (dT rfl (dT rfl (dT rfl (dT rfl (dC9 7 ts34 rfl rfl rfl (dS rfl (dn (kw_bl_normal (kw_nx (cw_seq (sr (oM rfl ?_)))))))))))))
  refine oK rfl (nn (cw_cond rfl (fun h82 => ?_) (fun h82 => ?_)))
  ·have H0 := cond_t H0 h82
   refine sr (oB9 5 ts34 rfl (oC9 6 ts34 rfl rfl (nn (cw_ret (kw_nx_ret (kw_addNil 47 (kw_addNil 48 (kw_addNil 49 (kw_addNil 50 ?_)))))))))
   obtain rfl := sI H0
   exact kr Tryz.results93 (rC9 6 ts34 rfl rfl) [0, 47, 48, 49, 50, 1, 2, 3, 4] ⟨_, _, _, _, _, _, _, _, _, _, _, _, _, _, _, _, rfl, rfl, rfl, ho1_0, rfl, ho1_1, rfl, ho1_2, rfl, ho1_3⟩
  have H0 := cond_f H0 h82
  refine cw_skip (kw_nx (sr (oB9 7 ts34 rfl (oC9 6 ts34 rfl rfl (nn (cw_ret (kw_addNil 51 (kw_addNil 52 (kw_addNil 53 (kw_addNil 54 ?_))))))))))
  obtain rfl := sI H0
  exact kr Tryz.results93 (rC9 6 ts34 rfl rfl) [0, 51, 52, 53, 54, 43, 44, 45, 46] ⟨_, _, _, _, _, _, _, _, _, _, _, _, _, _, _, _, rfl, rfl, rfl, o69, rfl, o73, rfl, o77, rfl, o81⟩
 have H0 := cond_f H0 h60
 refine sr (oQ rfl (oS rfl (nn (cw_cond rfl (fun h83 => ?_) (fun h83 => ?_)))))
 ·have H0 := cond_t H0 h83
  refine rdt g_mixed (rn 0 10) ⟨[[5],[],[],[0,55],[1,2,3,4],[],[],[],[7]], [[],[],[55],[0],[57,58,59,60],[],[],[],[7]], [2,4]⟩ (dB9 5 ts34 rfl (dM rfl (dE rfl (fun hh => stpU_lit (sz := 1) (l := [200, 201]) [.int .i64 200, .int .i64 201] sl23 55 (sevp_cons rfl (sevp_cons rfl sevp_nil)) rfl rfl rfl rfl rfl rfl rfl rfl rfl) ?_)))
  rintro _ _ ⟨p84, C85, rfl, rfl, o85⟩
  obtain ⟨x86, e86, H0⟩ := bS H0
  obtain ⟨x87, e87, H0⟩ := bS H0
  refine dk rfl (dV rfl (fun hh => stpU_callM (fun i => bif Nat.beq i 0 then 0 else 56 + i) cf18 (fun w hw hb => c_s_l12Rd_num fl w m0 a0_0 x4.2 ([200, 201]) rfl (RO.passM hr0_0_0 hw hb) (by simp) (OwnC.passM (id := 55) (hh _ _ rfl) o85 hw hb ⟨rfl, trivial⟩) (hw.pass (js := [0]) ⟨0, [], rfl, (hh _ _ rfl), trivial⟩ (by decide)) x86 e86) (yB rfl rfl) ⟨(hh _ _ rfl), (fun _ _ hp => by obtain ⟨_, rfl⟩ := hp; exact ⟨_, rfl⟩), trivial⟩) rfl (dE rfl (fun hh => stpU_call (fun i => 57 + i) cf15 (fun w hw => c_s_WirePage fl w a1 x86.1 rfl (OwnC.pass (id := 1) (hh _ _ rfl) ho1_0 hw) rfl (OwnC.pass (id := 2) (hh _ _ rfl) ho1_1 hw) rfl (OwnC.pass (id := 3) (hh _ _ rfl) ho1_2 hw) rfl (OwnC.pass (id := 4) (hh _ _ rfl) ho1_3 hw) x87 e87) (yB rfl rfl)) ?_))
  rintro _ _ ⟨_, ⟨p88, _, c90, C91, p92, _, c94, C95, p96, _, c98, C99, p100, _, c102, C103, rfl, rfl, rfl, o91, rfl, o95, rfl, o99, rfl, o103⟩, rfl⟩
  refine dk rfl (dM rfl (dT rfl (dT rfl (dC9 7 ts34 rfl rfl rfl (dS rfl (dn (kw_bl_normal (kw_nx (cw_seq (sr (oM rfl (oK rfl (nn ?_)))))))))))))
  refine cw_cond rfl (fun h104 => ?_) (fun h104 => ?_)
  ·have H0 := cond_t H0 h104
   refine sr (oB9 5 ts34 rfl (oC9 6 ts34 rfl rfl (nn (cw_ret (kw_nx_ret (kw_addNil 61 (kw_addNil 62 (kw_addNil 63 (kw_addNil 64 ?_)))))))))
   obtain rfl := sI H0
   exact kr Tryz.results93 (rC9 6 ts34 rfl rfl) [0, 61, 62, 63, 64, 1, 2, 3, 4] ⟨_, _, _, _, _, _, _, _, _, _, _, _, _, _, _, _, rfl, rfl, rfl, ho1_0, rfl, ho1_1, rfl, ho1_2, rfl, ho1_3⟩
  have H0 := cond_f H0 h104
  refine cw_skip (kw_nx (sr (oB9 7 ts34 rfl (oC9 6 ts34 rfl rfl (nn (cw_ret (kw_addNil 65 (kw_addNil 66 (kw_addNil 67 (kw_addNil 68 ?_))))))))))
  obtain rfl := sI H0
  exact kr Tryz.results93 (rC9 6 ts34 rfl rfl) [0, 65, 66, 67, 68, 57, 58, 59, 60] ⟨_, _, _, _, _, _, _, _, _, _, _, _, _, _, _, _, rfl, rfl, rfl, o91, rfl, o95, rfl, o99, rfl, o103⟩
 have H0 := cond_f H0 h83
 refine sr (oQ rfl (oS rfl (nn (cw_cond rfl (fun h105 => ?_) (fun h105 => ?_)))))
 ·have H0 := cond_t H0 h105
  obtain ⟨x106, e106, H0⟩ := bS H0
  obtain ⟨x107, e107, H0⟩ := bS H0
  obtain ⟨x108, e108, H0⟩ := bS H0
  obtain ⟨x109, e109, H0⟩ := bS H0
  refine rdt g_mixed (rn 0 12) ⟨[[5],[],[0],[],[0],[],[1,2,3,4],[],[],[],[7]], [[],[],[0],[],[0],[],[71,72,73,74],[],[],[],[7]], [6]⟩ (dB9 5 ts34 rfl (dM rfl (dV rfl (fun hh => stpU_callM (fun i => bif Nat.beq i 0 then 0 else 69 + i) cf49 (fun w hw hb => c_s_l12Rd_pick fl w m0 a0_0 x4.2 3 rfl (RO.passM hr0_0_0 hw hb) (hw.pass (js := [0]) ⟨0, [], rfl, (hh _ _ rfl), trivial⟩ (by decide)) x106 e106) (yB rfl rfl) ⟨(hh _ _ rfl), (fun _ _ hp => by obtain ⟨_, rfl⟩ := hp; exact ⟨_, rfl⟩), trivial⟩) rfl (dM rfl (dV rfl (fun hh => stpU_callM (fun i => bif Nat.beq i 0 then 0 else 70 + i) cf50 (fun w hw hb => c_s_l6Page fl w m0 a0_0 x106.2 rfl (RO.passM hr0_0_0 hw hb) (hw.pass (js := [0]) ⟨0, [], rfl, (hh _ _ rfl), trivial⟩ (by decide)) x107 e107) (yA rfl) ⟨(hh _ _ rfl), (fun _ _ hp => by obtain ⟨_, rfl⟩ := hp; exact ⟨_, rfl⟩), trivial⟩) rfl (dV rfl (fun hh => stpU_call (fun i => 71 + i) cf48 (fun w hw => c_s_KeyFor fl w x106.1 x107.1 x108 e108) (yB rfl rfl)) rfl (dE rfl (fun hh => stpU_call (fun i => 71 + i) cf120 (fun w hw => c_s_TakePage fl w a1 x108 rfl (OwnC.pass (id := 1) (hh _ _ rfl) ho1_0 hw) rfl (OwnC.pass (id := 2) (hh _ _ rfl) ho1_1 hw) rfl (OwnC.pass (id := 3) (hh _ _ rfl) ho1_2 hw) rfl (OwnC.pass (id := 4) (hh _ _ rfl) ho1_3 hw) x109 e109) (yB rfl rfl)) ?_)))))))
  rintro _ _ ⟨_, ⟨p110, _, c112, C113, p114, _, c116, C117, p118, _, c120, C121, p122, _, c124, C125, rfl, rfl, rfl, o113, rfl, o117, rfl, o121, rfl, o125⟩, rfl⟩
  refine dk rfl (dM rfl (dT rfl (dT rfl (dC9 7 ts34 rfl rfl rfl (dS rfl (dn (kw_bl_normal (kw_nx (cw_seq (sr (oM rfl (oK rfl (nn ?_)))))))))))))
  refine cw_cond rfl (fun h126 => ?_) (fun h126 => ?_)
  ·have H0 := cond_t H0 h126
   refine sr (oB9 5 ts34 rfl (oC9 6 ts34 rfl rfl (nn (cw_ret (kw_nx_ret (kw_addNil 75 (kw_addNil 76 (kw_addNil 77 (kw_addNil 78 ?_)))))))))
   obtain rfl := sI H0
   exact kr Tryz.results93 (rC9 6 ts34 rfl rfl) [0, 75, 76, 77, 78, 1, 2, 3, 4] ⟨_, _, _, _, _, _, _, _, _, _, _, _, _, _, _, _, rfl, rfl, rfl, ho1_0, rfl, ho1_1, rfl, ho1_2, rfl, ho1_3⟩
  have H0 := cond_f H0 h126
  refine cw_skip (kw_nx (sr (oB9 7 ts34 rfl (oC9 6 ts34 rfl rfl (nn (cw_ret (kw_addNil 79 (kw_addNil 80 (kw_addNil 81 (kw_addNil 82 ?_))))))))))
  obtain rfl := sI H0
  exact kr Tryz.results93 (rC9 6 ts34 rfl rfl) [0, 79, 80, 81, 82, 71, 72, 73, 74] ⟨_, _, _, _, _, _, _, _, _, _, _, _, _, _, _, _, rfl, rfl, rfl, o113, rfl, o117, rfl, o121, rfl, o125⟩
 have H0 := cond_f H0 h105
 refine cw_skip (kw_bl_normal (kw_nx (cw_seq (sr (oM rfl (oK rfl (nn (cw_cond rfl (fun h127 => ?_) (fun h127 => ?_)))))))))
 ·have H0 := cond_t H0 h127
  refine sr (oB9 5 ts34 rfl (oC9 6 ts34 rfl rfl (nn (cw_ret (kw_nx_ret (kw_addNil 83 (kw_addNil 84 (kw_addNil 85 (kw_addNil 86 ?_)))))))))
  obtain rfl := sI H0
  exact kr Tryz.results93 (rC9 6 ts34 rfl rfl) [0, 83, 84, 85, 86, 1, 2, 3, 4] ⟨_, _, _, _, _, _, _, _, _, _, _, _, _, _, _, _, rfl, rfl, rfl, ho1_0, rfl, ho1_1, rfl, ho1_2, rfl, ho1_3⟩
 have H0 := cond_f H0 h127
 refine cw_skip (kw_nx (sr (oB9 7 ts34 rfl (oC9 6 ts34 rfl rfl (nn (cw_ret (kw_addNil 87 (kw_addNil 88 (kw_addNil 89 (kw_addNil 90 ?_))))))))))
 obtain rfl := sI H0
 exact kr Tryz.results93 (rC9 6 ts34 rfl rfl) [0, 87, 88, 89, 90, 1, 2, 3, 4] ⟨_, _, _, _, _, _, _, _, _, _, _, _, _, _, _, _, rfl, rfl, rfl, ho1_0, rfl, ho1_1, rfl, ho1_2, rfl, ho1_3⟩

theorem c_s_l6Draw (fl : Nat) (w : World) (m0 : Nat) (a0_0 : (List UInt8)) (a0_1 : Int) (hn0_0_0 : n0_0_0 = (a0_0).length) (hr0_0_0 : RO w (hkeys [(0, [(m0, .cells #[.slice p0_0_0 n0_0_0 c0_0_0, .int .i64 a0_1] 92 (0, 0))])]) (RdL p0_0_0 c0_0_0 a0_0)) (hM : Sat w (hkeys [(0, [(m0, .cells #[.slice p0_0_0 n0_0_0 c0_0_0, .int .i64 a0_1] 92 (0, 0))])]) w [(0, [(m0, .cells #[.slice p0_0_0 n0_0_0 c0_0_0, .int .i64 a0_1] 92 (0, 0))])]) (r : Mc × Int) (H0 : s_l6Draw fl a0_0 a0_1 = some r) :
  Ct Tryz.prog 46 [.pointer (some ⟨m0, 0, none⟩)] w [(0, [(m0, .cells #[.slice p0_0_0 n0_0_0 c0_0_0, .int .i64 a0_1] 92 (0, 0))])] (fun rv h' => ∃ (x1 : Option Addr) (y1 z1 : Nat) (C1 : Res) (x2 : Option Addr) (y2 z2 : Nat) (C2 : Res) (x3 : Option Addr) (y3 z3 : Nat) (C3 : Res) (x4 : Option Addr) (y4 z4 : Nat) (C4 : Res), rv = .agg #[.slice x1 y1 z1, .slice x2 y2 z2, .slice x3 y3 z3, .int .i64 r.1.c.h, .int .i64 r.1.g.c, .int .i64 r.1.g.n, .int .i64 r.1.g.r, .slice x4 y4 z4, .int .i64 r.1.s] ∧ h' = [(0, [(m0, .cells #[.slice p0_0_0 n0_0_0 c0_0_0, .int .i64 r.2] 92 (0, 0))]), (1, C1), (2, C2), (3, C3), (4, C4)] ∧ y1 = (r.1.t.b).length ∧ OwnC 3 x1 z1 r.1.t.b C1 ∧ y2 = (r.1.t.f).length ∧ OwnC 74 x2 z2 r.1.t.f C2 ∧ y3 = (r.1.c.l).length ∧ OwnC 66 x3 z3 r.1.c.l C3 ∧ y4 = (r.1.g.o).length ∧ OwnC 108 x4 z4 r.1.g.o C4) := by
 subst hn0_0_0
 unfold s_l6Draw at H0
 refine ct_of_cw Tryz.func46 rfl Tryz.ntmps46 rfl hM ?_
 refine sr (oE (stpU_alloc 1 tz34 rfl) rfl ?_)
 rintro _ _ ⟨b1, rfl, rfl⟩
 refine nn (sr (oM rfl (oE (stpU_lit (sz := 1) (l := [6, 4, 8]) [.int .i64 6, .int .i64 4, .int .i64 8] sl23 2 (sevp_cons rfl (sevp_cons rfl (sevp_cons rfl sevp_nil))) rfl rfl rfl rfl rfl rfl rfl rfl rfl) rfl ?_)))
 rintro _ _ ⟨p2, C3, rfl, rfl, o3⟩
 obtain ⟨x4, e4, H0⟩ := bS H0
 refine oE (stpU_callM (fun i => bif Nat.beq i 0 then 0 else 3 + i) cf18 (fun w hw hb => c_s_l12Rd_num fl w m0 a0_0 a0_1 ([6, 4, 8]) rfl (RO.passM hr0_0_0 hw hb) (by simp) (OwnC.passM (id := 2) rfl o3 hw hb ⟨rfl, trivial⟩) (hw.pass (js := [0]) ⟨0, [], rfl, rfl, trivial⟩ (by decide)) x4 e4) (yB rfl rfl) ⟨rfl, (fun _ _ hp => by obtain ⟨_, rfl⟩ := hp; exact ⟨_, rfl⟩), trivial⟩) rfl ?_
 rintro _ _ ⟨_, ⟨rfl, rfl⟩, rfl⟩
 refine oM rfl (oE (stpU_lit (sz := 1) (l := [4, 2, 1]) [.int .i64 4, .int .i64 2, .int .i64 1] sl23 4 (sevp_cons rfl (sevp_cons rfl (sevp_cons rfl sevp_nil))) rfl rfl rfl rfl rfl rfl rfl rfl rfl) rfl ?_)
 rintro _ _ ⟨p5, C6, rfl, rfl, o6⟩
 obtain ⟨x7, e7, H0⟩ := bS H0
 refine oE (stpU_callM (fun i => bif Nat.beq i 0 then 0 else 5 + i) cf18 (fun w hw hb => c_s_l12Rd_num fl w m0 a0_0 x4.2 ([4, 2, 1]) rfl (RO.passM hr0_0_0 hw hb) (by simp) (OwnC.passM (id := 4) rfl o6 hw hb ⟨rfl, trivial⟩) (hw.pass (js := [0]) ⟨0, [], rfl, rfl, trivial⟩ (by decide)) x7 e7) (yB rfl rfl) ⟨rfl, (fun _ _ hp => by obtain ⟨_, rfl⟩ := hp; exact ⟨_, rfl⟩), trivial⟩) rfl ?_
 rintro _ _ ⟨_, ⟨rfl, rfl⟩, rfl⟩
 refine oM rfl (oE (stpU_lit (sz := 1) (l := [3, 2, 4, 1]) [.int .i64 3, .int .i64 2, .int .i64 4, .int .i64 1] sl23 6 (sevp_cons rfl (sevp_cons rfl (sevp_cons rfl (sevp_cons rfl sevp_nil)))) rfl rfl rfl rfl rfl rfl rfl rfl rfl) rfl ?_)
 rintro _ _ ⟨p8, C9, rfl, rfl, o9⟩
 obtain ⟨x10, e10, H0⟩ := bS H0
 refine oE (stpU_callM (fun i => bif Nat.beq i 0 then 0 else 7 + i) cf18 (fun w hw hb => c_s_l12Rd_num fl w m0 a0_0 x7.2 ([3, 2, 4, 1]) rfl (RO.passM hr0_0_0 hw hb) (by simp) (OwnC.passM (id := 6) rfl o9 hw hb ⟨rfl, trivial⟩) (hw.pass (js := [0]) ⟨0, [], rfl, rfl, trivial⟩ (by decide)) x10 e10) (yB rfl rfl) ⟨rfl, (fun _ _ hp => by obtain ⟨_, rfl⟩ := hp; exact ⟨_, rfl⟩), trivial⟩) rfl ?_
 rintro _ _ ⟨_, ⟨rfl, rfl⟩, rfl⟩
 refine oM rfl (oE (stpU_lit (sz := 1) (l := [2, 3, 1]) [.int .i64 2, .int .i64 3, .int .i64 1] sl23 8 (sevp_cons rfl (sevp_cons rfl (sevp_cons rfl sevp_nil))) rfl rfl rfl rfl rfl rfl rfl rfl rfl) rfl ?_)
 rintro _ _ ⟨p11, C12, rfl, rfl, o12⟩
 obtain ⟨x13, e13, H0⟩ := bS H0
 refine oE (stpU_callM (fun i => bif Nat.beq i 0 then 0 else 9 + i) cf18 (fun w hw hb => c_s_l12Rd_num fl w m0 a0_0 x10.2 ([2, 3, 1]) rfl (RO.passM hr0_0_0 hw hb) (by simp) (OwnC.passM (id := 8) rfl o12 hw hb ⟨rfl, trivial⟩) (hw.pass (js := [0]) ⟨0, [], rfl, rfl, trivial⟩ (by decide)) x13 e13) (yB rfl rfl) ⟨rfl, (fun _ _ hp => by obtain ⟨_, rfl⟩ := hp; exact ⟨_, rfl⟩), trivial⟩) rfl ?_
 rintro _ _ ⟨_, ⟨rfl, rfl⟩, rfl⟩
 obtain ⟨x14, e14, H0⟩ := bS H0
 refine oE (stpU_call (fun i => 10 + i) cf92 (fun w hw => c_s_NewMachine fl w x4.1 x7.1 x10.1 x13.1 x14 e14) (yD rfl rfl rfl rfl)) rfl ?_
 rintro _ _ ⟨_, ⟨p15, _, c17, C18, p19, _, c21, C22, p23, _, c25, C26, p27, _, c29, C30, rfl, rfl, rfl, o18, rfl, o22, rfl, o26, rfl, o30⟩, rfl⟩
 refine oM rfl (oT rfl (oT rfl (oE (stpU_alloc 14 tz34 rfl) rfl ?_)))
 rintro _ _ ⟨b31, rfl, rfl⟩
 obtain ⟨x32, e32, H0⟩ := bS H0
 refine oC9 14 ts34 rfl rfl (oS rfl (nn (cw_seq (sr (oM rfl (oE (stpU_callM (fun i => bif Nat.beq i 0 then 0 else 15 + i) cf49 (fun w hw hb => c_s_l12Rd_pick fl w m0 a0_0 x13.2 10 rfl (RO.passM hr0_0_0 hw hb) (hw.pass (js := [0]) ⟨0, [], rfl, rfl, trivial⟩ (by decide)) x32 e32) (yB rfl rfl) ⟨rfl, (fun _ _ hp => by obtain ⟨_, rfl⟩ := hp; exact ⟨_, rfl⟩), trivial⟩) rfl ?_))))))
 rintro _ _ ⟨_, ⟨rfl, rfl⟩, rfl⟩
 obtain ⟨x33, e33, H0⟩ := bS H0
 obtain ⟨o0_0, eo0_0, H0⟩ := bS H0
 refine oP e33 rfl (oS rfl (nn (cw_join (ι := Int × (List Int) × (List F) × (List Ln) × Int × Int × Int × Int × (List Ow) × Int × Int × Option Addr × Nat × Nat × Res × Option Addr × Nat × Nat × Res × Option Addr × Nat × Nat × Res × Option Addr × Nat × Nat × Res) (fun | (v34, v35, v40, v45, v50, v51, v52, v53, v54, v59, v60, p36, n37, c38, C39, p41, n42, c43, C44, p46, n47, c48, C49, p55, n56, c57, C58) => o0_0 = .out (v34, v35, v40, v45, v50, v51, v52, v53, v54, v59, v60) ∧ n37 = (v35).length ∧ OwnC 3 p36 c38 v35 C39 ∧ n42 = (v40).length ∧ OwnC 74 p41 c43 v40 C44 ∧ n47 = (v45).length ∧ OwnC 66 p46 c48 v45 C49 ∧ n56 = (v54).length ∧ OwnC 108 p55 c57 v54 C58) (fun | (v34, v35, v40, v45, v50, v51, v52, v53, v54, v59, v60, p36, n37, c38, C39, p41, n42, c43, C44, p46, n47, c48, C49, p55, n56, c57, C58) => [(0, .pointer (some ⟨m0, 0, none⟩)), (2, .pointer (some ⟨b1, 0, none⟩)), (3, .pointer (some ⟨b31, 0, none⟩)), (5, .int .i64 v60)]) (fun | (v34, v35, v40, v45, v50, v51, v52, v53, v54, v59, v60, p36, n37, c38, C39, p41, n42, c43, C44, p46, n47, c48, C49, p55, n56, c57, C58) => [(0, [(m0, .cells #[.slice p0_0_0 ((a0_0).length) c0_0_0, .int .i64 v34] 92 (0, 0))]), (1, [(b1, .cells #[.slice none 0 0, .slice none 0 0, .slice none 0 0, .int .i64 0, .int .i64 0, .int .i64 0, .int .i64 0, .slice none 0 0, .int .i64 0] 34 (0, 0))]), (10, C39), (11, C44), (12, C49), (13, C58), (14, [(b31, .cells #[.slice p36 n37 c38, .slice p41 n42 c43, .slice p46 n47 c48, .int .i64 v50, .int .i64 v51, .int .i64 v52, .int .i64 v53, .slice p55 n56 c57, .int .i64 v59] 34 (0, 0))])]) ?_ ?_)))
 ·refine cw_block (cw_loopS (ι := Nat × Int × (List Int) × (List F) × (List Ln) × Int × Int × Int × Int × (List Ow) × Int × Int × Option Addr × Nat × Nat × Res × Option Addr × Nat × Nat × Res × Option Addr × Nat × Nat × Res × Option Addr × Nat × Nat × Res) (js := [0, 1, 10, 11, 12, 13, 14]) (fun x => x.1) (fun | (fuel, v34, v35, v40, v45, v50, v51, v52, v53, v54, v59, v60, p36, n37, c38, C39, p41, n42, c43, C44, p46, n47, c48, C49, p55, n56, c57, C58) => s_l6Draw_L0 fl a0_0 fuel v34 v35 v40 v45 v50 v51 v52 v53 v54 v59 v60 = some o0_0 ∧ n37 = (v35).length ∧ OwnC 3 p36 c38 v35 C39 ∧ n42 = (v40).length ∧ OwnC 74 p41 c43 v40 C44 ∧ n47 = (v45).length ∧ OwnC 66 p46 c48 v45 C49 ∧ n56 = (v54).length ∧ OwnC 108 p55 c57 v54 C58) (fun | (_, v34, v35, v40, v45, v50, v51, v52, v53, v54, v59, v60, p36, n37, c38, C39, p41, n42, c43, C44, p46, n47, c48, C49, p55, n56, c57, C58) => [(0, .pointer (some ⟨m0, 0, none⟩)), (2, .pointer (some ⟨b1, 0, none⟩)), (3, .pointer (some ⟨b31, 0, none⟩)), (5, .int .i64 v60)]) (fun | (_, v34, v35, v40, v45, v50, v51, v52, v53, v54, v59, v60, p36, n37, c38, C39, p41, n42, c43, C44, p46, n47, c48, C49, p55, n56, c57, C58) => [(0, [(m0, .cells #[.slice p0_0_0 ((a0_0).length) c0_0_0, .int .i64 v34] 92 (0, 0))]), (1, [(b1, .cells #[.slice none 0 0, .slice none 0 0, .slice none 0 0, .int .i64 0, .int .i64 0, .int .i64 0, .int .i64 0, .slice none 0 0, .int .i64 0] 34 (0, 0))]), (10, C39), (11, C44), (12, C49), (13, C58), (14, [(b31, .cells #[.slice p36 n37 c38, .slice p41 n42 c43, .slice p46 n47 c48, .int .i64 v50, .int .i64 v51, .int .i64 v52, .int .i64 v53, .slice p55 n56 c57, .int .i64 v59] 34 (0, 0))])]) (fl, x32.2, x14.1.t.b, x14.1.t.f, x14.1.c.l, x14.1.c.h, x14.1.g.c, x14.1.g.n, x14.1.g.r, x14.1.g.o, x14.1.s, x33, p15, ((x14.1.t.b).length), c17, C18, p19, ((x14.1.t.f).length), c21, C22, p23, ((x14.1.c.l).length), c25, C26, p27, ((x14.1.g.o).length), c29, C30) ⟨eo0_0, rfl, o18, rfl, o22, rfl, o26, rfl, o30⟩ ⟨rfl, rfl, rfl, rfl, trivial⟩ ⟨0, [1, 10, 11, 12, 13, 14], rfl, rfl, 1, [10, 11, 12, 13, 14], rfl, rfl, 10, [11, 12, 13, 14], rfl, rfl, 11, [12, 13, 14], rfl, rfl, 12, [13, 14], rfl, rfl, 13, [14], rfl, rfl, 14, [], rfl, rfl, trivial⟩ (by decide) ?_)
  rintro ⟨fuel, v34, v35, v40, v45, v50, v51, v52, v53, v54, v59, v60, p36, _, c38, C39, p41, _, c43, C44, p46, _, c48, C49, p55, _, c57, C58⟩ ⟨H1, rfl, o39, rfl, o44, rfl, o49, rfl, o58⟩
  have H1 : s_l6Draw_L0 fl a0_0 fuel v34 v35 v40 v45 v50 v51 v52 v53 v54 v59 v60 = some o0_0 := H1
  rcases fuel with _ | fuel
  ·rw [s_l6Draw_L0.eq_1] at H1; cases H1
  rw [s_l6Draw_L0.eq_2] at H1
  dsimp only
  refine cw_seq (sr (oM rfl (oJ rfl (nn (cw_cond rfl (fun h61 => ?_) (fun h61 => ?_))))))
  ·have H1 := cond_t H1 h61
   obtain ⟨x62, e62, H1⟩ := bS H1
   refine cw_skip (kw_nx (cw_seq (cw_block (cw_region (oM rfl (oB9 14 ts34 rfl (oE (stpU_callM (fun i => bif Nat.beq i 0 then 0 else bif Nat.beq i 1 then 10 else bif Nat.beq i 2 then 11 else bif Nat.beq i 3 then 12 else bif Nat.beq i 4 then 13 else 16 + i) cf93 (fun w hw hb => c_s_l6Step fl w m0 a0_0 v34 (⟨(⟨v35, v40⟩ : T), (⟨v45, v50⟩ : Ca), (⟨v51, v52, v53, v54⟩ : Tg), v59⟩ : Mc) rfl (RO.passM hr0_0_0 hw hb) rfl o39 rfl o44 rfl o49 rfl o58 (hw.pass (js := [0, 10, 11, 12, 13]) ⟨0, [10, 11, 12, 13], rfl, rfl, 10, [11, 12, 13], rfl, rfl, 11, [12, 13], rfl, rfl, 12, [13], rfl, rfl, 13, [], rfl, rfl, trivial⟩ (by decide)) x62 e62) (yB rfl rfl) ⟨rfl, (fun _ _ hp => by obtain ⟨_, _, _, _, _, _, _, _, _, _, _, _, _, _, _, _, _, rfl, _⟩ := hp; exact ⟨_, rfl⟩), rfl, (fun _ _ hp => by obtain ⟨_, _, _, _, _, _, _, _, _, _, _, _, _, _, _, _, _, rfl, _⟩ := hp; exact ⟨_, rfl⟩), rfl, (fun _ _ hp => by obtain ⟨_, _, _, _, _, _, _, _, _, _, _, _, _, _, _, _, _, rfl, _⟩ := hp; exact ⟨_, rfl⟩), rfl, (fun _ _ hp => by obtain ⟨_, _, _, _, _, _, _, _, _, _, _, _, _, _, _, _, _, rfl, _⟩ := hp; exact ⟨_, rfl⟩), rfl, (fun _ _ hp => by obtain ⟨_, _, _, _, _, _, _, _, _, _, _, _, _, _, _, _, _, rfl, _⟩ := hp; exact ⟨_, rfl⟩), trivial⟩) rfl ?_)))))))
   rintro _ _ ⟨_, ⟨p63, _, c65, C66, p67, _, c69, C70, p71, _, c73, C74, p75, _, c77, C78, rfl, rfl, rfl, o66, rfl, o70, rfl, o74, rfl, o78⟩, rfl⟩
   obtain ⟨x79, e79, H1⟩ := bS H1
   exact oC9 14 ts34 rfl rfl (ow_nil (kw_bl_normal (kw_nx (cw_region (oM rfl (oD (stp_sub rfl rfl e79) rfl (oS rfl (ow_nil (kw_lqS (js := [0, 1, 21, 22, 23, 24, 14]) (fuel, x62.2, x62.1.t.b, x62.1.t.f, x62.1.c.l, x62.1.c.h, x62.1.g.c, x62.1.g.n, x62.1.g.r, x62.1.g.o, x62.1.s, x79, p63, ((x62.1.t.b).length), c65, C66, p67, ((x62.1.t.f).length), c69, C70, p71, ((x62.1.c.l).length), c73, C74, p75, ((x62.1.g.o).length), c77, C78) ⟨H1, rfl, o66, rfl, o70, rfl, o74, rfl, o78⟩ (Nat.lt_succ_self _) ⟨rfl, rfl, rfl, rfl, trivial⟩ ⟨0, [1, 21, 22, 23, 24, 14], rfl, rfl, 1, [21, 22, 23, 24, 14], rfl, rfl, 21, [22, 23, 24, 14], rfl, rfl, 22, [23, 24, 14], rfl, rfl, 23, [24, 14], rfl, rfl, 24, [14], rfl, rfl, 14, [], rfl, rfl, trivial⟩ (by decide))))))))))
  have H1 := cond_f H1 h61
  refine cw_exit (kw_nx_exit (kw_lq_exit (kw_bl ?_)))
  obtain rfl := sI H1
  exact kw_joinS (js := [0, 1, 10, 11, 12, 13, 14]) (v34, v35, v40, v45, v50, v51, v52, v53, v54, v59, v60, p36, ((v35).length), c38, C39, p41, ((v40).length), c43, C44, p46, ((v45).length), c48, C49, p55, ((v54).length), c57, C58) ⟨rfl, rfl, o39, rfl, o44, rfl, o49, rfl, o58⟩ ⟨rfl, rfl, rfl, rfl, trivial⟩ ⟨0, [1, 10, 11, 12, 13, 14], rfl, rfl, 1, [10, 11, 12, 13, 14], rfl, rfl, 10, [11, 12, 13, 14], rfl, rfl, 11, [12, 13, 14], rfl, rfl, 12, [13, 14], rfl, rfl, 13, [14], rfl, rfl, 14, [], rfl, rfl, trivial⟩ (by decide)
 rintro ⟨v34, v35, v40, v45, v50, v51, v52, v53, v54, v59, v60, p36, _, c38, C39, p41, _, c43, C44, p46, _, c48, C49, p55, _, c57, C58⟩ ⟨rfl, rfl, o39, rfl, o44, rfl, o49, rfl, o58⟩
 dsimp only
 refine kw_nx (sr (oB9 14 ts34 rfl (oC9 1 ts34 rfl rfl (nn (cw_ret ?_)))))
 obtain rfl := sI H0
 exact kr Tryz.results46 (rC9 1 ts34 rfl rfl) [0, 10, 11, 12, 13] ⟨_, _, _, _, _, _, _, _, _, _, _, _, _, _, _, _, rfl, rfl, rfl, o39, rfl, o44, rfl, o49, rfl, o58⟩

theorem c_s_KeyBefore (fl : Nat) (w : World) (a0 : K) (a1 : K) (r : Bool) (H0 : s_KeyBefore fl a0 a1 = some r) :
  Ct Tryz.prog 94 [.agg #[.int .i64 a0.s, .int .i64 a0.p], .agg #[.int .i64 a1.s, .int .i64 a1.p]] w [] (fun rv h' => rv = .bool r ∧ h' = []) := by
 unfold s_KeyBefore at H0
 refine ct_of_cw Tryz.func94 rfl Tryz.ntmps94 rfl (Sat.refl _ _) ?_
 refine sr (oE (stpU_box 0 rfl rfl) rfl ?_)
 rintro _ _ ⟨b1, rfl, rfl⟩
 refine oE (stpU_box 1 rfl rfl) rfl ?_
 rintro _ _ ⟨b2, rfl, rfl⟩
 obtain ⟨y3, ey3, H0⟩ := bS H0
 refine oS rfl (nn (sr (oA 0 Tryz.underlying36 rfl ts3 rfl (oL 0 ts3 rfl (oA 0 Tryz.underlying36 rfl ts3 rfl (oL 1 ts3 rfl (oW rfl (oM rfl (ow_cutY 13 23 y3 ?_ ?_)))))))))
 ·rcases Bool.eq_false_or_eq_true (decide (a0.s < a1.s)) with hy3 | hy3
  ·have ey3 := cond_t ey3 hy3
   refine oO rfl hy3 rfl (oO rfl hy3 rfl (oO rfl hy3 rfl (oO rfl hy3 rfl (oO rfl hy3 rfl (oO rfl hy3 rfl (oX rfl rfl rfl (oX rfl rfl rfl (oX rfl rfl rfl (oX rfl rfl rfl (oX rfl rfl rfl (oO rfl hy3 rfl (oD (stp_pick_t rfl hy3 rfl) rfl ?_))))))))))))
   obtain rfl := sI ey3
   exact ow_nil (jy 13 0)
  have ey3 := cond_f ey3 hy3
  obtain ⟨y4, ey4, ey3⟩ := bS ey3
  refine oG rfl hy3 (fA 0 Tryz.underlying36 rfl ts3 rfl rfl rfl) rfl (oG rfl hy3 (lB 0 ts3 rfl rfl rfl) rfl (oG rfl hy3 (fA 0 Tryz.underlying36 rfl ts3 rfl rfl rfl) rfl (oG rfl hy3 (lB 1 ts3 rfl rfl rfl) rfl (oG rfl hy3 (stp_eql rfl rfl) rfl (oG rfl hy3 (mv rfl) rfl (ow_cutY 6 22 y4 ?_ ?_))))))
  ·rcases Bool.eq_false_or_eq_true (a0.s == a1.s) with hy4 | hy4
   ·have ey4 := cond_t ey4 hy4
    refine oG rfl hy4 (fA 1 Tryz.underlying36 rfl ts3 rfl rfl rfl) rfl (oG rfl hy4 (lB 0 ts3 rfl rfl rfl) rfl (oG rfl hy4 (fA 1 Tryz.underlying36 rfl ts3 rfl rfl rfl) rfl (oG rfl hy4 (lB 1 ts3 rfl rfl rfl) rfl (oG rfl hy4 (stp_lss rfl rfl) rfl (oG rfl hy3 (stp_pick_t rfl hy4 rfl) rfl ?_)))))
    obtain rfl := sI ey4
    exact ow_nil (jy 6 0)
   have ey4 := cond_f ey4 hy4
   refine oO rfl hy4 rfl (oO rfl hy4 rfl (oO rfl hy4 rfl (oO rfl hy4 rfl (oO rfl hy4 rfl (oG rfl hy3 (stp_pick_f rfl hy4 rfl) rfl ?_)))))
   obtain rfl := sI ey4
   exact ow_nil (jy 6 0)
  refine oD (stp_pick_f rfl hy3 rfl) rfl ?_
  obtain rfl := sI ey3
  exact ow_nil (jy 8 0)
 refine oS rfl (nn (cw_ret ?_))
 obtain rfl := sI H0
 exact kr Tryz.results94 (rT rfl) [] ⟨rfl, rfl⟩

theorem c_s_KeysOf (fl : Nat) (w : World) (a0 : T) (hn0_0 : n0_0 = (a0.b).length) (hr0_0 : RO w (hkeys []) (RdL p0_0 c0_0 a0.b)) (hn0_1 : n0_1 = (a0.f).length) (hr0_1 : RO w (hkeys []) (RdL p0_1 c0_1 a0.f)) (r : (List K)) (H0 : s_KeysOf fl a0 = some r) :
  Ct Tryz.prog 47 [.agg #[.slice p0_0 n0_0 c0_0, .slice p0_1 n0_1 c0_1]] w [] (fun rv h' => ∃ (x0 : Option Addr) (y0 z0 : Nat) (C0 : Res), rv = .slice x0 y0 z0 ∧ h' = [(0, C0)] ∧ y0 = (r).length ∧ OwnC 36 x0 z0 r C0) := by
 subst hn0_0 hn0_1
 unfold s_KeysOf at H0
 refine ct_of_cw Tryz.func47 rfl Tryz.ntmps47 rfl (Sat.refl _ _) ?_
 refine sr (oE (stpU_box 0 rfl rfl) rfl ?_)
 rintro _ _ ⟨b1, rfl, rfl⟩
 refine oS rfl (nn (sr (oE (stpU_lit0 sl87 1) rfl ?_)))
 rintro _ _ ⟨p2, C3, rfl, rfl, o3⟩
 obtain ⟨o0_0, eo0_0, H0⟩ := bS H0
 refine oS rfl (nn (cw_seq (sr (oS rfl (nn (cw_join (ι := (List K) × Int × Option Addr × Nat × Nat × Res) (fun | (v4, v9, p5, n6, c7, C8) => o0_0 = .out (v4, v9) ∧ n6 = (v4).length ∧ OwnC 36 p5 c7 v4 C8) (fun | (v4, v9, p5, n6, c7, C8) => [(1, .pointer (some ⟨b1, 0, none⟩)), (3, .slice p5 n6 c7), (4, .int .i64 v9)]) (fun | (v4, v9, p5, n6, c7, C8) => [(0, [(b1, .cells #[.slice p0_0 ((a0.b).length) c0_0, .slice p0_1 ((a0.f).length) c0_1] 26 (0, 0))]), (1, C8)]) ?_ ?_))))))
 ·refine cw_block (cw_loopS (ι := Nat × (List K) × Int × Option Addr × Nat × Nat × Res) (js := [0, 1]) (fun x => x.1) (fun | (fuel, v4, v9, p5, n6, c7, C8) => s_KeysOf_L0 fl a0 fuel v4 v9 = some o0_0 ∧ n6 = (v4).length ∧ OwnC 36 p5 c7 v4 C8) (fun | (_, v4, v9, p5, n6, c7, C8) => [(1, .pointer (some ⟨b1, 0, none⟩)), (3, .slice p5 n6 c7), (4, .int .i64 v9)]) (fun | (_, v4, v9, p5, n6, c7, C8) => [(0, [(b1, .cells #[.slice p0_0 ((a0.b).length) c0_0, .slice p0_1 ((a0.f).length) c0_1] 26 (0, 0))]), (1, C8)]) (fl, ([] : List K), 0, p2, 0, 0, C3) ⟨eo0_0, (by simp), o3⟩ ⟨rfl, rfl, rfl, trivial⟩ ⟨0, [1], rfl, rfl, 1, [], rfl, rfl, trivial⟩ (by decide) ?_)
  rintro ⟨fuel, v4, v9, p5, _, c7, C8⟩ ⟨H1, rfl, o8⟩
  have H1 : s_KeysOf_L0 fl a0 fuel v4 v9 = some o0_0 := H1
  rcases fuel with _ | fuel
  ·rw [s_KeysOf_L0.eq_1] at H1; cases H1
  rw [s_KeysOf_L0.eq_2] at H1
  dsimp only
  obtain ⟨y10, ey10, H1⟩ := bS H1
  refine cw_seq (sr (oM rfl (oA 1 Tryz.underlying26 rfl ts24 rfl (oL 0 ts24 rfl (oD (stp_len Tryz.underlying24 rfl) rfl (oW rfl (oM rfl (ow_cutY 3 16 y10 ?_ ?_))))))))
  ·rcases Bool.eq_false_or_eq_true (decide (v9 < ((a0.f).length : Int))) with hy10 | hy10
   ·have ey10 := cond_t ey10 hy10
    obtain ⟨x11, e11, ey10⟩ := bS ey10
    refine oG rfl hy10 (stp_loadN (us := [_, _]) ts26 rfl (Cells.box (id := 0) rfl 2 rfl)) rfl (ow_eff (.some rfl hy10) (stpU_call (fun i => 2 + i) cf54 (fun w hw => c_s_TableValid fl w a0 rfl (RO.pass hr0_0 hw) rfl (RO.pass hr0_1 hw) x11 e11) (yA rfl)) rfl ?_)
    rintro _ _ ⟨_, ⟨rfl, rfl⟩, rfl⟩
    refine oD (stp_pick_t rfl hy10 rfl) rfl ?_
    obtain rfl := sI ey10
    exact ow_nil (jy 3 0)
   have ey10 := cond_f ey10 hy10
   refine oO rfl hy10 rfl (oO rfl hy10 rfl (oD (stp_pick_f rfl hy10 rfl) rfl ?_))
   obtain rfl := sI ey10
   exact ow_nil (jy 3 0)
  refine ow_nil (kw_nx (cw_cond rfl (fun h12 => ?_) (fun h12 => ?_)))
  ·have H1 := cond_t H1 h12
   obtain ⟨x13, e13, H1⟩ := bS H1
   refine cw_skip (kw_nx (cw_seq (cw_block (cw_seq (sr (oA 1 Tryz.underlying26 rfl ts24 rfl (oL 0 ts24 rfl (oM rfl (oD (stp_indexAddr Tryz.underlying24 ts74 (by decide) rfl rfl rfl (Rdb.ro hr0_1) e13) rfl (oA 0 Tryz.underlying74 rfl ts4 rfl (oD (stp_load1 ts4 rfl (Cells.el (Rdb.ro hr0_1) (by decide) e13 0 1 rfl)) rfl (oK rfl (nn ?_)))))))))))))
   refine cw_cond rfl (fun h14 => ?_) (fun h14 => ?_)
   ·have H1 := cond_t H1 h14
    obtain ⟨x15, e15, H1⟩ := bS H1
    exact cw_exit (kw_nx_exit (kw_bl (kw_nx (cw_region (oM rfl (oP e15 rfl (oS rfl (ow_nil (kw_lqS (js := [0, 1]) (fuel, v4, x15, p5, ((v4).length), c7, C8) ⟨H1, rfl, o8⟩ (Nat.lt_succ_self _) ⟨rfl, rfl, rfl, trivial⟩ ⟨0, [1], rfl, rfl, 1, [], rfl, rfl, trivial⟩ (by decide))))))))))
   have H1 := cond_f H1 h14
   refine cw_skip (kw_nx (sr (oM rfl (oA 1 Tryz.underlying26 rfl ts24 rfl (oL 0 ts24 rfl (oM rfl (oD (stp_indexAddr Tryz.underlying24 ts74 (by decide) rfl rfl rfl (Rdb.ro hr0_1) e13) rfl (oA 1 Tryz.underlying74 rfl ts36 rfl (oD (stp_loadN (us := [_, _]) ts36 rfl (Cells.el (Rdb.ro hr0_1) (by decide) e13 1 2 rfl)) rfl (oE (stpU_lit (sz := 2) (l := [x13.k]) [.agg #[.int .i64 x13.k.s, .int .i64 x13.k.p]] sl87 2 (sevp_cons rfl sevp_nil) rfl rfl rfl rfl rfl rfl rfl rfl rfl) rfl ?_))))))))))
   rintro _ _ ⟨p16, C17, rfl, rfl, o17⟩
   obtain ⟨x18, e18, H1⟩ := bS H1
   refine oE (stpU_append sl87 rfl (id := 1) rfl rfl rfl (by simp) rfl o8 (Rdb.own (id := 2) rfl o17) e18) rfl ?_
   rintro _ _ ⟨p19, c20, C21, rfl, rfl, o21⟩
   obtain ⟨x22, e22, H1⟩ := bS H1
   obtain ⟨o1_1, eo1_1, H1⟩ := bS H1
   refine oS rfl (nn (sr (oM rfl (oD (stp_len Tryz.underlying87 rfl) rfl (oD (stp_sub rfl rfl e22) rfl (oS rfl (nn (cw_join (ι := (List K) × Int × Res) (fun | (v23, v25, C24) => o1_1 = .out (v23, v25) ∧ (x18).length = (v23).length ∧ OwnC 36 p19 c20 v23 C24) (fun | (v23, v25, C24) => [(1, .pointer (some ⟨b1, 0, none⟩)), (3, .slice p19 ((x18).length) c20), (4, .int .i64 v9), (5, .int .i64 v25)]) (fun | (v23, v25, C24) => [(0, [(b1, .cells #[.slice p0_0 ((a0.b).length) c0_0, .slice p0_1 ((a0.f).length) c0_1] 26 (0, 0))]), (1, C24)]) ?_ ?_))))))))
   ·refine cw_block (cw_loopS (ι := Nat × (List K) × Int × Res) (js := [0, 1]) (fun x => x.1) (fun | (fuel, v23, v25, C24) => s_KeysOf_L1 fl fuel v23 v25 = some o1_1 ∧ (x18).length = (v23).length ∧ OwnC 36 p19 c20 v23 C24) (fun | (_, v23, v25, C24) => [(1, .pointer (some ⟨b1, 0, none⟩)), (3, .slice p19 ((x18).length) c20), (4, .int .i64 v9), (5, .int .i64 v25)]) (fun | (_, v23, v25, C24) => [(0, [(b1, .cells #[.slice p0_0 ((a0.b).length) c0_0, .slice p0_1 ((a0.f).length) c0_1] 26 (0, 0))]), (1, C24)]) (fl, x18, x22, C21) ⟨eo1_1, rfl, o21⟩ ⟨rfl, rfl, rfl, rfl, trivial⟩ ⟨0, [1], rfl, rfl, 1, [], rfl, rfl, trivial⟩ (by decide) ?_)
    rintro ⟨fuel, v23, v25, C24⟩ ⟨H2, hl24, o24⟩
    have H2 : s_KeysOf_L1 fl fuel v23 v25 = some o1_1 := H2
    rcases fuel with _ | fuel
    ·rw [s_KeysOf_L1.eq_1] at H2; cases H2
    rw [s_KeysOf_L1.eq_2] at H2
    dsimp only
    obtain ⟨y26, ey26, H2⟩ := bS H2
    refine cw_seq (cw_seq (rdt g_mixed (rn 0 14) ⟨[[],[],[],[],[],[1],[1],[],[],[],[1],[1]], [], []⟩ (dM rfl (dJ rfl (dM rfl (dcY 11 51 y26 ?_ ?_))))))
    ·rcases Bool.eq_false_or_eq_true (decide (0 < v25)) with hy26 | hy26
     ·have ey26 := cond_t ey26 hy26
      obtain ⟨x27, e27, ey26⟩ := bS ey26
      obtain ⟨x28, e28, ey26⟩ := bS ey26
      obtain ⟨x29, e29, ey26⟩ := bS ey26
      obtain ⟨x30, e30, ey26⟩ := bS ey26
      refine dG rfl hy26 (mv rfl) (dG rfl hy26 (mv rfl) (dG rfl hy26 (stp_indexAddr Tryz.underlying87 ts36 (by decide) rfl (by simp [hl24]) rfl (Rdb.own (id := 1) rfl o24) e27) (dG rfl hy26 (stp_loadN (us := [_, _]) ts36 rfl (Cells.el (Rdb.own (id := 1) rfl o24) (by decide) e27 0 2 rfl)) (dG rfl hy26 (mv rfl) (dG rfl hy26 (mv rfl) (dG rfl hy26 (stp_sub rfl rfl e28) (dG rfl hy26 (stp_indexAddr Tryz.underlying87 ts36 (by decide) rfl (by simp [hl24]) rfl (Rdb.own (id := 1) rfl o24) e29) (dG rfl hy26 (stp_loadN (us := [_, _]) ts36 rfl (Cells.el (Rdb.own (id := 1) rfl o24) (by decide) e29 0 2 rfl)) (dVg rfl hy26 (fun hh => stpU_call (fun i => 3 + i) cf94 (fun w hw => c_s_KeyBefore fl w x27 x29 x30 e30) (yB rfl rfl)) rfl (dD rfl (stp_pick_t rfl hy26 rfl) ?_))))))))))
      obtain rfl := sI ey26
      exact dy 11 0
     have ey26 := cond_f ey26 hy26
     refine dO rfl hy26 (dO rfl hy26 (dO rfl hy26 (dO rfl hy26 (dO rfl hy26 (dO rfl hy26 (dO rfl hy26 (dO rfl hy26 (dO rfl hy26 (dO rfl hy26 (dD rfl (stp_pick_f rfl hy26 rfl) ?_))))))))))
     obtain rfl := sI ey26
     exact dy 11 0
    refine dn (kw_nx (cw_cond rfl (fun h31 => ?_) (fun h31 => ?_)))
    ·have H2 := cond_t H2 h31
     obtain ⟨x32, e32, H2⟩ := bS H2
     refine cw_skip (kw_nx (cw_seq (cw_block (sr (oM rfl (oM rfl (oD (stp_indexAddr Tryz.underlying87 ts36 (by decide) rfl (by simp [hl24]) rfl (Rdb.own (id := 1) rfl o24) e32) rfl (oD (stp_loadN (us := [_, _]) ts36 rfl (Cells.el (Rdb.own (id := 1) rfl o24) (by decide) e32 0 2 rfl)) rfl (oE (stpU_alloc 3 tz36 rfl) rfl ?_)))))))))
     rintro _ _ ⟨b33, rfl, rfl⟩
     obtain ⟨x34, e34, H2⟩ := bS H2
     obtain ⟨x35, e35, H2⟩ := bS H2
     refine oC2 3 ts36 rfl rfl (nn (sr (oM rfl (oM rfl (oM rfl (oM rfl (oD (stp_sub rfl rfl e34) rfl (oD (stp_indexAddr Tryz.underlying87 ts36 (by decide) rfl (by simp [hl24]) rfl (Rdb.own (id := 1) rfl o24) e35) rfl (oD (stp_loadN (us := [_, _]) ts36 rfl (Cells.el (Rdb.own (id := 1) rfl o24) (by decide) e35 0 2 rfl)) rfl (oD (stp_indexAddr Tryz.underlying87 ts36 (by decide) rfl (by simp [hl24]) rfl (Rdb.own (id := 1) rfl o24) e32) rfl (oF (stpU_storeEl (id := 1) (i := 0) x35 (by decide) ts36 rfl rfl rfl o24 e32 rfl rfl rfl rfl) ?_)))))))))))
     rintro _ _ ⟨C36, rfl, o36⟩
     obtain ⟨x37, e37, H2⟩ := bS H2
     refine nn (cw_region (oM rfl (oM rfl (oD (stp_sub rfl rfl e34) rfl (oB2 3 ts36 rfl (oD (stp_indexAddr Tryz.underlying87 ts36 (by decide) rfl (by simp [hl24]) rfl (Rdb.own (id := 1) rfl o36) e37) rfl (oF (stpU_storeEl (id := 1) (i := 0) x32 (by decide) ts36 rfl rfl rfl o36 e37 rfl rfl rfl rfl) ?_)))))))
     rintro _ _ ⟨C38, rfl, o38⟩
     exact ow_nil (kw_bl_normal (kw_nx (cw_region (oM rfl (oD (stp_sub rfl rfl e34) rfl (oS rfl (ow_nil (kw_lqS (js := [0, 1]) (fuel, ((v23.set (Int.toNat v25) x35).set (Int.toNat x34) x32), x34, C38) ⟨H2, (by simp [hl24]), o38⟩ (Nat.lt_succ_self _) ⟨rfl, rfl, rfl, rfl, trivial⟩ ⟨0, [1], rfl, rfl, 1, [], rfl, rfl, trivial⟩ (by decide)))))))))
    have H2 := cond_f H2 h31
    refine cw_exit (kw_nx_exit (kw_lq_exit (kw_bl ?_)))
    obtain rfl := sI H2
    exact kw_joinS (js := [0, 1]) (v23, v25, C24) ⟨rfl, (by simp [hl24]), o24⟩ ⟨rfl, rfl, rfl, rfl, trivial⟩ ⟨0, [1], rfl, rfl, 1, [], rfl, rfl, trivial⟩ (by decide)
   rintro ⟨v23, v25, C24⟩ ⟨rfl, hl24, o24⟩
   dsimp only
   obtain ⟨x39, e39, H1⟩ := bS H1
   exact kw_bl_normal (kw_nx (cw_region (oM rfl (oP e39 rfl (oS rfl (ow_nil (kw_lqS (js := [0, 1]) (fuel, v23, x39, p19, ((x18).length), c20, C24) ⟨H1, (by simp [hl24]), o24⟩ (Nat.lt_succ_self _) ⟨rfl, rfl, rfl, trivial⟩ ⟨0, [1], rfl, rfl, 1, [], rfl, rfl, trivial⟩ (by decide))))))))
  have H1 := cond_f H1 h12
  refine cw_exit (kw_nx_exit (kw_lq_exit (kw_bl ?_)))
  obtain rfl := sI H1
  exact kw_joinS (js := [0, 1]) (v4, v9, p5, ((v4).length), c7, C8) ⟨rfl, rfl, o8⟩ ⟨rfl, rfl, rfl, trivial⟩ ⟨0, [1], rfl, rfl, 1, [], rfl, rfl, trivial⟩ (by decide)
 rintro ⟨v4, v9, p5, _, c7, C8⟩ ⟨rfl, rfl, o8⟩
 dsimp only
 refine kw_nx (sr (oM rfl (oS rfl (nn (cw_ret ?_)))))
 obtain rfl := sI H0
 exact kr Tryz.results47 (rT rfl) [1] ⟨_, _, _, _, rfl, rfl, rfl, o8⟩

theorem c_s_l4Wrong (fl : Nat) (w : World) (m0 : Nat) (a0_0 : (List UInt8)) (a0_1 : Int) (a1 : Ca) (hn0_0_0 : n0_0_0 = (a0_0).length) (hr0_0_0 : RO w (hkeys [(0, [(m0, .cells #[.slice p0_0_0 n0_0_0 c0_0_0, .int .i64 a0_1] 92 (0, 0))])]) (RdL p0_0_0 c0_0_0 a0_0)) (hn1_0 : n1_0 = (a1.l).length) (hr1_0 : RO w (hkeys [(0, [(m0, .cells #[.slice p0_0_0 n0_0_0 c0_0_0, .int .i64 a0_1] 92 (0, 0))])]) (RdL p1_0 c1_0 a1.l)) (hM : Sat w (hkeys [(0, [(m0, .cells #[.slice p0_0_0 n0_0_0 c0_0_0, .int .i64 a0_1] 92 (0, 0))])]) w [(0, [(m0, .cells #[.slice p0_0_0 n0_0_0 c0_0_0, .int .i64 a0_1] 92 (0, 0))])]) (r : Ca × Int) (H0 : s_l4Wrong fl a0_0 a0_1 a1 = some r) :
  Ct Tryz.prog 95 [.pointer (some ⟨m0, 0, none⟩), .agg #[.slice p1_0 n1_0 c1_0, .int .i64 a1.h]] w [(0, [(m0, .cells #[.slice p0_0_0 n0_0_0 c0_0_0, .int .i64 a0_1] 92 (0, 0))])] (fun rv h' => ∃ (x1 : Option Addr) (y1 z1 : Nat) (C1 : Res), rv = .agg #[.slice x1 y1 z1, .int .i64 r.1.h] ∧ h' = [(0, [(m0, .cells #[.slice p0_0_0 n0_0_0 c0_0_0, .int .i64 r.2] 92 (0, 0))]), (1, C1)] ∧ y1 = (r.1.l).length ∧ OwnC 66 x1 z1 r.1.l C1) := by
 subst hn0_0_0 hn1_0
 unfold s_l4Wrong at H0
 refine ct_of_cw Tryz.func95 rfl Tryz.ntmps95 rfl hM ?_
 refine sr (oE (stpU_box 1 rfl rfl) rfl ?_)
 rintro _ _ ⟨b1, rfl, rfl⟩
 refine oE (stpU_alloc 2 tz29 rfl) rfl ?_
 rintro _ _ ⟨b2, rfl, rfl⟩
 obtain ⟨x3, e3, H0⟩ := bS H0
 refine nn (sr (oB2 1 ts29 rfl (oE (stpU_call (fun i => 3 + i) cf90 (fun w hw => c_s_l4Copy fl w a1 rfl (RO.pass hr1_0 hw) x3 e3) (yA rfl)) rfl ?_)))
 rintro _ _ ⟨_, ⟨p4, _, c6, C7, rfl, rfl, rfl, o7⟩, rfl⟩
 refine oE (stpU_alloc 4 tz29 rfl) rfl ?_
 rintro _ _ ⟨b8, rfl, rfl⟩
 refine oC2 4 ts29 rfl rfl (nn (cw_seq (sr (oA 0 Tryz.underlying29 rfl ts27 rfl (oL 4 ts27 rfl (oD (stp_len Tryz.underlying27 rfl) rfl (oQ rfl (nn (cw_cond rfl (fun h9 => ?_) (fun h9 => ?_))))))))))
 ·have H0 := cond_t H0 h9
  refine sr (oB2 4 ts29 rfl (oC2 2 ts29 rfl rfl (nn (cw_ret (kw_nx_ret ?_)))))
  obtain rfl := sI H0
  exact kr Tryz.results95 (rC2 2 ts29 rfl rfl) [0, 3] ⟨_, _, _, _, rfl, rfl, rfl, o7⟩
 have H0 := cond_f H0 h9
 obtain ⟨x10, e10, H0⟩ := bS H0
 refine cw_skip (kw_nx (sr (oM rfl (oA 0 Tryz.underlying29 rfl ts27 rfl (oL 4 ts27 rfl (oD (stp_len Tryz.underlying27 rfl) rfl (oE (stpU_callM (fun i => bif Nat.beq i 0 then 0 else 5 + i) cf49 (fun w hw hb => c_s_l12Rd_pick fl w m0 a0_0 a0_1 ((x3.l).length : Int) rfl (RO.passM hr0_0_0 hw hb) (hw.pass (js := [0]) ⟨0, [], rfl, rfl, trivial⟩ (by decide)) x10 e10) (yB rfl rfl) ⟨rfl, (fun _ _ hp => by obtain ⟨_, rfl⟩ := hp; exact ⟨_, rfl⟩), trivial⟩) rfl ?_)))))))
 rintro _ _ ⟨_, ⟨rfl, rfl⟩, rfl⟩
 obtain ⟨x11, e11, H0⟩ := bS H0
 refine oS rfl (nn (cw_seq (sr (oM rfl (oE (stpU_callM (fun i => bif Nat.beq i 0 then 0 else 6 + i) cf49 (fun w hw hb => c_s_l12Rd_pick fl w m0 a0_0 x10.2 24 rfl (RO.passM hr0_0_0 hw hb) (hw.pass (js := [0]) ⟨0, [], rfl, rfl, trivial⟩ (by decide)) x11 e11) (yB rfl rfl) ⟨rfl, (fun _ _ hp => by obtain ⟨_, rfl⟩ := hp; exact ⟨_, rfl⟩), trivial⟩) rfl ?_)))))
 rintro _ _ ⟨_, ⟨rfl, rfl⟩, rfl⟩
 refine nn (cw_block (sr (oQ rfl (oS rfl (nn (cw_cond rfl (fun h12 => ?_) (fun h12 => ?_)))))))
 ·have H0 := cond_t H0 h12
  refine cw_region (oM rfl (oE (stpU_lit (sz := 1) (l := [(-1), 8, 0]) [.int .i64 (-1), .int .i64 8, .int .i64 0] sl23 7 (sevp_cons rfl (sevp_cons rfl (sevp_cons rfl sevp_nil))) rfl rfl rfl rfl rfl rfl rfl rfl rfl) rfl ?_))
  rintro _ _ ⟨p13, C14, rfl, rfl, o14⟩
  obtain ⟨x15, e15, H0⟩ := bS H0
  refine oE (stpU_callM (fun i => bif Nat.beq i 0 then 0 else 8 + i) cf18 (fun w hw hb => c_s_l12Rd_num fl w m0 a0_0 x11.2 ([(-1), 8, 0]) rfl (RO.passM hr0_0_0 hw hb) (by simp) (OwnC.passM (id := 7) rfl o14 hw hb ⟨rfl, trivial⟩) (hw.pass (js := [0]) ⟨0, [], rfl, rfl, trivial⟩ (by decide)) x15 e15) (yB rfl rfl) ⟨rfl, (fun _ _ hp => by obtain ⟨_, rfl⟩ := hp; exact ⟨_, rfl⟩), trivial⟩) rfl ?_
  rintro _ _ ⟨_, ⟨rfl, rfl⟩, rfl⟩
  refine oA 1 Tryz.underlying29 rfl ts3 rfl (oC2 4 ts3 rfl rfl (ow_nil (kw_bl_normal (kw_nx (sr (oB2 4 ts29 rfl (oC2 2 ts29 rfl rfl (nn (cw_ret ?_)))))))))
  obtain rfl := sI H0
  exact kr Tryz.results95 (rC2 2 ts29 rfl rfl) [0, 3] ⟨_, _, _, _, rfl, rfl, rfl, o7⟩
 have H0 := cond_f H0 h12
 refine sr (oQ rfl (oS rfl (nn (cw_cond rfl (fun h16 => ?_) (fun h16 => ?_)))))
 ·have H0 := cond_t H0 h16
  obtain ⟨x17, e17, H0⟩ := bS H0
  refine rdt g_mixed (rn 0 13) ⟨[[],[4],[],[],[4],[],[3],[],[3],[],[3],[],[3]], [[],[],[],[],[],[],[],[],[],[],[],[],[3]], [12]⟩ (dA 0 rfl Tryz.underlying29 rfl ts27 rfl (dL 4 ts27 rfl (dM rfl (dA 0 rfl Tryz.underlying29 rfl ts27 rfl (dL 4 ts27 rfl (dM rfl (dD rfl (stp_indexAddr Tryz.underlying27 ts66 (by decide) rfl rfl rfl (Rdb.own (id := 3) rfl o7) e17) (dA 0 rfl Tryz.underlying66 rfl ts4 rfl (dD rfl (stp_load1 ts4 rfl (Cells.el (Rdb.own (id := 3) rfl o7) (by decide) e17 0 1 rfl)) (dK rfl (dD rfl (stp_indexAddr Tryz.underlying27 ts66 (by decide) rfl rfl rfl (Rdb.own (id := 3) rfl o7) e17) (dA 0 rfl Tryz.underlying66 rfl ts4 rfl (dF rfl (fun hh => stpU_storeEl (id := 3) (i := 0) (⟨(!x17.va), x17.tg, x17.pg, x17.fr, x17.ri, x17.wi⟩ : Ln) (by decide) ts4 rfl rfl (hh _ _ rfl) o7 e17 rfl rfl rfl rfl) ?_)))))))))))))
  rintro _ _ ⟨C18, rfl, o18⟩
  refine dk rfl (dn (kw_bl_normal (kw_nx (sr (oB2 4 ts29 rfl (oC2 2 ts29 rfl rfl (nn (cw_ret ?_))))))))
  obtain rfl := sI H0
  exact kr Tryz.results95 (rC2 2 ts29 rfl rfl) [0, 3] ⟨_, _, _, _, rfl, rfl, (by simp), o18⟩
 have H0 := cond_f H0 h16
 refine sr (oQ rfl (oS rfl (nn (cw_cond rfl (fun h19 => ?_) (fun h19 => ?_)))))
 ·have H0 := cond_t H0 h19
  refine rdt g_mixed (rn 0 9) ⟨[[],[4],[],[],[],[0,9],[3],[],[3]], [[],[],[],[],[9],[0],[],[],[3]], [4,8]⟩ (dA 0 rfl Tryz.underlying29 rfl ts27 rfl (dL 4 ts27 rfl (dM rfl (dM rfl (dE rfl (fun hh => stpU_lit (sz := 1) (l := [2, 256, 3]) [.int .i64 2, .int .i64 256, .int .i64 3] sl23 9 (sevp_cons rfl (sevp_cons rfl (sevp_cons rfl sevp_nil))) rfl rfl rfl rfl rfl rfl rfl rfl rfl) ?_)))))
  rintro _ _ ⟨p20, C21, rfl, rfl, o21⟩
  obtain ⟨x22, e22, H0⟩ := bS H0
  obtain ⟨x23, e23, H0⟩ := bS H0
  refine dk rfl (dV rfl (fun hh => stpU_callM (fun i => bif Nat.beq i 0 then 0 else 10 + i) cf18 (fun w hw hb => c_s_l12Rd_num fl w m0 a0_0 x11.2 ([2, 256, 3]) rfl (RO.passM hr0_0_0 hw hb) (by simp) (OwnC.passM (id := 9) (hh _ _ rfl) o21 hw hb ⟨rfl, trivial⟩) (hw.pass (js := [0]) ⟨0, [], rfl, (hh _ _ rfl), trivial⟩ (by decide)) x22 e22) (yB rfl rfl) ⟨(hh _ _ rfl), (fun _ _ hp => by obtain ⟨_, rfl⟩ := hp; exact ⟨_, rfl⟩), trivial⟩) rfl (dD rfl (stp_indexAddr Tryz.underlying27 ts66 (by decide) rfl rfl rfl (Rdb.own (id := 3) rfl o7) e23) (dA 2 rfl Tryz.underlying66 rfl ts3 rfl (dF rfl (fun hh => stpU_storeEl (id := 3) (i := 2) (⟨x23.va, x23.tg, x22.1, x23.fr, x23.ri, x23.wi⟩ : Ln) (by decide) ts3 rfl rfl (hh _ _ rfl) o7 e23 rfl rfl rfl rfl) ?_))))
  rintro _ _ ⟨C24, rfl, o24⟩
  refine dk rfl (dn (kw_bl_normal (kw_nx (sr (oB2 4 ts29 rfl (oC2 2 ts29 rfl rfl (nn (cw_ret ?_))))))))
  obtain rfl := sI H0
  exact kr Tryz.results95 (rC2 2 ts29 rfl rfl) [0, 3] ⟨_, _, _, _, rfl, rfl, (by simp), o24⟩
 have H0 := cond_f H0 h19
 refine sr (oQ rfl (oS rfl (nn (cw_cond rfl (fun h25 => ?_) (fun h25 => ?_)))))
 ·have H0 := cond_t H0 h25
  refine rdt g_mixed (rn 0 9) ⟨[[],[4],[],[],[],[0,11],[3],[],[3]], [[],[],[],[],[11],[0],[],[],[3]], [4,8]⟩ (dA 0 rfl Tryz.underlying29 rfl ts27 rfl (dL 4 ts27 rfl (dM rfl (dM rfl (dE rfl (fun hh => stpU_lit (sz := 1) (l := [8, (-2), 0, (-1)]) [.int .i64 8, .int .i64 (-2), .int .i64 0, .int .i64 (-1)] sl23 11 (sevp_cons rfl (sevp_cons rfl (sevp_cons rfl (sevp_cons rfl sevp_nil)))) rfl rfl rfl rfl rfl rfl rfl rfl rfl) ?_)))))
  rintro _ _ ⟨p26, C27, rfl, rfl, o27⟩
  obtain ⟨x28, e28, H0⟩ := bS H0
  obtain ⟨x29, e29, H0⟩ := bS H0
  refine dk rfl (dV rfl (fun hh => stpU_callM (fun i => bif Nat.beq i 0 then 0 else 12 + i) cf18 (fun w hw hb => c_s_l12Rd_num fl w m0 a0_0 x11.2 ([8, (-2), 0, (-1)]) rfl (RO.passM hr0_0_0 hw hb) (by simp) (OwnC.passM (id := 11) (hh _ _ rfl) o27 hw hb ⟨rfl, trivial⟩) (hw.pass (js := [0]) ⟨0, [], rfl, (hh _ _ rfl), trivial⟩ (by decide)) x28 e28) (yB rfl rfl) ⟨(hh _ _ rfl), (fun _ _ hp => by obtain ⟨_, rfl⟩ := hp; exact ⟨_, rfl⟩), trivial⟩) rfl (dD rfl (stp_indexAddr Tryz.underlying27 ts66 (by decide) rfl rfl rfl (Rdb.own (id := 3) rfl o7) e29) (dA 1 rfl Tryz.underlying66 rfl ts3 rfl (dF rfl (fun hh => stpU_storeEl (id := 3) (i := 1) (⟨x29.va, x28.1, x29.pg, x29.fr, x29.ri, x29.wi⟩ : Ln) (by decide) ts3 rfl rfl (hh _ _ rfl) o7 e29 rfl rfl rfl rfl) ?_))))
  rintro _ _ ⟨C30, rfl, o30⟩
  refine dk rfl (dn (kw_bl_normal (kw_nx (sr (oB2 4 ts29 rfl (oC2 2 ts29 rfl rfl (nn (cw_ret ?_))))))))
  obtain rfl := sI H0
  exact kr Tryz.results95 (rC2 2 ts29 rfl rfl) [0, 3] ⟨_, _, _, _, rfl, rfl, (by simp), o30⟩
 have H0 := cond_f H0 h25
 refine sr (oQ rfl (oS rfl (nn (cw_cond rfl (fun h31 => ?_) (fun h31 => ?_)))))
 ·have H0 := cond_t H0 h31
  refine cw_region (oE (stpU_lit0 sl27 13) rfl ?_)
  rintro _ _ ⟨p32, C33, rfl, rfl, o33⟩
  refine oA 0 Tryz.underlying29 rfl ts27 rfl (oC2 4 ts27 rfl rfl (ow_nil (kw_bl_normal (kw_nx (sr (oB2 4 ts29 rfl (oC2 2 ts29 rfl rfl (nn (cw_ret ?_)))))))))
  obtain rfl := sI H0
  exact kr Tryz.results95 (rC2 2 ts29 rfl rfl) [0, 13] ⟨_, _, _, _, rfl, rfl, (by simp), o33⟩
 have H0 := cond_f H0 h31
 refine cw_skip (kw_bl_normal (kw_nx (sr (oB2 4 ts29 rfl (oC2 2 ts29 rfl rfl (nn (cw_ret ?_)))))))
 obtain rfl := sI H0
 exact kr Tryz.results95 (rC2 2 ts29 rfl rfl) [0, 3] ⟨_, _, _, _, rfl, rfl, rfl, o7⟩

theorem c_s_l2Draw (fl : Nat) (w : World) (m0 : Nat) (a0_0 : (List UInt8)) (a0_1 : Int) (hn0_0_0 : n0_0_0 = (a0_0).length) (hr0_0_0 : RO w (hkeys [(0, [(m0, .cells #[.slice p0_0_0 n0_0_0 c0_0_0, .int .i64 a0_1] 92 (0, 0))])]) (RdL p0_0_0 c0_0_0 a0_0)) (hM : Sat w (hkeys [(0, [(m0, .cells #[.slice p0_0_0 n0_0_0 c0_0_0, .int .i64 a0_1] 92 (0, 0))])]) w [(0, [(m0, .cells #[.slice p0_0_0 n0_0_0 c0_0_0, .int .i64 a0_1] 92 (0, 0))])]) (r : K × Int) (H0 : s_l2Draw fl a0_0 a0_1 = some r) :
  Ct Tryz.prog 121 [.pointer (some ⟨m0, 0, none⟩)] w [(0, [(m0, .cells #[.slice p0_0_0 n0_0_0 c0_0_0, .int .i64 a0_1] 92 (0, 0))])] (fun rv h' => rv = .agg #[.int .i64 r.1.s, .int .i64 r.1.p] ∧ h' = [(0, [(m0, .cells #[.slice p0_0_0 n0_0_0 c0_0_0, .int .i64 r.2] 92 (0, 0))])]) := by
 subst hn0_0_0
 unfold s_l2Draw at H0
 refine ct_of_cw Tryz.func121 rfl Tryz.ntmps121 rfl hM ?_
 refine sr (oE (stpU_alloc 1 tz36 rfl) rfl ?_)
 rintro _ _ ⟨b1, rfl, rfl⟩
 refine nn (sr (oM rfl (oE (stpU_lit (sz := 1) (l := [0, 1, 2, 3, 1]) [.int .i64 0, .int .i64 1, .int .i64 2, .int .i64 3, .int .i64 1] sl23 2 (sevp_cons rfl (sevp_cons rfl (sevp_cons rfl (sevp_cons rfl (sevp_cons rfl sevp_nil))))) rfl rfl rfl rfl rfl rfl rfl rfl rfl) rfl ?_)))
 rintro _ _ ⟨p2, C3, rfl, rfl, o3⟩
 obtain ⟨x4, e4, H0⟩ := bS H0
 refine oE (stpU_callM (fun i => bif Nat.beq i 0 then 0 else 3 + i) cf18 (fun w hw hb => c_s_l12Rd_num fl w m0 a0_0 a0_1 ([0, 1, 2, 3, 1]) rfl (RO.passM hr0_0_0 hw hb) (by simp) (OwnC.passM (id := 2) rfl o3 hw hb ⟨rfl, trivial⟩) (hw.pass (js := [0]) ⟨0, [], rfl, rfl, trivial⟩ (by decide)) x4 e4) (yB rfl rfl) ⟨rfl, (fun _ _ hp => by obtain ⟨_, rfl⟩ := hp; exact ⟨_, rfl⟩), trivial⟩) rfl ?_
 rintro _ _ ⟨_, ⟨rfl, rfl⟩, rfl⟩
 refine oM rfl (oE (stpU_lit (sz := 1) (l := [0, 1, 2, 3, 4, 5, 100, 255]) [.int .i64 0, .int .i64 1, .int .i64 2, .int .i64 3, .int .i64 4, .int .i64 5, .int .i64 100, .int .i64 255] sl23 4 (sevp_cons rfl (sevp_cons rfl (sevp_cons rfl (sevp_cons rfl (sevp_cons rfl (sevp_cons rfl (sevp_cons rfl (sevp_cons rfl sevp_nil)))))))) rfl rfl rfl rfl rfl rfl rfl rfl rfl) rfl ?_)
 rintro _ _ ⟨p5, C6, rfl, rfl, o6⟩
 obtain ⟨x7, e7, H0⟩ := bS H0
 refine oE (stpU_callM (fun i => bif Nat.beq i 0 then 0 else 5 + i) cf18 (fun w hw hb => c_s_l12Rd_num fl w m0 a0_0 x4.2 ([0, 1, 2, 3, 4, 5, 100, 255]) rfl (RO.passM hr0_0_0 hw hb) (by simp) (OwnC.passM (id := 4) rfl o6 hw hb ⟨rfl, trivial⟩) (hw.pass (js := [0]) ⟨0, [], rfl, rfl, trivial⟩ (by decide)) x7 e7) (yB rfl rfl) ⟨rfl, (fun _ _ hp => by obtain ⟨_, rfl⟩ := hp; exact ⟨_, rfl⟩), trivial⟩) rfl ?_
 rintro _ _ ⟨_, ⟨rfl, rfl⟩, rfl⟩
 refine oD (stp_build (cs := #[.int .i64 x4.1, .int .i64 x7.1]) (sevp_cons rfl (sevp_cons rfl sevp_nil)) bt36_13) rfl (oC2 1 ts36 rfl rfl (nn (cw_ret ?_)))
 obtain rfl := sI H0
 exact kr Tryz.results121 (rC2 1 ts36 rfl rfl) [0] ⟨rfl, rfl⟩

theorem c_s_l3Wrong (fl : Nat) (w : World) (m0 : Nat) (a0_0 : (List UInt8)) (a0_1 : Int) (a1 : T) (hn0_0_0 : n0_0_0 = (a0_0).length) (hr0_0_0 : RO w (hkeys [(0, [(m0, .cells #[.slice p0_0_0 n0_0_0 c0_0_0, .int .i64 a0_1] 92 (0, 0))])]) (RdL p0_0_0 c0_0_0 a0_0)) (hn1_0 : n1_0 = (a1.b).length) (hr1_0 : RO w (hkeys [(0, [(m0, .cells #[.slice p0_0_0 n0_0_0 c0_0_0, .int .i64 a0_1] 92 (0, 0))])]) (RdL p1_0 c1_0 a1.b)) (hn1_1 : n1_1 = (a1.f).length) (hr1_1 : RO w (hkeys [(0, [(m0, .cells #[.slice p0_0_0 n0_0_0 c0_0_0, .int .i64 a0_1] 92 (0, 0))])]) (RdL p1_1 c1_1 a1.f)) (hM : Sat w (hkeys [(0, [(m0, .cells #[.slice p0_0_0 n0_0_0 c0_0_0, .int .i64 a0_1] 92 (0, 0))])]) w [(0, [(m0, .cells #[.slice p0_0_0 n0_0_0 c0_0_0, .int .i64 a0_1] 92 (0, 0))])]) (r : T × Int) (H0 : s_l3Wrong fl a0_0 a0_1 a1 = some r) :
  Ct Tryz.prog 96 [.pointer (some ⟨m0, 0, none⟩), .agg #[.slice p1_0 n1_0 c1_0, .slice p1_1 n1_1 c1_1]] w [(0, [(m0, .cells #[.slice p0_0_0 n0_0_0 c0_0_0, .int .i64 a0_1] 92 (0, 0))])] (fun rv h' => ∃ (x1 : Option Addr) (y1 z1 : Nat) (C1 : Res) (x2 : Option Addr) (y2 z2 : Nat) (C2 : Res), rv = .agg #[.slice x1 y1 z1, .slice x2 y2 z2] ∧ h' = [(0, [(m0, .cells #[.slice p0_0_0 n0_0_0 c0_0_0, .int .i64 r.2] 92 (0, 0))]), (1, C1), (2, C2)] ∧ y1 = (r.1.b).length ∧ OwnC 3 x1 z1 r.1.b C1 ∧ y2 = (r.1.f).length ∧ OwnC 74 x2 z2 r.1.f C2) := by
 subst hn0_0_0 hn1_0 hn1_1
 unfold s_l3Wrong at H0
 refine ct_of_cw Tryz.func96 rfl Tryz.ntmps96 rfl hM ?_
 refine sr (oE (stpU_box 1 rfl rfl) rfl ?_)
 rintro _ _ ⟨b1, rfl, rfl⟩
 refine oE (stpU_alloc 2 tz26 rfl) rfl ?_
 rintro _ _ ⟨b2, rfl, rfl⟩
 obtain ⟨x3, e3, H0⟩ := bS H0
 refine nn (sr (oB2 1 ts26 rfl (oE (stpU_call (fun i => 3 + i) cf61 (fun w hw => c_s_l3Copy fl w a1 rfl (RO.pass hr1_0 hw) rfl (RO.pass hr1_1 hw) x3 e3) (yA rfl)) rfl ?_)))
 rintro _ _ ⟨_, ⟨p4, _, c6, C7, p8, _, c10, C11, rfl, rfl, rfl, o7, rfl, o11⟩, rfl⟩
 refine oE (stpU_alloc 5 tz26 rfl) rfl ?_
 rintro _ _ ⟨b12, rfl, rfl⟩
 refine oC2 5 ts26 rfl rfl (nn (cw_seq (sr (oA 1 Tryz.underlying26 rfl ts24 rfl (oL 5 ts24 rfl (oD (stp_len Tryz.underlying24 rfl) rfl (oQ rfl (nn (cw_cond rfl (fun h13 => ?_) (fun h13 => ?_))))))))))
 ·have H0 := cond_t H0 h13
  refine sr (oB2 5 ts26 rfl (oC2 2 ts26 rfl rfl (nn (cw_ret (kw_nx_ret ?_)))))
  obtain rfl := sI H0
  exact kr Tryz.results96 (rC2 2 ts26 rfl rfl) [0, 3, 4] ⟨_, _, _, _, _, _, _, _, rfl, rfl, rfl, o7, rfl, o11⟩
 have H0 := cond_f H0 h13
 obtain ⟨x14, e14, H0⟩ := bS H0
 refine cw_skip (kw_nx (sr (oM rfl (oA 1 Tryz.underlying26 rfl ts24 rfl (oL 5 ts24 rfl (oD (stp_len Tryz.underlying24 rfl) rfl (oE (stpU_callM (fun i => bif Nat.beq i 0 then 0 else 6 + i) cf49 (fun w hw hb => c_s_l12Rd_pick fl w m0 a0_0 a0_1 ((x3.f).length : Int) rfl (RO.passM hr0_0_0 hw hb) (hw.pass (js := [0]) ⟨0, [], rfl, rfl, trivial⟩ (by decide)) x14 e14) (yB rfl rfl) ⟨rfl, (fun _ _ hp => by obtain ⟨_, rfl⟩ := hp; exact ⟨_, rfl⟩), trivial⟩) rfl ?_)))))))
 rintro _ _ ⟨_, ⟨rfl, rfl⟩, rfl⟩
 obtain ⟨x15, e15, H0⟩ := bS H0
 refine oS rfl (nn (cw_seq (sr (oM rfl (oE (stpU_callM (fun i => bif Nat.beq i 0 then 0 else 7 + i) cf49 (fun w hw hb => c_s_l12Rd_pick fl w m0 a0_0 x14.2 24 rfl (RO.passM hr0_0_0 hw hb) (hw.pass (js := [0]) ⟨0, [], rfl, rfl, trivial⟩ (by decide)) x15 e15) (yB rfl rfl) ⟨rfl, (fun _ _ hp => by obtain ⟨_, rfl⟩ := hp; exact ⟨_, rfl⟩), trivial⟩) rfl ?_)))))
 rintro _ _ ⟨_, ⟨rfl, rfl⟩, rfl⟩
 refine nn (cw_block (sr (oQ rfl (oS rfl (nn (cw_cond rfl (fun h16 => ?_) (fun h16 => ?_)))))))
 ·have H0 := cond_t H0 h16
  refine rdt g_mixed (rn 0 10) ⟨[[],[5],[],[],[],[],[0,8],[4],[],[4]], [[],[],[],[],[],[8],[0],[],[],[4]], [5,9]⟩ (dA 1 rfl Tryz.underlying26 rfl ts24 rfl (dL 5 ts24 rfl (dM rfl (dM rfl (dM rfl (dE rfl (fun hh => stpU_lit (sz := 1) (l := [0, x14.1, 16, (-1)]) [.int .i64 0, .int .i64 x14.1, .int .i64 16, .int .i64 (-1)] sl23 8 (sevp_cons rfl (sevp_cons rfl (sevp_cons rfl (sevp_cons rfl sevp_nil)))) rfl rfl rfl rfl rfl rfl rfl rfl rfl) ?_))))))
  rintro _ _ ⟨p17, C18, rfl, rfl, o18⟩
  obtain ⟨x19, e19, H0⟩ := bS H0
  obtain ⟨x20, e20, H0⟩ := bS H0
  refine dk rfl (dV rfl (fun hh => stpU_callM (fun i => bif Nat.beq i 0 then 0 else 9 + i) cf18 (fun w hw hb => c_s_l12Rd_num fl w m0 a0_0 x15.2 ([0, x14.1, 16, (-1)]) rfl (RO.passM hr0_0_0 hw hb) (by simp) (OwnC.passM (id := 8) (hh _ _ rfl) o18 hw hb ⟨rfl, trivial⟩) (hw.pass (js := [0]) ⟨0, [], rfl, (hh _ _ rfl), trivial⟩ (by decide)) x19 e19) (yB rfl rfl) ⟨(hh _ _ rfl), (fun _ _ hp => by obtain ⟨_, rfl⟩ := hp; exact ⟨_, rfl⟩), trivial⟩) rfl (dD rfl (stp_indexAddr Tryz.underlying24 ts74 (by decide) rfl rfl rfl (Rdb.own (id := 4) rfl o11) e20) (dA 4 rfl Tryz.underlying74 rfl ts3 rfl (dF rfl (fun hh => stpU_storeEl (id := 4) (i := 4) (⟨x20.u, x20.k, x20.r, x19.1⟩ : F) (by decide) ts3 rfl rfl (hh _ _ rfl) o11 e20 rfl rfl rfl rfl) ?_))))
  rintro _ _ ⟨C21, rfl, o21⟩
  refine dk rfl (dn (kw_bl_normal (kw_nx (sr (oB2 5 ts26 rfl (oC2 2 ts26 rfl rfl (nn (cw_ret ?_))))))))
  obtain rfl := sI H0
  exact kr Tryz.results96 (rC2 2 ts26 rfl rfl) [0, 3, 4] ⟨_, _, _, _, _, _, _, _, rfl, rfl, rfl, o7, (by simp), o21⟩
 have H0 := cond_f H0 h16
 refine sr (oQ rfl (oS rfl (nn (cw_cond rfl (fun h22 => ?_) (fun h22 => ?_)))))
 ·have H0 := cond_t H0 h22
  obtain ⟨x23, e23, H0⟩ := bS H0
  refine rdt g_mixed (rn 0 13) ⟨[[],[5],[],[],[5],[],[4],[],[4],[],[4],[],[4]], [[],[],[],[],[],[],[],[],[],[],[],[],[4]], [12]⟩ (dA 1 rfl Tryz.underlying26 rfl ts24 rfl (dL 5 ts24 rfl (dM rfl (dA 1 rfl Tryz.underlying26 rfl ts24 rfl (dL 5 ts24 rfl (dM rfl (dD rfl (stp_indexAddr Tryz.underlying24 ts74 (by decide) rfl rfl rfl (Rdb.own (id := 4) rfl o11) e23) (dA 0 rfl Tryz.underlying74 rfl ts4 rfl (dD rfl (stp_load1 ts4 rfl (Cells.el (Rdb.own (id := 4) rfl o11) (by decide) e23 0 1 rfl)) (dK rfl (dD rfl (stp_indexAddr Tryz.underlying24 ts74 (by decide) rfl rfl rfl (Rdb.own (id := 4) rfl o11) e23) (dA 0 rfl Tryz.underlying74 rfl ts4 rfl (dF rfl (fun hh => stpU_storeEl (id := 4) (i := 0) (⟨(!x23.u), x23.k, x23.r, x23.nx⟩ : F) (by decide) ts4 rfl rfl (hh _ _ rfl) o11 e23 rfl rfl rfl rfl) ?_)))))))))))))
  rintro _ _ ⟨C24, rfl, o24⟩
  refine dk rfl (dn (kw_bl_normal (kw_nx (sr (oB2 5 ts26 rfl (oC2 2 ts26 rfl rfl (nn (cw_ret ?_))))))))
  obtain rfl := sI H0
  exact kr Tryz.results96 (rC2 2 ts26 rfl rfl) [0, 3, 4] ⟨_, _, _, _, _, _, _, _, rfl, rfl, rfl, o7, (by simp), o24⟩
 have H0 := cond_f H0 h22
 refine sr (oQ rfl (oS rfl (nn (cw_cond rfl (fun h25 => ?_) (fun h25 => ?_)))))
 ·have H0 := cond_t H0 h25
  refine rdt g_mixed (rn 0 7) ⟨[[],[5],[],[],[0,10],[3],[3]], [[],[],[],[10],[0],[],[3]], [3,6]⟩ (dA 0 rfl Tryz.underlying26 rfl ts23 rfl (dL 5 ts23 rfl (dM rfl (dE rfl (fun hh => stpU_lit (sz := 1) (l := [0, (-1), 16, (-2)]) [.int .i64 0, .int .i64 (-1), .int .i64 16, .int .i64 (-2)] sl23 10 (sevp_cons rfl (sevp_cons rfl (sevp_cons rfl (sevp_cons rfl sevp_nil)))) rfl rfl rfl rfl rfl rfl rfl rfl rfl) ?_))))
  rintro _ _ ⟨p26, C27, rfl, rfl, o27⟩
  obtain ⟨x28, e28, H0⟩ := bS H0
  obtain ⟨x29, e29, H0⟩ := bS H0
  refine dk rfl (dV rfl (fun hh => stpU_callM (fun i => bif Nat.beq i 0 then 0 else 11 + i) cf18 (fun w hw hb => c_s_l12Rd_num fl w m0 a0_0 x15.2 ([0, (-1), 16, (-2)]) rfl (RO.passM hr0_0_0 hw hb) (by simp) (OwnC.passM (id := 10) (hh _ _ rfl) o27 hw hb ⟨rfl, trivial⟩) (hw.pass (js := [0]) ⟨0, [], rfl, (hh _ _ rfl), trivial⟩ (by decide)) x28 e28) (yB rfl rfl) ⟨(hh _ _ rfl), (fun _ _ hp => by obtain ⟨_, rfl⟩ := hp; exact ⟨_, rfl⟩), trivial⟩) rfl (dD rfl (stp_indexAddr Tryz.underlying23 ts3 (by decide) rfl rfl rfl (Rdb.own (id := 3) rfl o7) e29) (dF rfl (fun hh => stpU_storeEl (id := 3) (i := 0) x28.1 (by decide) ts3 rfl rfl (hh _ _ rfl) o7 e29 rfl rfl rfl rfl) ?_)))
  rintro _ _ ⟨C30, rfl, o30⟩
  refine dk rfl (dn (kw_bl_normal (kw_nx (sr (oB2 5 ts26 rfl (oC2 2 ts26 rfl rfl (nn (cw_ret ?_))))))))
  obtain rfl := sI H0
  exact kr Tryz.results96 (rC2 2 ts26 rfl rfl) [0, 3, 4] ⟨_, _, _, _, _, _, _, _, rfl, rfl, (by simp), o30, rfl, o11⟩
 have H0 := cond_f H0 h25
 refine sr (oQ rfl (oS rfl (nn (cw_cond rfl (fun h31 => ?_) (fun h31 => ?_)))))
 ·have H0 := cond_t H0 h31
  obtain ⟨x32, e32, H0⟩ := bS H0
  obtain ⟨x33, e33, H0⟩ := bS H0
  refine rdt g_mixed (rn 0 8) ⟨[[],[5],[],[],[0],[4],[],[4]], [[],[],[],[],[0],[],[],[4]], [7]⟩ (dA 1 rfl Tryz.underlying26 rfl ts24 rfl (dL 5 ts24 rfl (dM rfl (dM rfl (dV rfl (fun hh => stpU_callM (fun i => bif Nat.beq i 0 then 0 else 12 + i) cf121 (fun w hw hb => c_s_l2Draw fl w m0 a0_0 x15.2 rfl (RO.passM hr0_0_0 hw hb) (hw.pass (js := [0]) ⟨0, [], rfl, (hh _ _ rfl), trivial⟩ (by decide)) x32 e32) (yA rfl) ⟨(hh _ _ rfl), (fun _ _ hp => by obtain ⟨_, rfl⟩ := hp; exact ⟨_, rfl⟩), trivial⟩) rfl (dD rfl (stp_indexAddr Tryz.underlying24 ts74 (by decide) rfl rfl rfl (Rdb.own (id := 4) rfl o11) e33) (dA 1 rfl Tryz.underlying74 rfl ts36 rfl (dF rfl (fun hh => stpU_storeEl (id := 4) (i := 1) (⟨x33.u, x32.1, x33.r, x33.nx⟩ : F) (by decide) ts36 rfl rfl (hh _ _ rfl) o11 e33 rfl rfl rfl rfl) ?_))))))))
  rintro _ _ ⟨C34, rfl, o34⟩
  refine dk rfl (dn (kw_bl_normal (kw_nx (sr (oB2 5 ts26 rfl (oC2 2 ts26 rfl rfl (nn (cw_ret ?_))))))))
  obtain rfl := sI H0
  exact kr Tryz.results96 (rC2 2 ts26 rfl rfl) [0, 3, 4] ⟨_, _, _, _, _, _, _, _, rfl, rfl, rfl, o7, (by simp), o34⟩
 have H0 := cond_f H0 h31
 refine sr (oQ rfl (oS rfl (nn (cw_cond rfl (fun h35 => ?_) (fun h35 => ?_)))))
 ·have H0 := cond_t H0 h35
  refine cw_region (oA 0 Tryz.underlying26 rfl ts23 rfl (oL 5 ts23 rfl (oE (stpU_lit (sz := 1) (l := [(-1)]) [.int .i64 (-1)] sl23 13 (sevp_cons rfl sevp_nil) rfl rfl rfl rfl rfl rfl rfl rfl rfl) rfl ?_)))
  rintro _ _ ⟨p36, C37, rfl, rfl, o37⟩
  obtain ⟨x38, e38, H0⟩ := bS H0
  refine oE (stpU_append sl23 rfl (id := 3) rfl rfl rfl (by simp) rfl o7 (Rdb.own (id := 13) rfl o37) e38) rfl ?_
  rintro _ _ ⟨p39, c40, C41, rfl, rfl, o41⟩
  refine oA 0 Tryz.underlying26 rfl ts23 rfl (oC2 5 ts23 rfl rfl (ow_nil (kw_bl_normal (kw_nx (sr (oB2 5 ts26 rfl (oC2 2 ts26 rfl rfl (nn (cw_ret ?_)))))))))
  obtain rfl := sI H0
  exact kr Tryz.results96 (rC2 2 ts26 rfl rfl) [0, 3, 4] ⟨_, _, _, _, _, _, _, _, rfl, rfl, rfl, o41, rfl, o11⟩
 have H0 := cond_f H0 h35
 refine sr (oQ rfl (oS rfl (nn (cw_cond rfl (fun h42 => ?_) (fun h42 => ?_)))))
 ·have H0 := cond_t H0 h42
  refine cw_region (oE (stpU_lit0 sl24 14) rfl ?_)
  rintro _ _ ⟨p43, C44, rfl, rfl, o44⟩
  refine oA 1 Tryz.underlying26 rfl ts24 rfl (oC2 5 ts24 rfl rfl (ow_nil (kw_bl_normal (kw_nx (sr (oB2 5 ts26 rfl (oC2 2 ts26 rfl rfl (nn (cw_ret ?_)))))))))
  obtain rfl := sI H0
  exact kr Tryz.results96 (rC2 2 ts26 rfl rfl) [0, 3, 14] ⟨_, _, _, _, _, _, _, _, rfl, rfl, rfl, o7, (by simp), o44⟩
 have H0 := cond_f H0 h42
 refine cw_skip (kw_bl_normal (kw_nx (sr (oB2 5 ts26 rfl (oC2 2 ts26 rfl rfl (nn (cw_ret ?_)))))))
 obtain rfl := sI H0
 exact kr Tryz.results96 (rC2 2 ts26 rfl rfl) [0, 3, 4] ⟨_, _, _, _, _, _, _, _, rfl, rfl, rfl, o7, rfl, o11⟩

theorem c_s_l5Wrong (fl : Nat) (w : World) (m0 : Nat) (a0_0 : (List UInt8)) (a0_1 : Int) (a1 : Tg) (hn0_0_0 : n0_0_0 = (a0_0).length) (hr0_0_0 : RO w (hkeys [(0, [(m0, .cells #[.slice p0_0_0 n0_0_0 c0_0_0, .int .i64 a0_1] 92 (0, 0))])]) (RdL p0_0_0 c0_0_0 a0_0)) (hn1_0 : n1_0 = (a1.o).length) (hr1_0 : RO w (hkeys [(0, [(m0, .cells #[.slice p0_0_0 n0_0_0 c0_0_0, .int .i64 a0_1] 92 (0, 0))])]) (RdL p1_0 c1_0 a1.o)) (hM : Sat w (hkeys [(0, [(m0, .cells #[.slice p0_0_0 n0_0_0 c0_0_0, .int .i64 a0_1] 92 (0, 0))])]) w [(0, [(m0, .cells #[.slice p0_0_0 n0_0_0 c0_0_0, .int .i64 a0_1] 92 (0, 0))])]) (r : Tg × Int) (H0 : s_l5Wrong fl a0_0 a0_1 a1 = some r) :
  Ct Tryz.prog 97 [.pointer (some ⟨m0, 0, none⟩), .agg #[.int .i64 a1.c, .int .i64 a1.n, .int .i64 a1.r, .slice p1_0 n1_0 c1_0]] w [(0, [(m0, .cells #[.slice p0_0_0 n0_0_0 c0_0_0, .int .i64 a0_1] 92 (0, 0))])] (fun rv h' => ∃ (x1 : Option Addr) (y1 z1 : Nat) (C1 : Res), rv = .agg #[.int .i64 r.1.c, .int .i64 r.1.n, .int .i64 r.1.r, .slice x1 y1 z1] ∧ h' = [(0, [(m0, .cells #[.slice p0_0_0 n0_0_0 c0_0_0, .int .i64 r.2] 92 (0, 0))]), (1, C1)] ∧ y1 = (r.1.o).length ∧ OwnC 108 x1 z1 r.1.o C1) := by
 subst hn0_0_0 hn1_0
 unfold s_l5Wrong at H0
 refine ct_of_cw Tryz.func97 rfl Tryz.ntmps97 rfl hM ?_
 refine sr (oE (stpU_box 1 rfl rfl) rfl ?_)
 rintro _ _ ⟨b1, rfl, rfl⟩
 refine oE (stpU_alloc 2 tz32 rfl) rfl ?_
 rintro _ _ ⟨b2, rfl, rfl⟩
 obtain ⟨x3, e3, H0⟩ := bS H0
 refine nn (sr (oB4 1 ts32 rfl (oE (stpU_call (fun i => 3 + i) cf110 (fun w hw => c_s_l5Copy fl w a1 rfl (RO.pass hr1_0 hw) x3 e3) (yA rfl)) rfl ?_)))
 rintro _ _ ⟨_, ⟨p4, _, c6, C7, rfl, rfl, rfl, o7⟩, rfl⟩
 refine oE (stpU_alloc 4 tz32 rfl) rfl ?_
 rintro _ _ ⟨b8, rfl, rfl⟩
 obtain ⟨x9, e9, H0⟩ := bS H0
 refine oC4 4 ts32 rfl rfl (nn (cw_seq (sr (oM rfl (oE (stpU_callM (fun i => bif Nat.beq i 0 then 0 else 5 + i) cf49 (fun w hw hb => c_s_l12Rd_pick fl w m0 a0_0 a0_1 20 rfl (RO.passM hr0_0_0 hw hb) (hw.pass (js := [0]) ⟨0, [], rfl, rfl, trivial⟩ (by decide)) x9 e9) (yB rfl rfl) ⟨rfl, (fun _ _ hp => by obtain ⟨_, rfl⟩ := hp; exact ⟨_, rfl⟩), trivial⟩) rfl ?_)))))
 rintro _ _ ⟨_, ⟨rfl, rfl⟩, rfl⟩
 refine nn (cw_block (sr (oQ rfl (oS rfl (nn (cw_cond rfl (fun h10 => ?_) (fun h10 => ?_)))))))
 ·have H0 := cond_t H0 h10
  refine cw_region (oM rfl (oE (stpU_lit (sz := 1) (l := [(-1), 9, 0]) [.int .i64 (-1), .int .i64 9, .int .i64 0] sl23 6 (sevp_cons rfl (sevp_cons rfl (sevp_cons rfl sevp_nil))) rfl rfl rfl rfl rfl rfl rfl rfl rfl) rfl ?_))
  rintro _ _ ⟨p11, C12, rfl, rfl, o12⟩
  obtain ⟨x13, e13, H0⟩ := bS H0
  refine oE (stpU_callM (fun i => bif Nat.beq i 0 then 0 else 7 + i) cf18 (fun w hw hb => c_s_l12Rd_num fl w m0 a0_0 x9.2 ([(-1), 9, 0]) rfl (RO.passM hr0_0_0 hw hb) (by simp) (OwnC.passM (id := 6) rfl o12 hw hb ⟨rfl, trivial⟩) (hw.pass (js := [0]) ⟨0, [], rfl, rfl, trivial⟩ (by decide)) x13 e13) (yB rfl rfl) ⟨rfl, (fun _ _ hp => by obtain ⟨_, rfl⟩ := hp; exact ⟨_, rfl⟩), trivial⟩) rfl ?_
  rintro _ _ ⟨_, ⟨rfl, rfl⟩, rfl⟩
  refine oA 1 Tryz.underlying32 rfl ts3 rfl (oC4 4 ts3 rfl rfl (ow_nil (kw_bl_normal (kw_nx (sr (oB4 4 ts32 rfl (oC4 2 ts32 rfl rfl (nn (cw_ret ?_)))))))))
  obtain rfl := sI H0
  exact kr Tryz.results97 (rC4 2 ts32 rfl rfl) [0, 3] ⟨_, _, _, _, rfl, rfl, rfl, o7⟩
 have H0 := cond_f H0 h10
 refine sr (oQ rfl (oS rfl (nn (cw_cond rfl (fun h14 => ?_) (fun h14 => ?_)))))
 ·have H0 := cond_t H0 h14
  refine cw_region (oM rfl (oE (stpU_lit (sz := 1) (l := [0, 9, 1]) [.int .i64 0, .int .i64 9, .int .i64 1] sl23 8 (sevp_cons rfl (sevp_cons rfl (sevp_cons rfl sevp_nil))) rfl rfl rfl rfl rfl rfl rfl rfl rfl) rfl ?_))
  rintro _ _ ⟨p15, C16, rfl, rfl, o16⟩
  obtain ⟨x17, e17, H0⟩ := bS H0
  refine oE (stpU_callM (fun i => bif Nat.beq i 0 then 0 else 9 + i) cf18 (fun w hw hb => c_s_l12Rd_num fl w m0 a0_0 x9.2 ([0, 9, 1]) rfl (RO.passM hr0_0_0 hw hb) (by simp) (OwnC.passM (id := 8) rfl o16 hw hb ⟨rfl, trivial⟩) (hw.pass (js := [0]) ⟨0, [], rfl, rfl, trivial⟩ (by decide)) x17 e17) (yB rfl rfl) ⟨rfl, (fun _ _ hp => by obtain ⟨_, rfl⟩ := hp; exact ⟨_, rfl⟩), trivial⟩) rfl ?_
  rintro _ _ ⟨_, ⟨rfl, rfl⟩, rfl⟩
  refine oA 0 Tryz.underlying32 rfl ts3 rfl (oC4 4 ts3 rfl rfl (ow_nil (kw_bl_normal (kw_nx (sr (oB4 4 ts32 rfl (oC4 2 ts32 rfl rfl (nn (cw_ret ?_)))))))))
  obtain rfl := sI H0
  exact kr Tryz.results97 (rC4 2 ts32 rfl rfl) [0, 3] ⟨_, _, _, _, rfl, rfl, rfl, o7⟩
 have H0 := cond_f H0 h14
 refine sr (oQ rfl (oS rfl (nn (cw_cond rfl (fun h18 => ?_) (fun h18 => ?_)))))
 ·have H0 := cond_t H0 h18
  obtain ⟨x19, e19, H0⟩ := bS H0
  obtain ⟨x20, e20, H0⟩ := bS H0
  refine rdt g_mixed (rn 0 11) ⟨[[],[4],[],[0],[],[0],[],[],[3,12],[],[4]], [[],[],[],[0],[],[0],[],[12],[3],[],[4]], [7,8]⟩ (dA 3 rfl Tryz.underlying32 rfl ts30 rfl (dL 4 ts30 rfl (dM rfl (dV rfl (fun hh => stpU_callM (fun i => bif Nat.beq i 0 then 0 else 10 + i) cf49 (fun w hw hb => c_s_l12Rd_pick fl w m0 a0_0 x9.2 3 rfl (RO.passM hr0_0_0 hw hb) (hw.pass (js := [0]) ⟨0, [], rfl, (hh _ _ rfl), trivial⟩ (by decide)) x19 e19) (yB rfl rfl) ⟨(hh _ _ rfl), (fun _ _ hp => by obtain ⟨_, rfl⟩ := hp; exact ⟨_, rfl⟩), trivial⟩) rfl (dM rfl (dV rfl (fun hh => stpU_callM (fun i => bif Nat.beq i 0 then 0 else 11 + i) cf49 (fun w hw hb => c_s_l12Rd_pick fl w m0 a0_0 x19.2 3 rfl (RO.passM hr0_0_0 hw hb) (hw.pass (js := [0]) ⟨0, [], rfl, (hh _ _ rfl), trivial⟩ (by decide)) x20 e20) (yB rfl rfl) ⟨(hh _ _ rfl), (fun _ _ hp => by obtain ⟨_, rfl⟩ := hp; exact ⟨_, rfl⟩), trivial⟩) rfl (dD rfl (stp_build (cs := #[.int .i64 x19.1, .int .i64 x20.1]) (sevp_cons rfl (sevp_cons rfl sevp_nil)) bt108_9) (dE rfl (fun hh => stpU_lit (sz := 2) (l := [(⟨x19.1, x20.1⟩ : Ow)]) [.agg #[.int .i64 x19.1, .int .i64 x20.1]] sl30 12 (sevp_cons rfl sevp_nil) rfl rfl rfl rfl rfl rfl rfl rfl rfl) ?_))))))))
  rintro _ _ ⟨p21, C22, rfl, rfl, o22⟩
  obtain ⟨x23, e23, H0⟩ := bS H0
  refine dk rfl (dE rfl (fun hh => stpU_append sl30 rfl (id := 3) rfl rfl rfl (by simp) (hh _ _ rfl) o7 (Rdb.own (id := 12) (hh _ _ rfl) o22) e23) ?_)
  rintro _ _ ⟨p24, c25, C26, rfl, rfl, o26⟩
  refine dk rfl (dA 3 rfl Tryz.underlying32 rfl ts30 rfl (dC4 4 ts30 rfl rfl rfl (dn (kw_bl_normal (kw_nx (sr (oB4 4 ts32 rfl (oC4 2 ts32 rfl rfl (nn (cw_ret ?_))))))))))
  obtain rfl := sI H0
  exact kr Tryz.results97 (rC4 2 ts32 rfl rfl) [0, 3] ⟨_, _, _, _, rfl, rfl, rfl, o26⟩
 have H0 := cond_f H0 h18
 refine sr (oQ rfl (oS rfl (nn (cw_cond rfl (fun h27 => ?_) (fun h27 => ?_)))))
 ·have H0 := cond_t H0 h27
  refine cw_region (oM rfl (oE (stpU_lit (sz := 1) (l := [(-1), 1000001, 1000000]) [.int .i64 (-1), .int .i64 1000001, .int .i64 1000000] sl23 13 (sevp_cons rfl (sevp_cons rfl (sevp_cons rfl sevp_nil))) rfl rfl rfl rfl rfl rfl rfl rfl rfl) rfl ?_))
  rintro _ _ ⟨p28, C29, rfl, rfl, o29⟩
  obtain ⟨x30, e30, H0⟩ := bS H0
  refine oE (stpU_callM (fun i => bif Nat.beq i 0 then 0 else 14 + i) cf18 (fun w hw hb => c_s_l12Rd_num fl w m0 a0_0 x9.2 ([(-1), 1000001, 1000000]) rfl (RO.passM hr0_0_0 hw hb) (by simp) (OwnC.passM (id := 13) rfl o29 hw hb ⟨rfl, trivial⟩) (hw.pass (js := [0]) ⟨0, [], rfl, rfl, trivial⟩ (by decide)) x30 e30) (yB rfl rfl) ⟨rfl, (fun _ _ hp => by obtain ⟨_, rfl⟩ := hp; exact ⟨_, rfl⟩), trivial⟩) rfl ?_
  rintro _ _ ⟨_, ⟨rfl, rfl⟩, rfl⟩
  refine oA 2 Tryz.underlying32 rfl ts3 rfl (oC4 4 ts3 rfl rfl (ow_nil (kw_bl_normal (kw_nx (sr (oB4 4 ts32 rfl (oC4 2 ts32 rfl rfl (nn (cw_ret ?_)))))))))
  obtain rfl := sI H0
  exact kr Tryz.results97 (rC4 2 ts32 rfl rfl) [0, 3] ⟨_, _, _, _, rfl, rfl, rfl, o7⟩
 have H0 := cond_f H0 h27
 refine cw_skip (kw_bl_normal (kw_nx (sr (oB4 4 ts32 rfl (oC4 2 ts32 rfl rfl (nn (cw_ret ?_)))))))
 obtain rfl := sI H0
 exact kr Tryz.results97 (rC4 2 ts32 rfl rfl) [0, 3] ⟨_, _, _, _, rfl, rfl, rfl, o7⟩

theorem c_s_l6Wrong (fl : Nat) (w : World) (m0 : Nat) (a0_0 : (List UInt8)) (a0_1 : Int) (a1 : Mc) (hn0_0_0 : n0_0_0 = (a0_0).length) (hr0_0_0 : RO w (hkeys [(0, [(m0, .cells #[.slice p0_0_0 n0_0_0 c0_0_0, .int .i64 a0_1] 92 (0, 0))])]) (RdL p0_0_0 c0_0_0 a0_0)) (hn1_0 : n1_0 = (a1.t.b).length) (hr1_0 : RO w (hkeys [(0, [(m0, .cells #[.slice p0_0_0 n0_0_0 c0_0_0, .int .i64 a0_1] 92 (0, 0))])]) (RdL p1_0 c1_0 a1.t.b)) (hn1_1 : n1_1 = (a1.t.f).length) (hr1_1 : RO w (hkeys [(0, [(m0, .cells #[.slice p0_0_0 n0_0_0 c0_0_0, .int .i64 a0_1] 92 (0, 0))])]) (RdL p1_1 c1_1 a1.t.f)) (hn1_2 : n1_2 = (a1.c.l).length) (hr1_2 : RO w (hkeys [(0, [(m0, .cells #[.slice p0_0_0 n0_0_0 c0_0_0, .int .i64 a0_1] 92 (0, 0))])]) (RdL p1_2 c1_2 a1.c.l)) (hn1_3 : n1_3 = (a1.g.o).length) (hr1_3 : RO w (hkeys [(0, [(m0, .cells #[.slice p0_0_0 n0_0_0 c0_0_0, .int .i64 a0_1] 92 (0, 0))])]) (RdL p1_3 c1_3 a1.g.o)) (hM : Sat w (hkeys [(0, [(m0, .cells #[.slice p0_0_0 n0_0_0 c0_0_0, .int .i64 a0_1] 92 (0, 0))])]) w [(0, [(m0, .cells #[.slice p0_0_0 n0_0_0 c0_0_0, .int .i64 a0_1] 92 (0, 0))])]) (r : Mc × Int) (H0 : s_l6Wrong fl a0_0 a0_1 a1 = some r) :
  Ct Tryz.prog 51 [.pointer (some ⟨m0, 0, none⟩), .agg #[.slice p1_0 n1_0 c1_0, .slice p1_1 n1_1 c1_1, .slice p1_2 n1_2 c1_2, .int .i64 a1.c.h, .int .i64 a1.g.c, .int .i64 a1.g.n, .int .i64 a1.g.r, .slice p1_3 n1_3 c1_3, .int .i64 a1.s]] w [(0, [(m0, .cells #[.slice p0_0_0 n0_0_0 c0_0_0, .int .i64 a0_1] 92 (0, 0))])] (fun rv h' => ∃ (x1 : Option Addr) (y1 z1 : Nat) (C1 : Res) (x2 : Option Addr) (y2 z2 : Nat) (C2 : Res) (x3 : Option Addr) (y3 z3 : Nat) (C3 : Res) (x4 : Option Addr) (y4 z4 : Nat) (C4 : Res), rv = .agg #[.slice x1 y1 z1, .slice x2 y2 z2, .slice x3 y3 z3, .int .i64 r.1.c.h, .int .i64 r.1.g.c, .int .i64 r.1.g.n, .int .i64 r.1.g.r, .slice x4 y4 z4, .int .i64 r.1.s] ∧ h' = [(0, [(m0, .cells #[.slice p0_0_0 n0_0_0 c0_0_0, .int .i64 r.2] 92 (0, 0))]), (1, C1), (2, C2), (3, C3), (4, C4)] ∧ y1 = (r.1.t.b).length ∧ OwnC 3 x1 z1 r.1.t.b C1 ∧ y2 = (r.1.t.f).length ∧ OwnC 74 x2 z2 r.1.t.f C2 ∧ y3 = (r.1.c.l).length ∧ OwnC 66 x3 z3 r.1.c.l C3 ∧ y4 = (r.1.g.o).length ∧ OwnC 108 x4 z4 r.1.g.o C4) := by
 subst hn0_0_0 hn1_0 hn1_1 hn1_2 hn1_3
 unfold s_l6Wrong at H0
 refine ct_of_cw Tryz.func51 rfl Tryz.ntmps51 rfl hM ?_
 refine sr (oE (stpU_box 1 rfl rfl) rfl ?_)
 rintro _ _ ⟨b1, rfl, rfl⟩
 refine oE (stpU_alloc 2 tz34 rfl) rfl ?_
 rintro _ _ ⟨b2, rfl, rfl⟩
 obtain ⟨x3, e3, H0⟩ := bS H0
 refine nn (sr (oB9 1 ts34 rfl (oE (stpU_call (fun i => 3 + i) cf62 (fun w hw => c_s_l6Copy fl w a1 rfl (RO.pass hr1_0 hw) rfl (RO.pass hr1_1 hw) rfl (RO.pass hr1_2 hw) rfl (RO.pass hr1_3 hw) x3 e3) (yA rfl)) rfl ?_)))
 rintro _ _ ⟨_, ⟨p4, _, c6, C7, p8, _, c10, C11, p12, _, c14, C15, p16, _, c18, C19, rfl, rfl, rfl, o7, rfl, o11, rfl, o15, rfl, o19⟩, rfl⟩
 refine oE (stpU_alloc 7 tz34 rfl) rfl ?_
 rintro _ _ ⟨b20, rfl, rfl⟩
 obtain ⟨x21, e21, H0⟩ := bS H0
 refine oC9 7 ts34 rfl rfl (nn (cw_seq (sr (oM rfl (oE (stpU_callM (fun i => bif Nat.beq i 0 then 0 else 8 + i) cf49 (fun w hw hb => c_s_l12Rd_pick fl w m0 a0_0 a0_1 24 rfl (RO.passM hr0_0_0 hw hb) (hw.pass (js := [0]) ⟨0, [], rfl, rfl, trivial⟩ (by decide)) x21 e21) (yB rfl rfl) ⟨rfl, (fun _ _ hp => by obtain ⟨_, rfl⟩ := hp; exact ⟨_, rfl⟩), trivial⟩) rfl ?_)))))
 rintro _ _ ⟨_, ⟨rfl, rfl⟩, rfl⟩
 refine nn (cw_block (sr (oQ rfl (oS rfl (nn (cw_cond rfl (fun h22 => ?_) (fun h22 => ?_)))))))
 ·have H0 := cond_t H0 h22
  refine cw_region (oM rfl (oE (stpU_lit (sz := 1) (l := [9, (-1), 1]) [.int .i64 9, .int .i64 (-1), .int .i64 1] sl23 9 (sevp_cons rfl (sevp_cons rfl (sevp_cons rfl sevp_nil))) rfl rfl rfl rfl rfl rfl rfl rfl rfl) rfl ?_))
  rintro _ _ ⟨p23, C24, rfl, rfl, o24⟩
  obtain ⟨x25, e25, H0⟩ := bS H0
  refine oE (stpU_callM (fun i => bif Nat.beq i 0 then 0 else 10 + i) cf18 (fun w hw hb => c_s_l12Rd_num fl w m0 a0_0 x21.2 ([9, (-1), 1]) rfl (RO.passM hr0_0_0 hw hb) (by simp) (OwnC.passM (id := 9) rfl o24 hw hb ⟨rfl, trivial⟩) (hw.pass (js := [0]) ⟨0, [], rfl, rfl, trivial⟩ (by decide)) x25 e25) (yB rfl rfl) ⟨rfl, (fun _ _ hp => by obtain ⟨_, rfl⟩ := hp; exact ⟨_, rfl⟩), trivial⟩) rfl ?_
  rintro _ _ ⟨_, ⟨rfl, rfl⟩, rfl⟩
  refine oA 8 Tryz.underlying34 rfl ts3 rfl (oC9 7 ts3 rfl rfl (ow_nil (kw_bl_normal (kw_nx (sr (oB9 7 ts34 rfl (oC9 2 ts34 rfl rfl (nn (cw_ret ?_)))))))))
  obtain rfl := sI H0
  exact kr Tryz.results51 (rC9 2 ts34 rfl rfl) [0, 3, 4, 5, 6] ⟨_, _, _, _, _, _, _, _, _, _, _, _, _, _, _, _, rfl, rfl, rfl, o7, rfl, o11, rfl, o15, rfl, o19⟩
 have H0 := cond_f H0 h22
 refine sr (oQ rfl (oS rfl (nn (cw_cond rfl (fun h26 => ?_) (fun h26 => ?_)))))
 ·have H0 := cond_t H0 h26
  obtain ⟨x27, e27, H0⟩ := bS H0
  refine cw_region (oM rfl (oM rfl (oA 2 Tryz.underlying34 rfl ts29 rfl (oB2 7 ts29 rfl (oE (stpU_callM (fun i => bif Nat.beq i 0 then 0 else 11 + i) cf95 (fun w hw hb => c_s_l4Wrong fl w m0 a0_0 x21.2 x3.c rfl (RO.passM hr0_0_0 hw hb) rfl (OwnC.passM (id := 5) rfl o15 hw hb ⟨rfl, trivial⟩) (hw.pass (js := [0]) ⟨0, [], rfl, rfl, trivial⟩ (by decide)) x27 e27) (yB rfl rfl) ⟨rfl, (fun _ _ hp => by obtain ⟨_, _, _, _, _, rfl, _⟩ := hp; exact ⟨_, rfl⟩), trivial⟩) rfl ?_)))))
  rintro _ _ ⟨_, ⟨p28, _, c30, C31, rfl, rfl, rfl, o31⟩, rfl⟩
  obtain ⟨x32, e32, H0⟩ := bS H0
  refine oE (stpU_callM (fun i => bif Nat.beq i 0 then 0 else 13 + i) cf95 (fun w hw hb => c_s_l4Wrong fl w m0 a0_0 x27.2 x27.1 rfl (RO.passM hr0_0_0 hw hb) rfl (OwnC.passM (id := 12) rfl o31 hw hb ⟨rfl, trivial⟩) (hw.pass (js := [0]) ⟨0, [], rfl, rfl, trivial⟩ (by decide)) x32 e32) (yB rfl rfl) ⟨rfl, (fun _ _ hp => by obtain ⟨_, _, _, _, _, rfl, _⟩ := hp; exact ⟨_, rfl⟩), trivial⟩) rfl ?_
  rintro _ _ ⟨_, ⟨p33, _, c35, C36, rfl, rfl, rfl, o36⟩, rfl⟩
  refine oA 2 Tryz.underlying34 rfl ts29 rfl (oC9 7 ts29 rfl rfl (ow_nil (kw_bl_normal (kw_nx (sr (oB9 7 ts34 rfl (oC9 2 ts34 rfl rfl (nn (cw_ret ?_)))))))))
  obtain rfl := sI H0
  exact kr Tryz.results51 (rC9 2 ts34 rfl rfl) [0, 3, 4, 14, 6] ⟨_, _, _, _, _, _, _, _, _, _, _, _, _, _, _, _, rfl, rfl, rfl, o7, rfl, o11, rfl, o36, rfl, o19⟩
 have H0 := cond_f H0 h26
 refine sr (oQ rfl (oS rfl (nn (cw_cond rfl (fun h37 => ?_) (fun h37 => ?_)))))
 ·have H0 := cond_t H0 h37
  obtain ⟨x38, e38, H0⟩ := bS H0
  refine cw_region (oM rfl (oM rfl (oA 0 Tryz.underlying34 rfl ts26 rfl (oB2 7 ts26 rfl (oE (stpU_callM (fun i => bif Nat.beq i 0 then 0 else 15 + i) cf96 (fun w hw hb => c_s_l3Wrong fl w m0 a0_0 x21.2 x3.t rfl (RO.passM hr0_0_0 hw hb) rfl (OwnC.passM (id := 3) rfl o7 hw hb ⟨rfl, trivial⟩) rfl (OwnC.passM (id := 4) rfl o11 hw hb ⟨rfl, trivial⟩) (hw.pass (js := [0]) ⟨0, [], rfl, rfl, trivial⟩ (by decide)) x38 e38) (yB rfl rfl) ⟨rfl, (fun _ _ hp => by obtain ⟨_, _, _, _, _, _, _, _, _, rfl, _⟩ := hp; exact ⟨_, rfl⟩), trivial⟩) rfl ?_)))))
  rintro _ _ ⟨_, ⟨p39, _, c41, C42, p43, _, c45, C46, rfl, rfl, rfl, o42, rfl, o46⟩, rfl⟩
  obtain ⟨x47, e47, H0⟩ := bS H0
  refine oE (stpU_callM (fun i => bif Nat.beq i 0 then 0 else 18 + i) cf96 (fun w hw hb => c_s_l3Wrong fl w m0 a0_0 x38.2 x38.1 rfl (RO.passM hr0_0_0 hw hb) rfl (OwnC.passM (id := 16) rfl o42 hw hb ⟨rfl, trivial⟩) rfl (OwnC.passM (id := 17) rfl o46 hw hb ⟨rfl, trivial⟩) (hw.pass (js := [0]) ⟨0, [], rfl, rfl, trivial⟩ (by decide)) x47 e47) (yB rfl rfl) ⟨rfl, (fun _ _ hp => by obtain ⟨_, _, _, _, _, _, _, _, _, rfl, _⟩ := hp; exact ⟨_, rfl⟩), trivial⟩) rfl ?_
  rintro _ _ ⟨_, ⟨p48, _, c50, C51, p52, _, c54, C55, rfl, rfl, rfl, o51, rfl, o55⟩, rfl⟩
  refine oA 0 Tryz.underlying34 rfl ts26 rfl (oC9 7 ts26 rfl rfl (ow_nil (kw_bl_normal (kw_nx (sr (oB9 7 ts34 rfl (oC9 2 ts34 rfl rfl (nn (cw_ret ?_)))))))))
  obtain rfl := sI H0
  exact kr Tryz.results51 (rC9 2 ts34 rfl rfl) [0, 19, 20, 5, 6] ⟨_, _, _, _, _, _, _, _, _, _, _, _, _, _, _, _, rfl, rfl, rfl, o51, rfl, o55, rfl, o15, rfl, o19⟩
 have H0 := cond_f H0 h37
 refine sr (oQ rfl (oS rfl (nn (cw_cond rfl (fun h56 => ?_) (fun h56 => ?_)))))
 ·have H0 := cond_t H0 h56
  obtain ⟨x57, e57, H0⟩ := bS H0
  refine cw_region (oM rfl (oM rfl (oA 4 Tryz.underlying34 rfl ts32 rfl (oB4 7 ts32 rfl (oE (stpU_callM (fun i => bif Nat.beq i 0 then 0 else 21 + i) cf97 (fun w hw hb => c_s_l5Wrong fl w m0 a0_0 x21.2 x3.g rfl (RO.passM hr0_0_0 hw hb) rfl (OwnC.passM (id := 6) rfl o19 hw hb ⟨rfl, trivial⟩) (hw.pass (js := [0]) ⟨0, [], rfl, rfl, trivial⟩ (by decide)) x57 e57) (yB rfl rfl) ⟨rfl, (fun _ _ hp => by obtain ⟨_, _, _, _, _, rfl, _⟩ := hp; exact ⟨_, rfl⟩), trivial⟩) rfl ?_)))))
  rintro _ _ ⟨_, ⟨p58, _, c60, C61, rfl, rfl, rfl, o61⟩, rfl⟩
  obtain ⟨x62, e62, H0⟩ := bS H0
  refine oE (stpU_callM (fun i => bif Nat.beq i 0 then 0 else 23 + i) cf97 (fun w hw hb => c_s_l5Wrong fl w m0 a0_0 x57.2 x57.1 rfl (RO.passM hr0_0_0 hw hb) rfl (OwnC.passM (id := 22) rfl o61 hw hb ⟨rfl, trivial⟩) (hw.pass (js := [0]) ⟨0, [], rfl, rfl, trivial⟩ (by decide)) x62 e62) (yB rfl rfl) ⟨rfl, (fun _ _ hp => by obtain ⟨_, _, _, _, _, rfl, _⟩ := hp; exact ⟨_, rfl⟩), trivial⟩) rfl ?_
  rintro _ _ ⟨_, ⟨p63, _, c65, C66, rfl, rfl, rfl, o66⟩, rfl⟩
  refine oA 4 Tryz.underlying34 rfl ts32 rfl (oC9 7 ts32 rfl rfl (ow_nil (kw_bl_normal (kw_nx (sr (oB9 7 ts34 rfl (oC9 2 ts34 rfl rfl (nn (cw_ret ?_)))))))))
  obtain rfl := sI H0
  exact kr Tryz.results51 (rC9 2 ts34 rfl rfl) [0, 3, 4, 5, 24] ⟨_, _, _, _, _, _, _, _, _, _, _, _, _, _, _, _, rfl, rfl, rfl, o7, rfl, o11, rfl, o15, rfl, o66⟩
 have H0 := cond_f H0 h56
 refine cw_skip (kw_bl_normal (kw_nx (sr (oB9 7 ts34 rfl (oC9 2 ts34 rfl rfl (nn (cw_ret ?_)))))))
 obtain rfl := sI H0
 exact kr Tryz.results51 (rC9 2 ts34 rfl rfl) [0, 3, 4, 5, 6] ⟨_, _, _, _, _, _, _, _, _, _, _, _, _, _, _, _, rfl, rfl, rfl, o7, rfl, o11, rfl, o15, rfl, o19⟩

theorem c_s_l6Key (fl : Nat) (w : World) (a0 : (List UInt8)) (hn0_0 : n0_0 = (a0).length) (hr0_0 : RO w (hkeys []) (RdL p0_0 c0_0 a0)) (r : Mc × K) (H0 : s_l6Key fl a0 = some r) :
  Ct Tryz.prog 16 [.slice p0_0 n0_0 c0_0] w [] (fun rv h' => ∃ (x0 : Option Addr) (y0 z0 : Nat) (C0 : Res) (x1 : Option Addr) (y1 z1 : Nat) (C1 : Res) (x2 : Option Addr) (y2 z2 : Nat) (C2 : Res) (x3 : Option Addr) (y3 z3 : Nat) (C3 : Res), rv = .tuple #[.agg #[.slice x0 y0 z0, .slice x1 y1 z1, .slice x2 y2 z2, .int .i64 r.1.c.h, .int .i64 r.1.g.c, .int .i64 r.1.g.n, .int .i64 r.1.g.r, .slice x3 y3 z3, .int .i64 r.1.s], .agg #[.int .i64 r.2.s, .int .i64 r.2.p]] ∧ h' = [(0, C0), (1, C1), (2, C2), (3, C3)] ∧ y0 = (r.1.t.b).length ∧ OwnC 3 x0 z0 r.1.t.b C0 ∧ y1 = (r.1.t.f).length ∧ OwnC 74 x1 z1 r.1.t.f C1 ∧ y2 = (r.1.c.l).length ∧ OwnC 66 x2 z2 r.1.c.l C2 ∧ y3 = (r.1.g.o).length ∧ OwnC 108 x3 z3 r.1.g.o C3) := by
 subst hn0_0
 unfold s_l6Key at H0
 refine ct_of_cw Tryz.func16 rfl Tryz.ntmps16 rfl (Sat.refl _ _) ?_
 refine sr (oE (stpU_alloc 0 tz34 rfl) rfl ?_)
 rintro _ _ ⟨b1, rfl, rfl⟩
 refine oE (stpU_alloc 1 tz36 rfl) rfl ?_
 rintro _ _ ⟨b2, rfl, rfl⟩
 refine nn (sr (oM rfl (oE (stpU_call (fun i => 2 + i) cf17 (fun w hw => c_open17 w a0 p0_0 ((a0).length) c0_0 rfl (RO.cap hr0_0).1) (yA rfl)) rfl ?_)))
 rintro _ _ ⟨_, ⟨b3, rfl, rfl⟩, rfl⟩
 obtain ⟨x4, e4, H0⟩ := bS H0
 refine oS rfl (nn (sr (oM rfl (oE (stpU_callM (fun i => bif Nat.beq i 0 then 2 else 3 + i) cf46 (fun w hw hb => c_s_l6Draw fl w b3 (a0.take 2000) 0 rfl (RO.passM (RO.takeN 2000 hr0_0) hw hb) (hw.pass (js := [2]) ⟨2, [], rfl, rfl, trivial⟩ (by decide)) x4 e4) (yA rfl) ⟨rfl, (fun _ _ hp => by obtain ⟨_, _, _, _, _, _, _, _, _, _, _, _, _, _, _, _, _, rfl, _⟩ := hp; exact ⟨_, rfl⟩), trivial⟩) rfl ?_))))
 rintro _ _ ⟨_, ⟨p5, _, c7, C8, p9, _, c11, C12, p13, _, c15, C16, p17, _, c19, C20, rfl, rfl, rfl, o8, rfl, o12, rfl, o16, rfl, o20⟩, rfl⟩
 refine oE (stpU_alloc 8 tz34 rfl) rfl ?_
 rintro _ _ ⟨b21, rfl, rfl⟩
 obtain ⟨x22, e22, H0⟩ := bS H0
 refine oC9 8 ts34 rfl rfl (nn (sr (oA 0 Tryz.underlying34 rfl ts26 rfl (oB2 8 ts26 rfl (oE (stpU_call (fun i => 9 + i) cf47 (fun w hw => c_s_KeysOf fl w x4.1.t rfl (OwnC.pass (id := 4) rfl o8 hw) rfl (OwnC.pass (id := 5) rfl o12 hw) x22 e22) (yA rfl)) rfl ?_)))))
 rintro _ _ ⟨_, ⟨p23, _, c25, C26, rfl, rfl, rfl, o26⟩, rfl⟩
 obtain ⟨x27, e27, H0⟩ := bS H0
 refine oS rfl (nn (sr (oM rfl (oE (stpU_callM (fun i => bif Nat.beq i 0 then 2 else 10 + i) cf49 (fun w hw hb => c_s_l12Rd_pick fl w b3 (a0.take 2000) x4.2 3 rfl (RO.passM (RO.takeN 2000 hr0_0) hw hb) (hw.pass (js := [2]) ⟨2, [], rfl, rfl, trivial⟩ (by decide)) x27 e27) (yB rfl rfl) ⟨rfl, (fun _ _ hp => by obtain ⟨_, rfl⟩ := hp; exact ⟨_, rfl⟩), trivial⟩) rfl ?_))))
 rintro _ _ ⟨_, ⟨rfl, rfl⟩, rfl⟩
 obtain ⟨x28, e28, H0⟩ := bS H0
 refine oM rfl (oE (stpU_callM (fun i => bif Nat.beq i 0 then 2 else 11 + i) cf50 (fun w hw hb => c_s_l6Page fl w b3 (a0.take 2000) x27.2 rfl (RO.passM (RO.takeN 2000 hr0_0) hw hb) (hw.pass (js := [2]) ⟨2, [], rfl, rfl, trivial⟩ (by decide)) x28 e28) (yA rfl) ⟨rfl, (fun _ _ hp => by obtain ⟨_, rfl⟩ := hp; exact ⟨_, rfl⟩), trivial⟩) rfl ?_)
 rintro _ _ ⟨_, ⟨rfl, rfl⟩, rfl⟩
 obtain ⟨x29, e29, H0⟩ := bS H0
 refine oE (stpU_call (fun i => 12 + i) cf48 (fun w hw => c_s_KeyFor fl w x27.1 x28.1 x29 e29) (yB rfl rfl)) rfl ?_
 rintro _ _ ⟨_, ⟨rfl, rfl⟩, rfl⟩
 refine oE (stpU_alloc 12 tz36 rfl) rfl ?_
 rintro _ _ ⟨b30, rfl, rfl⟩
 obtain ⟨y31, ey31, H0⟩ := bS H0
 refine oC2 12 ts36 rfl rfl (nn (cw_seq (sr (oM rfl (oD (stp_len Tryz.underlying87 rfl) rfl (oJ rfl (oM rfl (ow_cut (ι := Unit) 4 (fun _ => True) (fun _ => [(0, .slice p0_0 ((a0).length) c0_0), (2, .pointer (some ⟨b1, 0, none⟩)), (3, .pointer (some ⟨b2, 0, none⟩)), (4, .pointer (some ⟨b3, 0, none⟩)), (5, .pointer (some ⟨b21, 0, none⟩)), (6, .slice p23 ((x22).length) c25), (7, .pointer (some ⟨b30, 0, none⟩)), (8, .slice p0_0 ((a0).length) c0_0), (9, .pointer (some ⟨b3, 0, none⟩)), (10, .pointer (some ⟨b3, 0, none⟩)), (11, .agg #[.slice p5 ((x4.1.t.b).length) c7, .slice p9 ((x4.1.t.f).length) c11, .slice p13 ((x4.1.c.l).length) c15, .int .i64 x4.1.c.h, .int .i64 x4.1.g.c, .int .i64 x4.1.g.n, .int .i64 x4.1.g.r, .slice p17 ((x4.1.g.o).length) c19, .int .i64 x4.1.s]), (12, .pointer (some ⟨b21, 0, none⟩)), (13, .agg #[.slice p5 ((x4.1.t.b).length) c7, .slice p9 ((x4.1.t.f).length) c11]), (14, .slice p23 ((x22).length) c25), (15, .pointer (some ⟨b3, 0, none⟩)), (16, .int .i64 x27.1), (17, .pointer (some ⟨b3, 0, none⟩)), (18, .int .i64 x28.1), (19, .agg #[.int .i64 x29.s, .int .i64 x29.p]), (20, .slice p23 ((x22).length) c25), (21, .int .i64 ((x22).length : Int)), (22, .bool (decide (0 < ((x22).length : Int)))), (23, .bool (decide (0 < ((x22).length : Int)))), (27, .bool y31.1)]) (fun _ => [(0, [(b1, .cells #[.slice none 0 0, .slice none 0 0, .slice none 0 0, .int .i64 0, .int .i64 0, .int .i64 0, .int .i64 0, .slice none 0 0, .int .i64 0] 34 (0, 0))]), (1, [(b2, .cells #[.int .i64 0, .int .i64 0] 36 (0, 0))]), (2, [(b3, .cells #[.slice p0_0 (((a0.take 2000)).length) c0_0, .int .i64 y31.2] 92 (0, 0))]), (4, C8), (5, C12), (6, C16), (7, C20), (8, [(b21, .cells #[.slice p5 ((x4.1.t.b).length) c7, .slice p9 ((x4.1.t.f).length) c11, .slice p13 ((x4.1.c.l).length) c15, .int .i64 x4.1.c.h, .int .i64 x4.1.g.c, .int .i64 x4.1.g.n, .int .i64 x4.1.g.r, .slice p17 ((x4.1.g.o).length) c19, .int .i64 x4.1.s] 34 (0, 0))]), (9, C26), (12, [(b30, .cells #[.int .i64 x29.s, .int .i64 x29.p] 36 (0, 0))])]) ?_ (fun _ _ => ?_)))))))))
 ·rcases Bool.eq_false_or_eq_true (decide (0 < ((x22).length : Int))) with hy31 | hy31
  ·have ey31 := cond_t ey31 hy31
   obtain ⟨x32, e32, ey31⟩ := bS ey31
   refine oG rfl hy31 (mv rfl) rfl (ow_eff (.some rfl hy31) (stpU_callM (fun i => bif Nat.beq i 0 then 2 else 13 + i) cf49 (fun w hw hb => c_s_l12Rd_pick fl w b3 (a0.take 2000) x28.2 3 rfl (RO.passM (RO.takeN 2000 hr0_0) hw hb) (hw.pass (js := [2]) ⟨2, [], rfl, rfl, trivial⟩ (by decide)) x32 e32) (yB rfl rfl) ⟨rfl, (fun _ _ hp => by obtain ⟨_, rfl⟩ := hp; exact ⟨_, rfl⟩), trivial⟩) rfl ?_)
   rintro _ _ ⟨_, ⟨rfl, rfl⟩, rfl⟩
   refine oG rfl hy31 (stp_gtr rfl rfl) rfl (oD (stp_pick_t rfl hy31 rfl) rfl ?_)
   obtain rfl := sI ey31
   exact ow_nil (kw_join () trivial ⟨rfl, rfl, rfl, rfl, rfl, rfl, rfl, rfl, rfl, rfl, rfl, rfl, rfl, rfl, rfl, rfl, rfl, rfl, rfl, rfl, rfl, rfl, rfl, rfl, trivial⟩ ⟨rfl, rfl, rfl, rfl, rfl, rfl, rfl, rfl, rfl, rfl, trivial⟩)
  have ey31 := cond_f ey31 hy31
  refine oO rfl hy31 rfl (oO rfl hy31 rfl (oO rfl hy31 rfl (oD (stp_pick_f rfl hy31 rfl) rfl ?_)))
  obtain rfl := sI ey31
  exact ow_nil (kw_join () trivial ⟨rfl, rfl, rfl, rfl, rfl, rfl, rfl, rfl, rfl, rfl, rfl, rfl, rfl, rfl, rfl, rfl, rfl, rfl, rfl, rfl, rfl, rfl, rfl, rfl, trivial⟩ ⟨rfl, rfl, rfl, rfl, rfl, rfl, rfl, rfl, rfl, rfl, trivial⟩)
 refine ow_nil (kw_nx (cw_cond rfl (fun h33 => ?_) (fun h33 => ?_)))
 ·have H0 := cond_t H0 h33
  obtain ⟨x34, e34, H0⟩ := bS H0
  refine cw_region (oM rfl (oM rfl (oM rfl (oD (stp_len Tryz.underlying87 rfl) rfl (oE (stpU_callM (fun i => bif Nat.beq i 0 then 2 else 14 + i) cf49 (fun w hw hb => c_s_l12Rd_pick fl w b3 (a0.take 2000) y31.2 ((x22).length : Int) rfl (RO.passM (RO.takeN 2000 hr0_0) hw hb) (hw.pass (js := [2]) ⟨2, [], rfl, rfl, trivial⟩ (by decide)) x34 e34) (yB rfl rfl) ⟨rfl, (fun _ _ hp => by obtain ⟨_, rfl⟩ := hp; exact ⟨_, rfl⟩), trivial⟩) rfl ?_)))))
  rintro _ _ ⟨_, ⟨rfl, rfl⟩, rfl⟩
  obtain ⟨x35, e35, H0⟩ := bS H0
  obtain ⟨x36, e36, H0⟩ := bS H0
  refine oD (stp_indexAddr Tryz.underlying87 ts36 (by decide) rfl rfl rfl (Rdb.own (id := 9) rfl o26) e35) rfl (oD (stp_loadN (us := [_, _]) ts36 rfl (Cells.el (Rdb.own (id := 9) rfl o26) (by decide) e35 0 2 rfl)) rfl (oC2 12 ts36 rfl rfl (nn (cw_seq (sr (oM rfl (oE (stpU_callM (fun i => bif Nat.beq i 0 then 2 else 15 + i) cf49 (fun w hw hb => c_s_l12Rd_pick fl w b3 (a0.take 2000) x34.2 20 rfl (RO.passM (RO.takeN 2000 hr0_0) hw hb) (hw.pass (js := [2]) ⟨2, [], rfl, rfl, trivial⟩ (by decide)) x36 e36) (yB rfl rfl) ⟨rfl, (fun _ _ hp => by obtain ⟨_, rfl⟩ := hp; exact ⟨_, rfl⟩), trivial⟩) rfl ?_)))))))
  rintro _ _ ⟨_, ⟨rfl, rfl⟩, rfl⟩
  refine oQ rfl (nn (cw_cond rfl (fun h37 => ?_) (fun h37 => ?_)))
  ·have H0 := cond_t H0 h37
   refine cw_region (oM rfl (oE (stpU_lit (sz := 1) (l := [1, 16]) [.int .i64 1, .int .i64 16] sl23 16 (sevp_cons rfl (sevp_cons rfl sevp_nil)) rfl rfl rfl rfl rfl rfl rfl rfl rfl) rfl ?_))
   rintro _ _ ⟨p38, C39, rfl, rfl, o39⟩
   obtain ⟨x40, e40, H0⟩ := bS H0
   refine oE (stpU_callM (fun i => bif Nat.beq i 0 then 2 else 17 + i) cf18 (fun w hw hb => c_s_l12Rd_num fl w b3 (a0.take 2000) x36.2 ([1, 16]) rfl (RO.passM (RO.takeN 2000 hr0_0) hw hb) (by simp) (OwnC.passM (id := 16) rfl o39 hw hb ⟨rfl, trivial⟩) (hw.pass (js := [2]) ⟨2, [], rfl, rfl, trivial⟩ (by decide)) x40 e40) (yB rfl rfl) ⟨rfl, (fun _ _ hp => by obtain ⟨_, rfl⟩ := hp; exact ⟨_, rfl⟩), trivial⟩) rfl ?_
   rintro _ _ ⟨_, ⟨rfl, rfl⟩, rfl⟩
   obtain ⟨x41, e41, H0⟩ := bS H0
   refine oD (stp_build (cs := #[.int .i64 x40.1, .int .i64 200]) (sevp_cons rfl (sevp_cons rfl sevp_nil)) bt36_13) rfl (oC2 12 ts36 rfl rfl (nn (cw_seq (rdt g_mixed [.n 0, .n 1, .n 3, .n 2, .n 4, .n 5] ⟨[[],[8],[2,4,5,6,7],[12],[0],[1]], [[],[],[2,19,20,21,22],[],[0],[1]], [2]⟩ (dM rfl (dB9 8 ts34 rfl (dB2 12 ts36 rfl (dE rfl (fun hh => stpU_callM (fun i => bif Nat.beq i 0 then 2 else 18 + i) cf51 (fun w hw hb => c_s_l6Wrong fl w b3 (a0.take 2000) x40.2 x4.1 rfl (RO.passM (RO.takeN 2000 hr0_0) hw hb) rfl (OwnC.passM (id := 4) (hh _ _ rfl) o8 hw hb ⟨rfl, trivial⟩) rfl (OwnC.passM (id := 5) (hh _ _ rfl) o12 hw hb ⟨rfl, trivial⟩) rfl (OwnC.passM (id := 6) (hh _ _ rfl) o16 hw hb ⟨rfl, trivial⟩) rfl (OwnC.passM (id := 7) (hh _ _ rfl) o20 hw hb ⟨rfl, trivial⟩) (hw.pass (js := [2]) ⟨2, [], rfl, (hh _ _ rfl), trivial⟩ (by decide)) x41 e41) (yB rfl rfl) ⟨(hh _ _ rfl), (fun _ _ hp => by obtain ⟨_, _, _, _, _, _, _, _, _, _, _, _, _, _, _, _, _, rfl, _⟩ := hp; exact ⟨_, rfl⟩), trivial⟩) ?_))))))))
   rintro _ _ ⟨_, ⟨p42, _, c44, C45, p46, _, c48, C49, p50, _, c52, C53, p54, _, c56, C57, rfl, rfl, rfl, o45, rfl, o49, rfl, o53, rfl, o57⟩, rfl⟩
   refine dk rfl (dC9 0 ts34 rfl rfl rfl (dC2 1 ts36 rfl rfl rfl (dn (kw_nx (cw_ret ?_)))))
   obtain rfl := sI H0
   exact kr Tryz.results16 (.cons (.cellN (us := [_, _, _, _, _, _, _, _, _]) ts34 rfl (Cells.box (id := 0) rfl 9 rfl)) (rC2 1 ts36 rfl rfl)) [19, 20, 21, 22] ⟨_, _, _, _, _, _, _, _, _, _, _, _, _, _, _, _, rfl, rfl, rfl, o45, rfl, o49, rfl, o53, rfl, o57⟩
  have H0 := cond_f H0 h37
  obtain ⟨x58, e58, H0⟩ := bS H0
  refine cw_skip (kw_nx (cw_seq (rdt g_mixed [.n 0, .n 1, .n 3, .n 2, .n 4, .n 5] ⟨[[],[8],[2,4,5,6,7],[12],[0],[1]], [[],[],[2,24,25,26,27],[],[0],[1]], [2]⟩ (dM rfl (dB9 8 ts34 rfl (dB2 12 ts36 rfl (dE rfl (fun hh => stpU_callM (fun i => bif Nat.beq i 0 then 2 else 23 + i) cf51 (fun w hw hb => c_s_l6Wrong fl w b3 (a0.take 2000) x36.2 x4.1 rfl (RO.passM (RO.takeN 2000 hr0_0) hw hb) rfl (OwnC.passM (id := 4) (hh _ _ rfl) o8 hw hb ⟨rfl, trivial⟩) rfl (OwnC.passM (id := 5) (hh _ _ rfl) o12 hw hb ⟨rfl, trivial⟩) rfl (OwnC.passM (id := 6) (hh _ _ rfl) o16 hw hb ⟨rfl, trivial⟩) rfl (OwnC.passM (id := 7) (hh _ _ rfl) o20 hw hb ⟨rfl, trivial⟩) (hw.pass (js := [2]) ⟨2, [], rfl, (hh _ _ rfl), trivial⟩ (by decide)) x58 e58) (yB rfl rfl) ⟨(hh _ _ rfl), (fun _ _ hp => by obtain ⟨_, _, _, _, _, _, _, _, _, _, _, _, _, _, _, _, _, rfl, _⟩ := hp; exact ⟨_, rfl⟩), trivial⟩) ?_)))))))
  rintro _ _ ⟨_, ⟨p59, _, c61, C62, p63, _, c65, C66, p67, _, c69, C70, p71, _, c73, C74, rfl, rfl, rfl, o62, rfl, o66, rfl, o70, rfl, o74⟩, rfl⟩
  refine dk rfl (dC9 0 ts34 rfl rfl rfl (dC2 1 ts36 rfl rfl rfl (dn (kw_nx (cw_ret ?_)))))
  obtain rfl := sI H0
  exact kr Tryz.results16 (.cons (.cellN (us := [_, _, _, _, _, _, _, _, _]) ts34 rfl (Cells.box (id := 0) rfl 9 rfl)) (rC2 1 ts36 rfl rfl)) [24, 25, 26, 27] ⟨_, _, _, _, _, _, _, _, _, _, _, _, _, _, _, _, rfl, rfl, rfl, o62, rfl, o66, rfl, o70, rfl, o74⟩
 have H0 := cond_f H0 h33
 obtain ⟨x75, e75, H0⟩ := bS H0
 refine cw_skip (kw_nx (cw_seq (sr (oM rfl (oE (stpU_callM (fun i => bif Nat.beq i 0 then 2 else 28 + i) cf49 (fun w hw hb => c_s_l12Rd_pick fl w b3 (a0.take 2000) y31.2 20 rfl (RO.passM (RO.takeN 2000 hr0_0) hw hb) (hw.pass (js := [2]) ⟨2, [], rfl, rfl, trivial⟩ (by decide)) x75 e75) (yB rfl rfl) ⟨rfl, (fun _ _ hp => by obtain ⟨_, rfl⟩ := hp; exact ⟨_, rfl⟩), trivial⟩) rfl ?_)))))
 rintro _ _ ⟨_, ⟨rfl, rfl⟩, rfl⟩
 refine oQ rfl (nn (cw_cond rfl (fun h76 => ?_) (fun h76 => ?_)))
 ·have H0 := cond_t H0 h76
  refine cw_region (oM rfl (oE (stpU_lit (sz := 1) (l := [1, 16]) [.int .i64 1, .int .i64 16] sl23 29 (sevp_cons rfl (sevp_cons rfl sevp_nil)) rfl rfl rfl rfl rfl rfl rfl rfl rfl) rfl ?_))
  rintro _ _ ⟨p77, C78, rfl, rfl, o78⟩
  obtain ⟨x79, e79, H0⟩ := bS H0
  refine oE (stpU_callM (fun i => bif Nat.beq i 0 then 2 else 30 + i) cf18 (fun w hw hb => c_s_l12Rd_num fl w b3 (a0.take 2000) x75.2 ([1, 16]) rfl (RO.passM (RO.takeN 2000 hr0_0) hw hb) (by simp) (OwnC.passM (id := 29) rfl o78 hw hb ⟨rfl, trivial⟩) (hw.pass (js := [2]) ⟨2, [], rfl, rfl, trivial⟩ (by decide)) x79 e79) (yB rfl rfl) ⟨rfl, (fun _ _ hp => by obtain ⟨_, rfl⟩ := hp; exact ⟨_, rfl⟩), trivial⟩) rfl ?_
  rintro _ _ ⟨_, ⟨rfl, rfl⟩, rfl⟩
  obtain ⟨x80, e80, H0⟩ := bS H0
  refine oD (stp_build (cs := #[.int .i64 x79.1, .int .i64 200]) (sevp_cons rfl (sevp_cons rfl sevp_nil)) bt36_13) rfl (oC2 12 ts36 rfl rfl (nn (cw_seq (rdt g_mixed [.n 0, .n 1, .n 3, .n 2, .n 4, .n 5] ⟨[[],[8],[2,4,5,6,7],[12],[0],[1]], [[],[],[2,32,33,34,35],[],[0],[1]], [2]⟩ (dM rfl (dB9 8 ts34 rfl (dB2 12 ts36 rfl (dE rfl (fun hh => stpU_callM (fun i => bif Nat.beq i 0 then 2 else 31 + i) cf51 (fun w hw hb => c_s_l6Wrong fl w b3 (a0.take 2000) x79.2 x4.1 rfl (RO.passM (RO.takeN 2000 hr0_0) hw hb) rfl (OwnC.passM (id := 4) (hh _ _ rfl) o8 hw hb ⟨rfl, trivial⟩) rfl (OwnC.passM (id := 5) (hh _ _ rfl) o12 hw hb ⟨rfl, trivial⟩) rfl (OwnC.passM (id := 6) (hh _ _ rfl) o16 hw hb ⟨rfl, trivial⟩) rfl (OwnC.passM (id := 7) (hh _ _ rfl) o20 hw hb ⟨rfl, trivial⟩) (hw.pass (js := [2]) ⟨2, [], rfl, (hh _ _ rfl), trivial⟩ (by decide)) x80 e80) (yB rfl rfl) ⟨(hh _ _ rfl), (fun _ _ hp => by obtain ⟨_, _, _, _, _, _, _, _, _, _, _, _, _, _, _, _, _, rfl, _⟩ := hp; exact ⟨_, rfl⟩), trivial⟩) ?_))))))))
  rintro _ _ ⟨_, ⟨p81, _, c83, C84, p85, _, c87, C88, p89, _, c91, C92, p93, _, c95, C96, rfl, rfl, rfl, o84, rfl, o88, rfl, o92, rfl, o96⟩, rfl⟩
  refine dk rfl (dC9 0 ts34 rfl rfl rfl (dC2 1 ts36 rfl rfl rfl (dn (kw_nx (cw_ret ?_)))))
  obtain rfl := sI H0
  exact kr Tryz.results16 (.cons (.cellN (us := [_, _, _, _, _, _, _, _, _]) ts34 rfl (Cells.box (id := 0) rfl 9 rfl)) (rC2 1 ts36 rfl rfl)) [32, 33, 34, 35] ⟨_, _, _, _, _, _, _, _, _, _, _, _, _, _, _, _, rfl, rfl, rfl, o84, rfl, o88, rfl, o92, rfl, o96⟩
 have H0 := cond_f H0 h76
 obtain ⟨x97, e97, H0⟩ := bS H0
 refine cw_skip (kw_nx (cw_seq (rdt g_mixed [.n 0, .n 1, .n 3, .n 2, .n 4, .n 5] ⟨[[],[8],[2,4,5,6,7],[12],[0],[1]], [[],[],[2,37,38,39,40],[],[0],[1]], [2]⟩ (dM rfl (dB9 8 ts34 rfl (dB2 12 ts36 rfl (dE rfl (fun hh => stpU_callM (fun i => bif Nat.beq i 0 then 2 else 36 + i) cf51 (fun w hw hb => c_s_l6Wrong fl w b3 (a0.take 2000) x75.2 x4.1 rfl (RO.passM (RO.takeN 2000 hr0_0) hw hb) rfl (OwnC.passM (id := 4) (hh _ _ rfl) o8 hw hb ⟨rfl, trivial⟩) rfl (OwnC.passM (id := 5) (hh _ _ rfl) o12 hw hb ⟨rfl, trivial⟩) rfl (OwnC.passM (id := 6) (hh _ _ rfl) o16 hw hb ⟨rfl, trivial⟩) rfl (OwnC.passM (id := 7) (hh _ _ rfl) o20 hw hb ⟨rfl, trivial⟩) (hw.pass (js := [2]) ⟨2, [], rfl, (hh _ _ rfl), trivial⟩ (by decide)) x97 e97) (yB rfl rfl) ⟨(hh _ _ rfl), (fun _ _ hp => by obtain ⟨_, _, _, _, _, _, _, _, _, _, _, _, _, _, _, _, _, rfl, _⟩ := hp; exact ⟨_, rfl⟩), trivial⟩) ?_)))))))
 rintro _ _ ⟨_, ⟨p98, _, c100, C101, p102, _, c104, C105, p106, _, c108, C109, p110, _, c112, C113, rfl, rfl, rfl, o101, rfl, o105, rfl, o109, rfl, o113⟩, rfl⟩
 refine dk rfl (dC9 0 ts34 rfl rfl rfl (dC2 1 ts36 rfl rfl rfl (dn (kw_nx (cw_ret ?_)))))
 obtain rfl := sI H0
 exact kr Tryz.results16 (.cons (.cellN (us := [_, _, _, _, _, _, _, _, _]) ts34 rfl (Cells.box (id := 0) rfl 9 rfl)) (rC2 1 ts36 rfl rfl)) [37, 38, 39, 40] ⟨_, _, _, _, _, _, _, _, _, _, _, _, _, _, _, _, rfl, rfl, rfl, o101, rfl, o105, rfl, o109, rfl, o113⟩

theorem c_s_DrawGuardPage (fl : Nat) (w : World) (a0 : (List UInt8)) (hn0_0 : n0_0 = (a0).length) (hr0_0 : RO w (hkeys []) (RdL p0_0 c0_0 a0)) (r : Mc × K × Int) (H0 : s_DrawGuardPage fl a0 = some r) :
  Ct Tryz.prog 5 [.slice p0_0 n0_0 c0_0] w [] (fun rv h' => ∃ (x0 : Option Addr) (y0 z0 : Nat) (C0 : Res) (x1 : Option Addr) (y1 z1 : Nat) (C1 : Res) (x2 : Option Addr) (y2 z2 : Nat) (C2 : Res) (x3 : Option Addr) (y3 z3 : Nat) (C3 : Res), rv = .tuple #[.agg #[.slice x0 y0 z0, .slice x1 y1 z1, .slice x2 y2 z2, .int .i64 r.1.c.h, .int .i64 r.1.g.c, .int .i64 r.1.g.n, .int .i64 r.1.g.r, .slice x3 y3 z3, .int .i64 r.1.s], .agg #[.int .i64 r.2.1.s, .int .i64 r.2.1.p], .int .i64 r.2.2] ∧ h' = [(0, C0), (1, C1), (2, C2), (3, C3)] ∧ y0 = (r.1.t.b).length ∧ OwnC 3 x0 z0 r.1.t.b C0 ∧ y1 = (r.1.t.f).length ∧ OwnC 74 x1 z1 r.1.t.f C1 ∧ y2 = (r.1.c.l).length ∧ OwnC 66 x2 z2 r.1.c.l C2 ∧ y3 = (r.1.g.o).length ∧ OwnC 108 x3 z3 r.1.g.o C3) := by
 subst hn0_0
 unfold s_DrawGuardPage at H0
 refine ct_of_cw Tryz.func5 rfl Tryz.ntmps5 rfl (Sat.refl _ _) ?_
 refine sr (oE (stpU_alloc 0 tz34 rfl) rfl ?_)
 rintro _ _ ⟨b1, rfl, rfl⟩
 refine oE (stpU_alloc 1 tz36 rfl) rfl ?_
 rintro _ _ ⟨b2, rfl, rfl⟩
 obtain ⟨x3, e3, H0⟩ := bS H0
 refine oS rfl (nn (sr (oM rfl (oE (stpU_call (fun i => 2 + i) cf16 (fun w hw => c_s_l6Key fl w a0 rfl (RO.pass hr0_0 hw) x3 e3) (yA rfl)) rfl ?_))))
 rintro _ _ ⟨_, ⟨p4, _, c6, C7, p8, _, c10, C11, p12, _, c14, C15, p16, _, c18, C19, rfl, rfl, rfl, o7, rfl, o11, rfl, o15, rfl, o19⟩, rfl⟩
 refine oM rfl (oT rfl (oT rfl (oE (stpU_alloc 6 tz34 rfl) rfl ?_)))
 rintro _ _ ⟨b20, rfl, rfl⟩
 refine oE (stpU_alloc 7 tz36 rfl) rfl ?_
 rintro _ _ ⟨b21, rfl, rfl⟩
 refine oC9 6 ts34 rfl rfl (oC2 7 ts36 rfl rfl (nn (cw_seq (rdt g_mixed [.n 0, .n 1, .n 2, .d 3, .n 4, .o 3, .n 5, .n 6, .n 7, .n 8] ⟨[[6],[7],[],[],[],[8,9],[0],[1]], [[],[],[],[8],[9],[8],[0],[1]], [3,4]⟩ (dB9 6 ts34 rfl (dB2 7 ts36 rfl (dM rfl (dq rfl (fun hh => stpU_call (fun i => 8 + i) cf17 (fun w hw => c_open17 w a0 p0_0 ((a0).length) c0_0 rfl (RO.cap hr0_0).1) (yA rfl)) (by rintro _ _ ⟨_, ⟨_, rfl, rfl⟩, rfl⟩; rfl) (dE rfl (fun hh => stpU_lit (sz := 1) (l := [1, 0, 7, 3, 8]) [.int .i64 1, .int .i64 0, .int .i64 7, .int .i64 3, .int .i64 8] sl23 9 (sevp_cons rfl (sevp_cons rfl (sevp_cons rfl (sevp_cons rfl (sevp_cons rfl sevp_nil))))) rfl rfl rfl rfl rfl rfl rfl rfl rfl) ?_)))))))))
 rintro _ _ ⟨p23, C24, rfl, rfl, o24⟩
 refine dk rfl (dp rfl ?_)
 rintro _ _ ⟨_, ⟨b22, rfl, rfl⟩, rfl⟩
 obtain ⟨x25, e25, H0⟩ := bS H0
 refine dV rfl (fun hh => stpU_callM (fun i => bif Nat.beq i 0 then 8 else 10 + i) cf18 (fun w hw hb => c_s_l12Rd_num fl w b22 (a0.take 2000) 0 ([1, 0, 7, 3, 8]) rfl (RO.passM (RO.takeN 2000 hr0_0) hw hb) (by simp) (OwnC.passM (id := 9) (hh _ _ rfl) o24 hw hb ⟨rfl, trivial⟩) (hw.pass (js := [8]) ⟨8, [], rfl, (hh _ _ rfl), trivial⟩ (by decide)) x25 e25) (yB rfl rfl) ⟨(hh _ _ rfl), (fun _ _ hp => by obtain ⟨_, rfl⟩ := hp; exact ⟨_, rfl⟩), trivial⟩) rfl (dC9 0 ts34 rfl rfl rfl (dC2 1 ts36 rfl rfl rfl (dS rfl (dn (kw_nx (cw_ret ?_))))))
 obtain rfl := sI H0
 exact kr Tryz.results5 (.cons (.cellN (us := [_, _, _, _, _, _, _, _, _]) ts34 rfl (Cells.box (id := 0) rfl 9 rfl)) (.cons (.cellN (us := [_, _]) ts36 rfl (Cells.box (id := 1) rfl 2 rfl)) (rT rfl))) [2, 3, 4, 5] ⟨_, _, _, _, _, _, _, _, _, _, _, _, _, _, _, _, rfl, rfl, rfl, o7, rfl, o11, rfl, o15, rfl, o19⟩

theorem c_i_TableValid (fl : Nat) (w : World) (a0 : T) (hn0_0 : n0_0 = (a0.b).length) (hr0_0 : RO w (hkeys []) (RdL p0_0 c0_0 a0.b)) (hn0_1 : n0_1 = (a0.f).length) (hr0_1 : RO w (hkeys []) (RdL p0_1 c0_1 a0.f)) (hg : RO w (hkeys []) (fun w' => w'.rangeAt 0 0 [.bool false, .int .i64 0, .int .i64 0, .int .i64 0, .int .i64 (-1)])) (r : Bool) (H0 : i_TableValid fl a0 = some r) :
    Ct Tryz.prog 36 [.agg #[.slice p0_0 n0_0 c0_0, .slice p0_1 n0_1 c0_1]] w [] (fun rv h' => rv = .bool r ∧ h' = []) := by
  obtain rfl := hn0_0
  obtain rfl := hn0_1
  unfold i_TableValid at H0
  obtain rfl := Option.some.inj H0
  exact ct_of_calls (tableValid_c _ a0 w ⟨_, _, rfl, (hr0_0 w (Fr.refl _ _)).rd, (hr0_1 w (Fr.refl _ _)).rd⟩ (freeG_of (hg w (Fr.refl _ _))))

theorem c_i_within (fl : Nat) (w : World) (a0 : Int) (a1 : Int) (r : Bool) (H0 : i_within fl a0 a1 = some r) :
  Ct Tryz.prog 29 [.int .i64 a0, .int .i64 a1] w [] (fun rv h' => rv = .bool r ∧ h' = []) := by
 unfold i_within at H0
 refine ct_of_cw Tryz.func29 rfl Tryz.ntmps29 rfl (Sat.refl _ _) ?_
 obtain ⟨y1, ey1, H0⟩ := bS H0
 refine sr (oS rfl (nn (sr (oM rfl (oI rfl (oM rfl (ow_cutY 4 11 y1 ?_ ?_)))))))
 ·rcases Bool.eq_false_or_eq_true (decide (0 ≤ a0)) with hy1 | hy1
  ·have ey1 := cond_t ey1 hy1
   refine oG rfl hy1 (mv rfl) rfl (oG rfl hy1 (mv rfl) rfl (oG rfl hy1 (stp_lss rfl rfl) rfl (oD (stp_pick_t rfl hy1 rfl) rfl ?_)))
   obtain rfl := sI ey1
   exact ow_nil (jy 4 0)
  have ey1 := cond_f ey1 hy1
  refine oO rfl hy1 rfl (oO rfl hy1 rfl (oO rfl hy1 rfl (oD (stp_pick_f rfl hy1 rfl) rfl ?_)))
  obtain rfl := sI ey1
  exact ow_nil (jy 4 0)
 refine oS rfl (nn (cw_ret ?_))
 obtain rfl := sI H0
 exact kr Tryz.results29 (rT rfl) [] ⟨rfl, rfl⟩

theorem c_i_tagValid (fl : Nat) (w : World) (a0 : Int) (r : Bool) (H0 : i_tagValid fl a0 = some r) :
  Ct Tryz.prog 112 [.int .i64 a0] w [] (fun rv h' => rv = .bool r ∧ h' = []) := by
 unfold i_tagValid at H0
 refine ct_of_cw Tryz.func112 rfl Tryz.ntmps112 rfl (Sat.refl _ _) ?_
 obtain ⟨y1, ey1, H0⟩ := bS H0
 refine sr (oS rfl (nn (sr (oM rfl (oI rfl (oM rfl (ow_cutY 3 8 y1 ?_ ?_)))))))
 ·rcases Bool.eq_false_or_eq_true (decide ((-1) ≤ a0)) with hy1 | hy1
  ·have ey1 := cond_t ey1 hy1
   refine oG rfl hy1 (mv rfl) rfl (oG rfl hy1 (stp_lss rfl rfl) rfl (oD (stp_pick_t rfl hy1 rfl) rfl ?_))
   obtain rfl := sI ey1
   exact ow_nil (jy 3 0)
  have ey1 := cond_f ey1 hy1
  refine oO rfl hy1 rfl (oO rfl hy1 rfl (oD (stp_pick_f rfl hy1 rfl) rfl ?_))
  obtain rfl := sI ey1
  exact ow_nil (jy 3 0)
 refine oS rfl (nn (cw_ret ?_))
 obtain rfl := sI H0
 exact kr Tryz.results112 (rT rfl) [] ⟨rfl, rfl⟩

theorem c_i_RightsValid (fl : Nat) (w : World) (a0 : Int) (r : Bool) (H0 : i_RightsValid fl a0 = some r) :
  Ct Tryz.prog 30 [.int .i64 a0] w [] (fun rv h' => rv = .bool r ∧ h' = []) := by
 unfold i_RightsValid at H0
 refine ct_of_cw Tryz.func30 rfl Tryz.ntmps30 rfl (Sat.refl _ _) ?_
 obtain ⟨x1, e1, H0⟩ := bS H0
 refine sr (oS rfl (nn (sr (oM rfl (oE (stpU_call (fun i => 0 + i) cf29 (fun w hw => c_i_within fl w a0 8 x1 e1) (yB rfl rfl)) rfl ?_)))))
 rintro _ _ ⟨_, ⟨rfl, rfl⟩, rfl⟩
 refine oS rfl (nn (cw_ret ?_))
 obtain rfl := sI H0
 exact kr Tryz.results30 (rT rfl) [] ⟨rfl, rfl⟩

theorem c_i_lineValid (fl : Nat) (w : World) (a0 : Ln) (r : Bool) (H0 : i_lineValid fl a0 = some r) :
  Ct Tryz.prog 79 [.agg #[.bool a0.va, .int .i64 a0.tg, .int .i64 a0.pg, .int .i64 a0.fr, .int .i64 a0.ri, .bool a0.wi]] w [] (fun rv h' => rv = .bool r ∧ h' = []) := by
 unfold i_lineValid at H0
 refine ct_of_cw Tryz.func79 rfl Tryz.ntmps79 rfl (Sat.refl _ _) ?_
 refine sr (oE (stpU_box 0 rfl rfl) rfl ?_)
 rintro _ _ ⟨b1, rfl, rfl⟩
 refine oS rfl (nn (cw_seq (sr (oA 0 Tryz.underlying66 rfl ts4 rfl (oL 0 ts4 rfl (oK rfl (nn (cw_cond rfl (fun h2 => ?_) (fun h2 => ?_)))))))))
 ·have H0 := cond_t H0 h2
  refine sr (oB6 0 ts66 rfl (oD (stp_build (cs := #[.bool false, .int .i64 0, .int .i64 0, .int .i64 0, .int .i64 0, .bool false]) sevp_nil bt66_11) rfl (oD (stp_eqlS te66 a0 (⟨false, 0, 0, 0, 0, false⟩ : Ln) rfl rfl) rfl (oS rfl (nn (cw_ret (kw_nx_ret ?_)))))))
  obtain rfl := sI H0
  exact kr Tryz.results79 (rT rfl) [] ⟨rfl, rfl⟩
 have H0 := cond_f H0 h2
 obtain ⟨x3, e3, H0⟩ := bS H0
 refine cw_skip (kw_nx (sr (oA 1 Tryz.underlying66 rfl ts3 rfl (oL 0 ts3 rfl (oE (stpU_call (fun i => 1 + i) cf112 (fun w hw => c_i_tagValid fl w a0.tg x3 e3) (yA rfl)) rfl ?_)))))
 rintro _ _ ⟨_, ⟨rfl, rfl⟩, rfl⟩
 obtain ⟨y4, ey4, H0⟩ := bS H0
 refine oM rfl (ow_cutY 4 16 y4 ?_ ?_)
 ·rcases Bool.eq_false_or_eq_true x3 with hy4 | hy4
  ·have ey4 := cond_t ey4 hy4
   obtain ⟨x5, e5, ey4⟩ := bS ey4
   refine oG rfl hy4 (fA 2 Tryz.underlying66 rfl ts3 rfl rfl rfl) rfl (oG rfl hy4 (lB 0 ts3 rfl rfl rfl) rfl (ow_eff (.some rfl hy4) (stpU_call (fun i => 1 + i) cf29 (fun w hw => c_i_within fl w a0.pg 256 x5 e5) (yB rfl rfl)) rfl ?_))
   rintro _ _ ⟨_, ⟨rfl, rfl⟩, rfl⟩
   refine oD (stp_pick_t rfl hy4 rfl) rfl ?_
   obtain rfl := sI ey4
   exact ow_nil (jy 4 0)
  have ey4 := cond_f ey4 hy4
  refine oO rfl hy4 rfl (oO rfl hy4 rfl (oO rfl hy4 rfl (oD (stp_pick_f rfl hy4 rfl) rfl ?_)))
  obtain rfl := sI ey4
  exact ow_nil (jy 4 0)
 obtain ⟨y6, ey6, H0⟩ := bS H0
 refine oM rfl (ow_cutY 4 21 y6 ?_ ?_)
 ·rcases Bool.eq_false_or_eq_true y4 with hy6 | hy6
  ·have ey6 := cond_t ey6 hy6
   obtain ⟨x7, e7, ey6⟩ := bS ey6
   refine oG rfl hy6 (fA 3 Tryz.underlying66 rfl ts3 rfl rfl rfl) rfl (oG rfl hy6 (lB 0 ts3 rfl rfl rfl) rfl (ow_eff (.some rfl hy6) (stpU_call (fun i => 1 + i) cf29 (fun w hw => c_i_within fl w a0.fr 16 x7 e7) (yB rfl rfl)) rfl ?_))
   rintro _ _ ⟨_, ⟨rfl, rfl⟩, rfl⟩
   refine oD (stp_pick_t rfl hy6 rfl) rfl ?_
   obtain rfl := sI ey6
   exact ow_nil (jy 4 0)
  have ey6 := cond_f ey6 hy6
  refine oO rfl hy6 rfl (oO rfl hy6 rfl (oO rfl hy6 rfl (oD (stp_pick_f rfl hy6 rfl) rfl ?_)))
  obtain rfl := sI ey6
  exact ow_nil (jy 4 0)
 obtain ⟨y8, ey8, H0⟩ := bS H0
 refine oM rfl (ow_cutY 4 26 y8 ?_ ?_)
 ·rcases Bool.eq_false_or_eq_true y6 with hy8 | hy8
  ·have ey8 := cond_t ey8 hy8
   obtain ⟨x9, e9, ey8⟩ := bS ey8
   refine oG rfl hy8 (fA 4 Tryz.underlying66 rfl ts3 rfl rfl rfl) rfl (oG rfl hy8 (lB 0 ts3 rfl rfl rfl) rfl (ow_eff (.some rfl hy8) (stpU_call (fun i => 1 + i) cf30 (fun w hw => c_i_RightsValid fl w a0.ri x9 e9) (yA rfl)) rfl ?_))
   rintro _ _ ⟨_, ⟨rfl, rfl⟩, rfl⟩
   refine oD (stp_pick_t rfl hy8 rfl) rfl ?_
   obtain rfl := sI ey8
   exact ow_nil (jy 4 0)
  have ey8 := cond_f ey8 hy8
  refine oO rfl hy8 rfl (oO rfl hy8 rfl (oO rfl hy8 rfl (oD (stp_pick_f rfl hy8 rfl) rfl ?_)))
  obtain rfl := sI ey8
  exact ow_nil (jy 4 0)
 refine oS rfl (nn (cw_ret ?_))
 obtain rfl := sI H0
 exact kr Tryz.results79 (rT rfl) [] ⟨rfl, rfl⟩

theorem c_i_clash (fl : Nat) (w : World) (a0 : Ln) (a1 : Ln) (r : Bool) (H0 : i_clash fl a0 a1 = some r) :
  Ct Tryz.prog 83 [.agg #[.bool a0.va, .int .i64 a0.tg, .int .i64 a0.pg, .int .i64 a0.fr, .int .i64 a0.ri, .bool a0.wi], .agg #[.bool a1.va, .int .i64 a1.tg, .int .i64 a1.pg, .int .i64 a1.fr, .int .i64 a1.ri, .bool a1.wi]] w [] (fun rv h' => rv = .bool r ∧ h' = []) := by
 unfold i_clash at H0
 refine ct_of_cw Tryz.func83 rfl Tryz.ntmps83 rfl (Sat.refl _ _) ?_
 refine sr (oE (stpU_box 0 rfl rfl) rfl ?_)
 rintro _ _ ⟨b1, rfl, rfl⟩
 refine oE (stpU_box 1 rfl rfl) rfl ?_
 rintro _ _ ⟨b2, rfl, rfl⟩
 obtain ⟨y3, ey3, H0⟩ := bS H0
 refine oS rfl (nn (sr (oA 0 Tryz.underlying66 rfl ts4 rfl (oL 0 ts4 rfl (oM rfl (ow_cutY 3 10 y3 ?_ ?_))))))
 ·rcases Bool.eq_false_or_eq_true a0.va with hy3 | hy3
  ·have ey3 := cond_t ey3 hy3
   refine oG rfl hy3 (fA 0 Tryz.underlying66 rfl ts4 rfl rfl rfl) rfl (oG rfl hy3 (lB 1 ts4 rfl rfl rfl) rfl (oD (stp_pick_t rfl hy3 rfl) rfl ?_))
   obtain rfl := sI ey3
   exact ow_nil (jy 3 0)
  have ey3 := cond_f ey3 hy3
  refine oO rfl hy3 rfl (oO rfl hy3 rfl (oD (stp_pick_f rfl hy3 rfl) rfl ?_))
  obtain rfl := sI ey3
  exact ow_nil (jy 3 0)
 obtain ⟨y4, ey4, H0⟩ := bS H0
 refine oM rfl (ow_cutY 6 17 y4 ?_ ?_)
 ·rcases Bool.eq_false_or_eq_true y3 with hy4 | hy4
  ·have ey4 := cond_t ey4 hy4
   refine oG rfl hy4 (fA 2 Tryz.underlying66 rfl ts3 rfl rfl rfl) rfl (oG rfl hy4 (lB 0 ts3 rfl rfl rfl) rfl (oG rfl hy4 (fA 2 Tryz.underlying66 rfl ts3 rfl rfl rfl) rfl (oG rfl hy4 (lB 1 ts3 rfl rfl rfl) rfl (oG rfl hy4 (stp_eql rfl rfl) rfl (oD (stp_pick_t rfl hy4 rfl) rfl ?_)))))
   obtain rfl := sI ey4
   exact ow_nil (jy 6 0)
  have ey4 := cond_f ey4 hy4
  refine oO rfl hy4 rfl (oO rfl hy4 rfl (oO rfl hy4 rfl (oO rfl hy4 rfl (oO rfl hy4 rfl (oD (stp_pick_f rfl hy4 rfl) rfl ?_)))))
  obtain rfl := sI ey4
  exact ow_nil (jy 6 0)
 obtain ⟨y5, ey5, H0⟩ := bS H0
 refine oM rfl (ow_cutY 16 34 y5 ?_ ?_)
 ·rcases Bool.eq_false_or_eq_true y4 with hy5 | hy5
  ·have ey5 := cond_t ey5 hy5
   obtain ⟨y6, ey6, ey5⟩ := bS ey5
   refine oG rfl hy5 (fA 1 Tryz.underlying66 rfl ts3 rfl rfl rfl) rfl (oG rfl hy5 (lB 0 ts3 rfl rfl rfl) rfl (oG rfl hy5 (fA 1 Tryz.underlying66 rfl ts3 rfl rfl rfl) rfl (oG rfl hy5 (lB 1 ts3 rfl rfl rfl) rfl (oG rfl hy5 (stp_eql rfl rfl) rfl (oG rfl hy5 (mv rfl) rfl (ow_cutY 4 28 y6 ?_ ?_))))))
   ·rcases Bool.eq_false_or_eq_true (a0.tg == a1.tg) with hy6 | hy6
    ·have ey6 := cond_t ey6 hy6
     refine oO rfl hy6 rfl (oO rfl hy6 rfl (oO rfl hy6 rfl (oG rfl hy5 (stp_pick_t rfl hy6 rfl) rfl ?_)))
     obtain rfl := sI ey6
     exact ow_nil (jy 4 0)
    have ey6 := cond_f ey6 hy6
    refine oG rfl hy6 (fA 1 Tryz.underlying66 rfl ts3 rfl rfl rfl) rfl (oG rfl hy6 (lB 0 ts3 rfl rfl rfl) rfl (oG rfl hy6 (stp_eql rfl rfl) rfl (oG rfl hy5 (stp_pick_f rfl hy6 rfl) rfl ?_)))
    obtain rfl := sI ey6
    exact ow_nil (jy 4 0)
   obtain ⟨y7, ey7, ey5⟩ := bS ey5
   refine oG rfl hy5 (mv rfl) rfl (ow_cutY 4 33 y7 ?_ ?_)
   ·rcases Bool.eq_false_or_eq_true y6 with hy7 | hy7
    ·have ey7 := cond_t ey7 hy7
     refine oO rfl hy7 rfl (oO rfl hy7 rfl (oO rfl hy7 rfl (oG rfl hy5 (stp_pick_t rfl hy7 rfl) rfl ?_)))
     obtain rfl := sI ey7
     exact ow_nil (jy 4 0)
    have ey7 := cond_f ey7 hy7
    refine oG rfl hy7 (fA 1 Tryz.underlying66 rfl ts3 rfl rfl rfl) rfl (oG rfl hy7 (lB 1 ts3 rfl rfl rfl) rfl (oG rfl hy7 (stp_eql rfl rfl) rfl (oG rfl hy5 (stp_pick_f rfl hy7 rfl) rfl ?_)))
    obtain rfl := sI ey7
    exact ow_nil (jy 4 0)
   refine oD (stp_pick_t rfl hy5 rfl) rfl ?_
   obtain rfl := sI ey5
   exact ow_nil (jy 10 0)
  have ey5 := cond_f ey5 hy5
  refine oO rfl hy5 rfl (oO rfl hy5 rfl (oO rfl hy5 rfl (oO rfl hy5 rfl (oO rfl hy5 rfl (oO rfl hy5 rfl (oX rfl rfl rfl (oX rfl rfl rfl (oX rfl rfl rfl (oO rfl hy5 rfl (oO rfl hy5 rfl (oX rfl rfl rfl (oX rfl rfl rfl (oX rfl rfl rfl ?_)))))))))))))
  refine oO rfl hy5 rfl (oD (stp_pick_f rfl hy5 rfl) rfl ?_)
  obtain rfl := sI ey5
  exact ow_nil (jy 16 0)
 refine oS rfl (nn (cw_ret ?_))
 obtain rfl := sI H0
 exact kr Tryz.results83 (rT rfl) [] ⟨rfl, rfl⟩

theorem c_i_CacheValid (fl : Nat) (w : World) (a0 : Ca) (hn0_0 : n0_0 = (a0.l).length) (hr0_0 : RO w (hkeys []) (RdL p0_0 c0_0 a0.l)) (r : Bool) (H0 : i_CacheValid fl a0 = some r) :
  Ct Tryz.prog 37 [.agg #[.slice p0_0 n0_0 c0_0, .int .i64 a0.h]] w [] (fun rv h' => rv = .bool r ∧ h' = []) := by
 subst hn0_0
 unfold i_CacheValid at H0
 refine ct_of_cw Tryz.func37 rfl Tryz.ntmps37 rfl (Sat.refl _ _) ?_
 refine sr (oE (stpU_box 0 rfl rfl) rfl ?_)
 rintro _ _ ⟨b1, rfl, rfl⟩
 obtain ⟨y2, ey2, H0⟩ := bS H0
 refine oS rfl (nn (sr (oA 0 Tryz.underlying29 rfl ts27 rfl (oL 0 ts27 rfl (oD (stp_len Tryz.underlying27 rfl) rfl (oS rfl (nn (cw_seq (sr (oM rfl (oW rfl (oM rfl (ow_cutY 3 17 y2 ?_ ?_)))))))))))))
 ·rcases Bool.eq_false_or_eq_true (decide (((a0.l).length : Int) < 1)) with hy2 | hy2
  ·have ey2 := cond_t ey2 hy2
   refine oO rfl hy2 rfl (oO rfl hy2 rfl (oD (stp_pick_t rfl hy2 rfl) rfl ?_))
   obtain rfl := sI ey2
   exact ow_nil (jy 3 0)
  have ey2 := cond_f ey2 hy2
  refine oG rfl hy2 (mv rfl) rfl (oG rfl hy2 (stp_gtr rfl rfl) rfl (oD (stp_pick_f rfl hy2 rfl) rfl ?_))
  obtain rfl := sI ey2
  exact ow_nil (jy 3 0)
 obtain ⟨y3, ey3, H0⟩ := bS H0
 refine oM rfl (ow_cutY 6 24 y3 ?_ ?_)
 ·rcases Bool.eq_false_or_eq_true y2 with hy3 | hy3
  ·have ey3 := cond_t ey3 hy3
   refine oO rfl hy3 rfl (oO rfl hy3 rfl (oO rfl hy3 rfl (oO rfl hy3 rfl (oO rfl hy3 rfl (oD (stp_pick_t rfl hy3 rfl) rfl ?_)))))
   obtain rfl := sI ey3
   exact ow_nil (jy 6 0)
  have ey3 := cond_f ey3 hy3
  obtain ⟨x4, e4, ey3⟩ := bS ey3
  refine oG rfl hy3 (fA 1 Tryz.underlying29 rfl ts3 rfl rfl rfl) rfl (oG rfl hy3 (lB 0 ts3 rfl rfl rfl) rfl (oG rfl hy3 (mv rfl) rfl (ow_eff (.some rfl hy3) (stpU_call (fun i => 1 + i) cf29 (fun w hw => c_i_within fl w a0.h ((a0.l).length : Int) x4 e4) (yB rfl rfl)) rfl ?_)))
  rintro _ _ ⟨_, ⟨rfl, rfl⟩, rfl⟩
  refine oG rfl hy3 (stp_not rfl) rfl (oD (stp_pick_f rfl hy3 rfl) rfl ?_)
  obtain rfl := sI ey3
  exact ow_nil (jy 6 0)
 refine ow_nil (kw_nx (cw_cond rfl (fun h5 => ?_) (fun h5 => ?_)))
 ·have H0 := cond_t H0 h5
  refine sr (oS rfl (nn (cw_ret (kw_nx_ret ?_))))
  obtain rfl := sI H0
  exact kr Tryz.results37 (rT rfl) [] ⟨rfl, rfl⟩
 have H0 := cond_f H0 h5
 obtain ⟨o0_0, eo0_0, H0⟩ := bS H0
 refine cw_skip (kw_nx (sr (oS rfl (nn (cw_seq (sr (oA 0 Tryz.underlying29 rfl ts27 rfl (oL 0 ts27 rfl (oD (stp_len Tryz.underlying27 rfl) rfl (oM rfl (nn (cw_join (ι := Int × Bool) (fun | (v6, v7) => o0_0 = .out (v6, v7)) (fun | (v6, v7) => [(1, .pointer (some ⟨b1, 0, none⟩)), (4, .bool v7), (26, .slice p0_0 ((a0.l).length) c0_0), (27, .int .i64 ((a0.l).length : Int)), (28, .int .i64 v6)]) (fun | (v6, v7) => [(0, [(b1, .cells #[.slice p0_0 ((a0.l).length) c0_0, .int .i64 a0.h] 29 (0, 0))])]) ?_ ?_))))))))))))
 ·refine cw_block (cw_loopS (ι := Nat × Int × Bool) (js := [0]) (fun x => x.1) (fun | (fuel, v6, v7) => i_CacheValid_L0 fl a0 fuel v6 v7 = some o0_0) (fun | (_, v6, v7) => [(1, .pointer (some ⟨b1, 0, none⟩)), (4, .bool v7), (26, .slice p0_0 ((a0.l).length) c0_0), (27, .int .i64 ((a0.l).length : Int)), (28, .int .i64 v6)]) (fun | (_, v6, v7) => [(0, [(b1, .cells #[.slice p0_0 ((a0.l).length) c0_0, .int .i64 a0.h] 29 (0, 0))])]) (fl, 0, false) eo0_0 ⟨rfl, rfl, rfl, rfl, rfl, trivial⟩ ⟨0, [], rfl, rfl, trivial⟩ (by decide) ?_)
  rintro ⟨fuel, v6, v7⟩ H1
  have H1 : i_CacheValid_L0 fl a0 fuel v6 v7 = some o0_0 := H1
  rcases fuel with _ | fuel
  ·rw [i_CacheValid_L0.eq_1] at H1; cases H1
  rw [i_CacheValid_L0.eq_2] at H1
  dsimp only
  refine sr (oW rfl (nn (cw_seq (cw_cond rfl (fun h8 => ?_) (fun h8 => ?_)))))
  ·have H1 := cond_t H1 h8
   obtain ⟨x9, e9, H1⟩ := bS H1
   refine cw_skip (kw_nx (cw_seq (cw_block (sr (oM rfl (oD (stp_indexAddr Tryz.underlying27 ts66 (by decide) rfl rfl rfl (Rdb.ro hr0_0) e9) rfl (oD (stp_loadN (us := [_, _, _, _, _, _]) ts66 rfl (Cells.el (Rdb.ro hr0_0) (by decide) e9 0 6 rfl)) rfl (oE (stpU_alloc 1 tz66 rfl) rfl ?_))))))))
   rintro _ _ ⟨b10, rfl, rfl⟩
   obtain ⟨x11, e11, H1⟩ := bS H1
   refine oS rfl (oC6 1 ts66 rfl rfl (nn (cw_seq (sr (oB6 1 ts66 rfl (oE (stpU_call (fun i => 2 + i) cf79 (fun w hw => c_i_lineValid fl w x9 x11 e11) (yA rfl)) rfl ?_))))))
   rintro _ _ ⟨_, ⟨rfl, rfl⟩, rfl⟩
   refine oK rfl (nn (cw_cond rfl (fun h12 => ?_) (fun h12 => ?_)))
   ·have H1 := cond_t H1 h12
    refine sr (oS rfl (nn (cw_ret (kw_nx_ret (kw_bl_ret (kw_nx_ret (kw_lq_ret (kw_bl_ret (kw_join_ret (kw_nx_ret ?_))))))))))
    obtain rfl := sI H1
    obtain rfl := sI H0
    exact kr Tryz.results37 (rT rfl) [] ⟨rfl, rfl⟩
   have H1 := cond_f H1 h12
   obtain ⟨x13, e13, H1⟩ := bS H1
   obtain ⟨o1_1, eo1_1, H1⟩ := bS H1
   refine cw_skip (kw_nx (cw_seq (sr (oA 0 Tryz.underlying29 rfl ts27 rfl (oL 0 ts27 rfl (oM rfl (oD (stp_take Tryz.underlying27 ts66 rfl rfl rfl (Rdb.ro hr0_0) e13) rfl (oD (stp_len Tryz.underlying27 rfl) rfl (oM rfl (nn (cw_join (ι := Int) (fun | v14 => o1_1 = .out v14) (fun | v14 => [(1, .pointer (some ⟨b1, 0, none⟩)), (4, .bool v7), (6, .pointer (some ⟨b10, 0, none⟩)), (26, .slice p0_0 ((a0.l).length) c0_0), (27, .int .i64 ((a0.l).length : Int)), (28, .int .i64 v6), (39, .slice p0_0 ((x13).length) c0_0), (40, .int .i64 ((x13).length : Int)), (41, .int .i64 v14)]) (fun | v14 => [(0, [(b1, .cells #[.slice p0_0 ((a0.l).length) c0_0, .int .i64 a0.h] 29 (0, 0))]), (1, [(b10, .cells #[.bool x9.va, .int .i64 x9.tg, .int .i64 x9.pg, .int .i64 x9.fr, .int .i64 x9.ri, .bool x9.wi] 66 (0, 0))])]) ?_ ?_)))))))))))
   ·refine cw_block (cw_loopS (ι := Nat × Int) (js := [0, 1]) (fun x => x.1) (fun | (fuel, v14) => i_CacheValid_L1 fl x9 x13 fuel v14 = some o1_1) (fun | (_, v14) => [(1, .pointer (some ⟨b1, 0, none⟩)), (4, .bool v7), (6, .pointer (some ⟨b10, 0, none⟩)), (26, .slice p0_0 ((a0.l).length) c0_0), (27, .int .i64 ((a0.l).length : Int)), (28, .int .i64 v6), (39, .slice p0_0 ((x13).length) c0_0), (40, .int .i64 ((x13).length : Int)), (41, .int .i64 v14)]) (fun | (_, v14) => [(0, [(b1, .cells #[.slice p0_0 ((a0.l).length) c0_0, .int .i64 a0.h] 29 (0, 0))]), (1, [(b10, .cells #[.bool x9.va, .int .i64 x9.tg, .int .i64 x9.pg, .int .i64 x9.fr, .int .i64 x9.ri, .bool x9.wi] 66 (0, 0))])]) (fl, 0) eo1_1 ⟨rfl, rfl, rfl, rfl, rfl, rfl, rfl, rfl, rfl, trivial⟩ ⟨0, [1], rfl, rfl, 1, [], rfl, rfl, trivial⟩ (by decide) ?_)
    rintro ⟨fuel, v14⟩ H2
    have H2 : i_CacheValid_L1 fl x9 x13 fuel v14 = some o1_1 := H2
    rcases fuel with _ | fuel
    ·rw [i_CacheValid_L1.eq_1] at H2; cases H2
    rw [i_CacheValid_L1.eq_2] at H2
    dsimp only
    refine sr (oW rfl (nn (cw_seq (cw_cond rfl (fun h15 => ?_) (fun h15 => ?_)))))
    ·have H2 := cond_t H2 h15
     obtain ⟨x16, e16, H2⟩ := bS H2
     refine cw_skip (kw_nx (cw_seq (cw_block (sr (oD (stp_indexAddr Tryz.underlying27 ts66 (by decide) rfl rfl rfl (Rdb.ro (RO.take hr0_0 e13)) e16) rfl (oD (stp_loadN (us := [_, _, _, _, _, _]) ts66 rfl (Cells.el (Rdb.ro (RO.take hr0_0 e13)) (by decide) e16 0 6 rfl)) rfl (oE (stpU_alloc 2 tz66 rfl) rfl ?_)))))))
     rintro _ _ ⟨b17, rfl, rfl⟩
     obtain ⟨x18, e18, H2⟩ := bS H2
     refine oC6 2 ts66 rfl rfl (nn (sr (oB6 1 ts66 rfl (oB6 2 ts66 rfl (oE (stpU_call (fun i => 3 + i) cf83 (fun w hw => c_i_clash fl w x9 x16 x18 e18) (yB rfl rfl)) rfl ?_)))))
     rintro _ _ ⟨_, ⟨rfl, rfl⟩, rfl⟩
     refine nn (cw_cond rfl (fun h19 => ?_) (fun h19 => ?_))
     ·have H2 := cond_t H2 h19
      refine sr (oS rfl (nn (cw_ret (kw_bl_ret (kw_nx_ret (kw_lq_ret (kw_bl_ret (kw_join_ret (kw_nx_ret (kw_bl_ret (kw_nx_ret (kw_lq_ret (kw_bl_ret ?_)))))))))))))
      refine kw_join_ret (kw_nx_ret ?_)
      obtain rfl := sI H2
      obtain rfl := sI H1
      obtain rfl := sI H0
      exact kr Tryz.results37 (rT rfl) [] ⟨rfl, rfl⟩
     have H2 := cond_f H2 h19
     obtain ⟨x20, e20, H2⟩ := bS H2
     exact cw_skip (kw_bl_normal (kw_nx (cw_region (oP e20 rfl (oM rfl (ow_nil (kw_lqS (js := [0, 1]) (fuel, x20) H2 (Nat.lt_succ_self _) ⟨rfl, rfl, rfl, rfl, rfl, rfl, rfl, rfl, rfl, trivial⟩ ⟨0, [1], rfl, rfl, 1, [], rfl, rfl, trivial⟩ (by decide))))))))
    have H2 := cond_f H2 h15
    refine cw_exit (kw_nx_exit (kw_lq_exit (kw_bl ?_)))
    obtain rfl := sI H2
    exact kw_joinS (js := [0, 1]) v14 rfl ⟨rfl, rfl, rfl, rfl, rfl, rfl, rfl, rfl, rfl, trivial⟩ ⟨0, [1], rfl, rfl, 1, [], rfl, rfl, trivial⟩ (by decide)
   rintro v14 rfl
   dsimp only
   obtain ⟨y21, ey21, H1⟩ := bS H1
   refine kw_nx (cw_region (oM rfl (oM rfl (ow_cutY 4 54 y21 ?_ ?_))))
   ·rcases Bool.eq_false_or_eq_true v7 with hy21 | hy21
    ·have ey21 := cond_t ey21 hy21
     refine oO rfl hy21 rfl (oO rfl hy21 rfl (oO rfl hy21 rfl (oD (stp_pick_t rfl hy21 rfl) rfl ?_)))
     obtain rfl := sI ey21
     exact ow_nil (jy 4 0)
    have ey21 := cond_f ey21 hy21
    refine oG rfl hy21 (fA 5 Tryz.underlying66 rfl ts4 rfl rfl rfl) rfl (oG rfl hy21 (lB 1 ts4 rfl rfl rfl) rfl (oG rfl hy21 (stp_not rfl) rfl (oD (stp_pick_f rfl hy21 rfl) rfl ?_)))
    obtain rfl := sI ey21
    exact ow_nil (jy 4 0)
   obtain ⟨x22, e22, H1⟩ := bS H1
   exact oS rfl (ow_nil (kw_bl_normal (kw_nx (cw_region (oP e22 rfl (oM rfl (ow_nil (kw_lqS (js := [0]) (fuel, x22, y21) H1 (Nat.lt_succ_self _) ⟨rfl, rfl, rfl, rfl, rfl, trivial⟩ ⟨0, [], rfl, rfl, trivial⟩ (by decide)))))))))
  have H1 := cond_f H1 h8
  refine cw_exit (kw_nx_exit (kw_lq_exit (kw_bl ?_)))
  obtain rfl := sI H1
  exact kw_joinS (js := [0]) (v6, v7) rfl ⟨rfl, rfl, rfl, rfl, rfl, trivial⟩ ⟨0, [], rfl, rfl, trivial⟩ (by decide)
 rintro ⟨v6, v7⟩ rfl
 dsimp only
 refine kw_nx (sr (oM rfl (oS rfl (nn (cw_ret ?_)))))
 obtain rfl := sI H0
 exact kr Tryz.results37 (rT rfl) [] ⟨rfl, rfl⟩

theorem c_i_TagsValid (fl : Nat) (w : World) (a0 : Tg) (hn0_0 : n0_0 = (a0.o).length) (hr0_0 : RO w (hkeys []) (RdL p0_0 c0_0 a0.o)) (r : Bool) (H0 : i_TagsValid fl a0 = some r) :
  Ct Tryz.prog 38 [.agg #[.int .i64 a0.c, .int .i64 a0.n, .int .i64 a0.r, .slice p0_0 n0_0 c0_0]] w [] (fun rv h' => rv = .bool r ∧ h' = []) := by
 subst hn0_0
 unfold i_TagsValid at H0
 refine ct_of_cw Tryz.func38 rfl Tryz.ntmps38 rfl (Sat.refl _ _) ?_
 refine sr (oE (stpU_box 0 rfl rfl) rfl ?_)
 rintro _ _ ⟨b1, rfl, rfl⟩
 obtain ⟨y2, ey2, H0⟩ := bS H0
 refine oS rfl (nn (cw_seq (sr (oA 0 Tryz.underlying32 rfl ts3 rfl (oL 0 ts3 rfl (oW rfl (oM rfl (ow_cutY 4 14 y2 ?_ ?_))))))))
 ·rcases Bool.eq_false_or_eq_true (decide (a0.c < 1)) with hy2 | hy2
  ·have ey2 := cond_t ey2 hy2
   refine oO rfl hy2 rfl (oO rfl hy2 rfl (oO rfl hy2 rfl (oD (stp_pick_t rfl hy2 rfl) rfl ?_)))
   obtain rfl := sI ey2
   exact ow_nil (jy 4 0)
  have ey2 := cond_f ey2 hy2
  refine oG rfl hy2 (fA 0 Tryz.underlying32 rfl ts3 rfl rfl rfl) rfl (oG rfl hy2 (lB 0 ts3 rfl rfl rfl) rfl (oG rfl hy2 (stp_gtr rfl rfl) rfl (oD (stp_pick_f rfl hy2 rfl) rfl ?_)))
  obtain rfl := sI ey2
  exact ow_nil (jy 4 0)
 obtain ⟨y3, ey3, H0⟩ := bS H0
 refine oM rfl (ow_cutY 4 19 y3 ?_ ?_)
 ·rcases Bool.eq_false_or_eq_true y2 with hy3 | hy3
  ·have ey3 := cond_t ey3 hy3
   refine oO rfl hy3 rfl (oO rfl hy3 rfl (oO rfl hy3 rfl (oD (stp_pick_t rfl hy3 rfl) rfl ?_)))
   obtain rfl := sI ey3
   exact ow_nil (jy 4 0)
  have ey3 := cond_f ey3 hy3
  refine oG rfl hy3 (fA 1 Tryz.underlying32 rfl ts3 rfl rfl rfl) rfl (oG rfl hy3 (lB 0 ts3 rfl rfl rfl) rfl (oG rfl hy3 (stp_lss rfl rfl) rfl (oD (stp_pick_f rfl hy3 rfl) rfl ?_)))
  obtain rfl := sI ey3
  exact ow_nil (jy 4 0)
 obtain ⟨y4, ey4, H0⟩ := bS H0
 refine oM rfl (ow_cutY 6 26 y4 ?_ ?_)
 ·rcases Bool.eq_false_or_eq_true y3 with hy4 | hy4
  ·have ey4 := cond_t ey4 hy4
   refine oO rfl hy4 rfl (oO rfl hy4 rfl (oO rfl hy4 rfl (oO rfl hy4 rfl (oO rfl hy4 rfl (oD (stp_pick_t rfl hy4 rfl) rfl ?_)))))
   obtain rfl := sI ey4
   exact ow_nil (jy 6 0)
  have ey4 := cond_f ey4 hy4
  refine oG rfl hy4 (fA 1 Tryz.underlying32 rfl ts3 rfl rfl rfl) rfl (oG rfl hy4 (lB 0 ts3 rfl rfl rfl) rfl (oG rfl hy4 (fA 0 Tryz.underlying32 rfl ts3 rfl rfl rfl) rfl (oG rfl hy4 (lB 0 ts3 rfl rfl rfl) rfl (oG rfl hy4 (stp_gtr rfl rfl) rfl (oD (stp_pick_f rfl hy4 rfl) rfl ?_)))))
  obtain rfl := sI ey4
  exact ow_nil (jy 6 0)
 obtain ⟨y5, ey5, H0⟩ := bS H0
 refine oM rfl (ow_cutY 4 31 y5 ?_ ?_)
 ·rcases Bool.eq_false_or_eq_true y4 with hy5 | hy5
  ·have ey5 := cond_t ey5 hy5
   refine oO rfl hy5 rfl (oO rfl hy5 rfl (oO rfl hy5 rfl (oD (stp_pick_t rfl hy5 rfl) rfl ?_)))
   obtain rfl := sI ey5
   exact ow_nil (jy 4 0)
  have ey5 := cond_f ey5 hy5
  refine oG rfl hy5 (fA 2 Tryz.underlying32 rfl ts3 rfl rfl rfl) rfl (oG rfl hy5 (lB 0 ts3 rfl rfl rfl) rfl (oG rfl hy5 (stp_lss rfl rfl) rfl (oD (stp_pick_f rfl hy5 rfl) rfl ?_)))
  obtain rfl := sI ey5
  exact ow_nil (jy 4 0)
 obtain ⟨y6, ey6, H0⟩ := bS H0
 refine oM rfl (ow_cutY 4 36 y6 ?_ ?_)
 ·rcases Bool.eq_false_or_eq_true y5 with hy6 | hy6
  ·have ey6 := cond_t ey6 hy6
   refine oO rfl hy6 rfl (oO rfl hy6 rfl (oO rfl hy6 rfl (oD (stp_pick_t rfl hy6 rfl) rfl ?_)))
   obtain rfl := sI ey6
   exact ow_nil (jy 4 0)
  have ey6 := cond_f ey6 hy6
  refine oG rfl hy6 (fA 2 Tryz.underlying32 rfl ts3 rfl rfl rfl) rfl (oG rfl hy6 (lB 0 ts3 rfl rfl rfl) rfl (oG rfl hy6 (stp_gtr rfl rfl) rfl (oD (stp_pick_f rfl hy6 rfl) rfl ?_)))
  obtain rfl := sI ey6
  exact ow_nil (jy 4 0)
 refine ow_nil (kw_nx (cw_cond rfl (fun h7 => ?_) (fun h7 => ?_)))
 ·have H0 := cond_t H0 h7
  refine sr (oS rfl (nn (cw_ret (kw_nx_ret ?_))))
  obtain rfl := sI H0
  exact kr Tryz.results38 (rT rfl) [] ⟨rfl, rfl⟩
 have H0 := cond_f H0 h7
 refine cw_skip (kw_nx (sr (oE (stpU_makeMap 1 3) rfl ?_)))
 rintro _ _ ⟨b8, C9, rfl, rfl, o9⟩
 obtain ⟨o0_0, eo0_0, H0⟩ := bS H0
 refine oS rfl (nn (sr (oS rfl (nn (cw_seq (sr (oA 3 Tryz.underlying32 rfl ts30 rfl (oL 0 ts30 rfl (oD (stp_len Tryz.underlying30 rfl) rfl (oM rfl (nn (cw_join (ι := (List Int) × Int × Int × Res) (fun | (v10, v12, v13, C11) => o0_0 = .out (v10, v12, v13) ∧ True ∧ OwnM Tryz.prog 3 b8 v10 C11) (fun | (v10, v12, v13, C11) => [(1, .pointer (some ⟨b1, 0, none⟩)), (3, .map (some b8)), (4, .int .i64 v12), (39, .slice p0_0 ((a0.o).length) c0_0), (40, .int .i64 ((a0.o).length : Int)), (41, .int .i64 v13)]) (fun | (v10, v12, v13, C11) => [(0, [(b1, .cells #[.int .i64 a0.c, .int .i64 a0.n, .int .i64 a0.r, .slice p0_0 ((a0.o).length) c0_0] 32 (0, 0))]), (1, C11)]) ?_ ?_))))))))))))
 ·refine cw_block (cw_loopS (ι := Nat × (List Int) × Int × Int × Res) (js := [0, 1]) (fun x => x.1) (fun | (fuel, v10, v12, v13, C11) => i_TagsValid_L0 fl a0 fuel v10 v12 v13 = some o0_0 ∧ True ∧ OwnM Tryz.prog 3 b8 v10 C11) (fun | (_, v10, v12, v13, C11) => [(1, .pointer (some ⟨b1, 0, none⟩)), (3, .map (some b8)), (4, .int .i64 v12), (39, .slice p0_0 ((a0.o).length) c0_0), (40, .int .i64 ((a0.o).length : Int)), (41, .int .i64 v13)]) (fun | (_, v10, v12, v13, C11) => [(0, [(b1, .cells #[.int .i64 a0.c, .int .i64 a0.n, .int .i64 a0.r, .slice p0_0 ((a0.o).length) c0_0] 32 (0, 0))]), (1, C11)]) (fl, ([] : List Int), (-1), 0, C9) ⟨eo0_0, trivial, o9⟩ ⟨rfl, rfl, rfl, rfl, rfl, rfl, trivial⟩ ⟨0, [1], rfl, rfl, 1, [], rfl, rfl, trivial⟩ (by decide) ?_)
  rintro ⟨fuel, v10, v12, v13, C11⟩ ⟨H1, hl11, o11⟩
  have H1 : i_TagsValid_L0 fl a0 fuel v10 v12 v13 = some o0_0 := H1
  rcases fuel with _ | fuel
  ·rw [i_TagsValid_L0.eq_1] at H1; cases H1
  rw [i_TagsValid_L0.eq_2] at H1
  dsimp only
  refine sr (oW rfl (nn (cw_seq (cw_cond rfl (fun h14 => ?_) (fun h14 => ?_)))))
  ·have H1 := cond_t H1 h14
   obtain ⟨x15, e15, H1⟩ := bS H1
   refine cw_skip (kw_nx (cw_seq (cw_block (sr (oD (stp_indexAddr Tryz.underlying30 ts108 (by decide) rfl rfl rfl (Rdb.ro hr0_0) e15) rfl (oD (stp_loadN (us := [_, _]) ts108 rfl (Cells.el (Rdb.ro hr0_0) (by decide) e15 0 2 rfl)) rfl (oE (stpU_alloc 2 tz108 rfl) rfl ?_)))))))
   rintro _ _ ⟨b16, rfl, rfl⟩
   obtain ⟨y17, ey17, H1⟩ := bS H1
   refine oC2 2 ts108 rfl rfl (nn (cw_seq (sr (oA 1 Tryz.underlying108 rfl ts3 rfl (oL 2 ts3 rfl (oM rfl (oV rfl (oM rfl (ow_cutY 6 55 y17 ?_ ?_)))))))))
   ·rcases Bool.eq_false_or_eq_true (decide (x15.tg ≤ v12)) with hy17 | hy17
    ·have ey17 := cond_t ey17 hy17
     refine oO rfl hy17 rfl (oO rfl hy17 rfl (oO rfl hy17 rfl (oO rfl hy17 rfl (oO rfl hy17 rfl (oD (stp_pick_t rfl hy17 rfl) rfl ?_)))))
     obtain rfl := sI ey17
     exact ow_nil (jy 6 0)
    have ey17 := cond_f ey17 hy17
    refine oG rfl hy17 (fA 1 Tryz.underlying108 rfl ts3 rfl rfl rfl) rfl (oG rfl hy17 (lB 2 ts3 rfl rfl rfl) rfl (oG rfl hy17 (fA 1 Tryz.underlying32 rfl ts3 rfl rfl rfl) rfl (oG rfl hy17 (lB 0 ts3 rfl rfl rfl) rfl (oG rfl hy17 (stp_geq rfl rfl) rfl (oD (stp_pick_f rfl hy17 rfl) rfl ?_)))))
    obtain rfl := sI ey17
    exact ow_nil (jy 6 0)
   obtain ⟨y18, ey18, H1⟩ := bS H1
   refine oM rfl (ow_cutY 5 61 y18 ?_ ?_)
   ·rcases Bool.eq_false_or_eq_true y17 with hy18 | hy18
    ·have ey18 := cond_t ey18 hy18
     refine oO rfl hy18 rfl (oO rfl hy18 rfl (oO rfl hy18 rfl (oO rfl hy18 rfl (oD (stp_pick_t rfl hy18 rfl) rfl ?_))))
     obtain rfl := sI ey18
     exact ow_nil (jy 5 0)
    have ey18 := cond_f ey18 hy18
    obtain ⟨x19, e19, ey18⟩ := bS ey18
    refine oG rfl hy18 (fA 0 Tryz.underlying108 rfl ts3 rfl rfl rfl) rfl (oG rfl hy18 (lB 2 ts3 rfl rfl rfl) rfl (ow_eff (.some rfl hy18) (stpU_call (fun i => 3 + i) cf29 (fun w hw => c_i_within fl w x15.sp 16 x19 e19) (yB rfl rfl)) rfl ?_))
    rintro _ _ ⟨_, ⟨rfl, rfl⟩, rfl⟩
    refine oG rfl hy18 (stp_not rfl) rfl (oD (stp_pick_f rfl hy18 rfl) rfl ?_)
    obtain rfl := sI ey18
    exact ow_nil (jy 5 0)
   obtain ⟨y20, ey20, H1⟩ := bS H1
   refine oM rfl (ow_cutY 5 67 y20 ?_ ?_)
   ·rcases Bool.eq_false_or_eq_true y18 with hy20 | hy20
    ·have ey20 := cond_t ey20 hy20
     refine oO rfl hy20 rfl (oO rfl hy20 rfl (oO rfl hy20 rfl (oO rfl hy20 rfl (oD (stp_pick_t rfl hy20 rfl) rfl ?_))))
     obtain rfl := sI ey20
     exact ow_nil (jy 5 0)
    have ey20 := cond_f ey20 hy20
    obtain ⟨x21, e21, ey20⟩ := bS ey20
    refine oG rfl hy20 (mv rfl) rfl (oG rfl hy20 (fA 0 Tryz.underlying108 rfl ts3 rfl rfl rfl) rfl (oG rfl hy20 (lB 2 ts3 rfl rfl rfl) rfl (oG rfl hy20 (stp_has (id := 1) keyInt isKeyInt Tryz.underlying118 tz4 rfl rfl rfl o11 e21) rfl (oD (stp_pick_f rfl hy20 rfl) rfl ?_))))
    obtain rfl := sI ey20
    exact ow_nil (jy 5 0)
   refine ow_nil (kw_nx (cw_cond rfl (fun h22 => ?_) (fun h22 => ?_)))
   ·have H1 := cond_t H1 h22
    refine sr (oS rfl (nn (cw_ret (kw_nx_ret (kw_bl_ret (kw_nx_ret (kw_lq_ret (kw_bl_ret (kw_join_ret (kw_nx_ret ?_))))))))))
    obtain rfl := sI H1
    obtain rfl := sI H0
    exact kr Tryz.results38 (rT rfl) [] ⟨rfl, rfl⟩
   have H1 := cond_f H1 h22
   obtain ⟨x23, e23, H1⟩ := bS H1
   refine cw_skip (kw_nx (sr (oA 1 Tryz.underlying108 rfl ts3 rfl (oL 2 ts3 rfl (oS rfl (nn (cw_region (oM rfl (oA 0 Tryz.underlying108 rfl ts3 rfl (oL 2 ts3 rfl (oF (stpU_add (id := 1) keyInt isKeyInt Tryz.underlying118 rfl rfl rfl rfl o11 e23) ?_)))))))))))
   rintro _ _ ⟨C24, rfl, o24⟩
   obtain ⟨x25, e25, H1⟩ := bS H1
   exact ow_nil (kw_bl_normal (kw_nx (cw_region (oP e25 rfl (oM rfl (ow_nil (kw_lqS (js := [0, 1]) (fuel, x23, x15.tg, x25, C24) ⟨H1, trivial, o24⟩ (Nat.lt_succ_self _) ⟨rfl, rfl, rfl, rfl, rfl, rfl, trivial⟩ ⟨0, [1], rfl, rfl, 1, [], rfl, rfl, trivial⟩ (by decide))))))))
  have H1 := cond_f H1 h14
  refine cw_exit (kw_nx_exit (kw_lq_exit (kw_bl ?_)))
  obtain rfl := sI H1
  exact kw_joinS (js := [0, 1]) (v10, v12, v13, C11) ⟨rfl, trivial, o11⟩ ⟨rfl, rfl, rfl, rfl, rfl, rfl, trivial⟩ ⟨0, [1], rfl, rfl, 1, [], rfl, rfl, trivial⟩ (by decide)
 rintro ⟨v10, v12, v13, C11⟩ ⟨rfl, hl11, o11⟩
 dsimp only
 refine kw_nx (sr (oS rfl (nn (cw_ret ?_))))
 obtain rfl := sI H0
 exact kr Tryz.results38 (rT rfl) [] ⟨rfl, rfl⟩

theorem c_i_Tags_own_1 (fl : Nat) (w : World) (a0 : Ow) (qc0 : Nat) (ac0 : Int) (hbac0 : RO w (hkeys []) (fun w' => w'.rangeAt qc0 0 [.int .i64 ac0])) (r : Bool) (H0 : i_Tags_own_1 fl a0 ac0 = some r) :
  Ct Tryz.prog 85 [.agg #[.int .i64 a0.sp, .int .i64 a0.tg], .pointer (some ⟨qc0, 0, none⟩)] w [] (fun rv h' => rv = .bool r ∧ h' = []) := by
 unfold i_Tags_own_1 at H0
 refine ct_of_cw Tryz.func85 rfl Tryz.ntmps85 rfl (Sat.refl _ _) ?_
 refine sr (oE (stpU_box 0 rfl rfl) rfl ?_)
 rintro _ _ ⟨b1, rfl, rfl⟩
 refine oS rfl (nn (sr (oA 0 Tryz.underlying108 rfl ts3 rfl (oL 0 ts3 rfl (oD (stp_load1 ts3 rfl (Cells.ofRO hbac0 1 rfl)) rfl (oQ rfl (oS rfl (nn (cw_ret ?_)))))))))
 obtain rfl := sI H0
 exact kr Tryz.results85 (rT rfl) [] ⟨rfl, rfl⟩

theorem c_slices_IndexFunc_Own_of_i_Tags_own_1 (fl : Nat) (w : World) (a0 : (List Ow)) (q1_0 : Nat) (a1_0 : Int) (hn0_0 : n0_0 = (a0).length) (hr0_0 : RO w (hkeys []) (RdL p0_0 c0_0 a0)) (hba1_0 : RO w (hkeys []) (fun w' => w'.rangeAt q1_0 0 [.int .i64 a1_0])) (r : Int) (H0 : slices_IndexFunc_Own_of_i_Tags_own_1 fl a0 a1_0 = some r) :
  Ct Tryz.prog 84 [.slice p0_0 n0_0 c0_0, .func (.func 85) #[] #[.pointer (some ⟨q1_0, 0, none⟩)]] w [] (fun rv h' => rv = .int .i64 r ∧ h' = []) := by
 subst hn0_0
 unfold slices_IndexFunc_Own_of_i_Tags_own_1 at H0
 refine ct_of_cw Tryz.func84 rfl Tryz.ntmps84 rfl (Sat.refl _ _) ?_
 obtain ⟨o0_0, eo0_0, H0⟩ := bS H0
 refine sr (oS rfl (nn (cw_seq (sr (oM rfl (oD (stp_len Tryz.underlying30 rfl) rfl (oM rfl (nn (cw_join (ι := Int) (fun | v1 => o0_0 = .out v1) (fun | v1 => [(0, .slice p0_0 ((a0).length) c0_0), (1, .func (.func 85) #[] #[.pointer (some ⟨q1_0, 0, none⟩)]), (7, .int .i64 ((a0).length : Int)), (8, .int .i64 v1)]) (fun | v1 => []) ?_ ?_)))))))))
 ·refine cw_block (cw_loopS (ι := Nat × Int) (js := []) (fun x => x.1) (fun | (fuel, v1) => slices_IndexFunc_Own_of_i_Tags_own_1_L0 fl a0 a1_0 fuel v1 = some o0_0) (fun | (_, v1) => [(0, .slice p0_0 ((a0).length) c0_0), (1, .func (.func 85) #[] #[.pointer (some ⟨q1_0, 0, none⟩)]), (7, .int .i64 ((a0).length : Int)), (8, .int .i64 v1)]) (fun | (_, v1) => []) (fl, 0) eo0_0 ⟨rfl, rfl, rfl, rfl, trivial⟩ trivial (by decide) ?_)
  rintro ⟨fuel, v1⟩ H1
  have H1 : slices_IndexFunc_Own_of_i_Tags_own_1_L0 fl a0 a1_0 fuel v1 = some o0_0 := H1
  rcases fuel with _ | fuel
  ·rw [slices_IndexFunc_Own_of_i_Tags_own_1_L0.eq_1] at H1; cases H1
  rw [slices_IndexFunc_Own_of_i_Tags_own_1_L0.eq_2] at H1
  dsimp only
  refine sr (oW rfl (nn (cw_seq (cw_cond rfl (fun h2 => ?_) (fun h2 => ?_)))))
  ·have H1 := cond_t H1 h2
   obtain ⟨x3, e3, H1⟩ := bS H1
   refine cw_skip (kw_nx (cw_seq (cw_block (sr (oM rfl (oS rfl (nn (sr (oM rfl (oM rfl (oM rfl (oD (stp_indexAddr Tryz.underlying30 ts108 (by decide) rfl rfl rfl (Rdb.ro hr0_0) e3) rfl (oD (stp_loadN (us := [_, _]) ts108 rfl (Cells.el (Rdb.ro hr0_0) (by decide) e3 0 2 rfl)) rfl ?_)))))))))))))
   obtain ⟨x4, e4, H1⟩ := bS H1
   refine oE (stpU_callF (vals := [_]) (ca := [_]) (fun i => 0 + i) cf85 (fun w hw => c_i_Tags_own_1 fl w x3 q1_0 a1_0 (RO.pass hba1_0 hw) x4 e4) rfl (yA rfl)) rfl ?_
   rintro _ _ ⟨_, ⟨rfl, rfl⟩, rfl⟩
   refine nn (cw_cond rfl (fun h5 => ?_) (fun h5 => ?_))
   ·have H1 := cond_t H1 h5
    refine sr (oM rfl (oS rfl (nn (cw_ret (kw_bl_ret (kw_nx_ret (kw_lq_ret (kw_bl_ret (kw_join_ret (kw_nx_ret ?_))))))))))
    obtain rfl := sI H1
    obtain rfl := sI H0
    exact kr Tryz.results84 (rT rfl) [] ⟨rfl, rfl⟩
   have H1 := cond_f H1 h5
   obtain ⟨x6, e6, H1⟩ := bS H1
   exact cw_skip (kw_bl_normal (kw_nx (cw_region (oP e6 rfl (oM rfl (ow_nil (kw_lqS (js := []) (fuel, x6) H1 (Nat.lt_succ_self _) ⟨rfl, rfl, rfl, rfl, trivial⟩ trivial (by decide))))))))
  have H1 := cond_f H1 h2
  refine cw_exit (kw_nx_exit (kw_lq_exit (kw_bl ?_)))
  obtain rfl := sI H1
  exact kw_joinS (js := []) v1 rfl ⟨rfl, rfl, rfl, rfl, trivial⟩ trivial (by decide)
 rintro v1 rfl
 dsimp only
 refine kw_nx (sr (oS rfl (nn (cw_ret ?_))))
 obtain rfl := sI H0
 exact kr Tryz.results84 (rT rfl) [] ⟨rfl, rfl⟩
end Go.Proofs.YtcloffimpakmnaaGreatDoor
