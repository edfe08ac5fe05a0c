/- The walks: functions of the program return what their pure functions say. Printed by a program (gen.py). -/
import Derived.Test.YtcloffimpakmnaaGreatDoorXp
import Derived.Test.YtcloffimpakmnaaGreatDoorXt
import Derived.Test.YtcloffimpakmnaaGreatDoorMan
import Derived.Test.YtcloffimpakmnaaGreatDoorMap
import Derived.Test.YtcloffimpakmnaaGreatDoorCpy
import Derived.Test.YtcloffimpakmnaaGreatDoorXe
import Derived.Test.YtcloffimpakmnaaGreatDoorXwaa
import Derived.Test.YtcloffimpakmnaaGreatDoorXwab
import Derived.Test.YtcloffimpakmnaaGreatDoorXws
set_option linter.unusedSimpArgs false
set_option linter.unusedVariables false
set_option linter.unusedSectionVars false
namespace Go.Proofs.YtcloffimpakmnaaGreatDoor
open Go.RowKit
open Tryz
set_option maxHeartbeats 4000000
set_option maxRecDepth 20000
variable {p0_0 p0_1 p0_2 p0_3 p1_0 p1_1 p1_2 p1_3 : Option Addr} {n0_0 n0_1 n0_2 n0_3 n1_0 n1_1 n1_2 n1_3 : Nat} {c0_0 c0_1 c0_2 c0_3 c1_0 c1_1 c1_2 c1_3 : Nat}
theorem c_i_FillLine (fl : Nat) (w : World) (a0 : Ca) (a1 : Ln) (hn0_0 : n0_0 = (a0.l).length) (hr0_0 : RO w [] (RdL p0_0 c0_0 a0.l)) (r : Ca × Int × Bool) (H0 : i_FillLine fl a0 a1 = some r) :
  Ct prog 35 [.agg #[.slice p0_0 n0_0 c0_0, I a0.h], .agg #[.bool a1.va, I a1.tg, I a1.pg, I a1.fr, I a1.ri, .bool a1.wi]] w [] (fun rv h' => SL 66 r.1.l fun x0 y0 z0 C0 => rv = .tuple #[.agg #[.slice x0 y0 z0, I r.1.h], I r.2.1, .bool r.2.2] ∧ h' = [(0, C0)]) := by
 subst hn0_0
 unfold i_FillLine at H0
 refine ct_of_cw func35 J ntmps35 J (Sat.refl _ _) ?_
 refine sr (oE (stpU_box 0 J J) J ?_)
 rintro _ _ ⟨b1, rfl, rfl⟩
 refine oE (stpU_box 1 J J) J ?_
 rintro _ _ ⟨b2, rfl, rfl⟩
 refine oE (stpU_alloc 2 tz29 J) J ?_
 rintro _ _ ⟨b3, rfl, rfl⟩
 obtain ⟨x4, e4, H0⟩ := bS H0
 refine oS J (ss J (oB2 0 ts29 J (oE (uC 3 cf78 (fun w hw => c_i_VictimOf fl w a0 J (rp hr0_0 hw) x4 e4) (yA J)) J ?_)))
 rintro _ _ ⟨_, ⟨rfl, rfl⟩, rfl⟩
 obtain ⟨y5, ey5, H0⟩ := bS H0
 refine oMTT J J J (oS J (sq J (oM J (oK J (oM J (ow_cutY 4 21 y5 ?_ ?_))))))
 ·rcases Bool.eq_false_or_eq_true (!x4.2) with hy5 | hy5
  ·have ey5 := cond_t ey5 hy5
   refine oO J hy5 J (oO J hy5 J (oO J hy5 J (oD (stp_pick_t J hy5 J) J ?_)))
   obtain rfl := sI ey5
   exact ow_nil (jy 4 0)
  have ey5 := cond_f ey5 hy5
  refine oG J hy5 (fA 0 u66 J ts4 J J J) J (oG J hy5 (lB 1 ts4 J J J) J (oG J hy5 (stp_not J) J (oD (stp_pick_f J hy5 J) J ?_)))
  obtain rfl := sI ey5
  exact ow_nil (jy 4 0)
 obtain ⟨y6, ey6, H0⟩ := bS H0
 refine oM J (ow_cutY 4 26 y6 ?_ ?_)
 ·rcases Bool.eq_false_or_eq_true y5 with hy6 | hy6
  ·have ey6 := cond_t ey6 hy6
   refine oO J hy6 J (oO J hy6 J (oO J hy6 J (oD (stp_pick_t J hy6 J) J ?_)))
   obtain rfl := sI ey6
   exact ow_nil (jy 4 0)
  have ey6 := cond_f ey6 hy6
  obtain ⟨x7, e7, ey6⟩ := bS ey6
  refine oG J hy6 (stp_loadN (us := [_, _, _, _, _, _]) ts66 J (Cells.box (id := 1) J 6 J)) J (ow_eff (.some J hy6) (uC 3 cf79 (fun w hw => c_i_lineValid fl w a1 x7 e7) (yA J)) J ?_)
  rintro _ _ ⟨_, ⟨rfl, rfl⟩, rfl⟩
  refine oG J hy6 (stp_not J) J (oD (stp_pick_f J hy6 J) J ?_)
  obtain rfl := sI ey6
  exact ow_nil (jy 4 0)
 obtain ⟨y8, ey8, H0⟩ := bS H0
 refine oM J (ow_cutY 8 35 y8 ?_ ?_)
 ·rcases Bool.eq_false_or_eq_true y6 with hy8 | hy8
  ·have ey8 := cond_t ey8 hy8
   refine oO J hy8 J (oO J hy8 J (oO J hy8 J (oO J hy8 J (oO J hy8 J (oO J hy8 J (oO J hy8 J (oD (stp_pick_t J hy8 J) J ?_)))))))
   obtain rfl := sI ey8
   exact ow_nil (jy 8 0)
  have ey8 := cond_f ey8 hy8
  obtain ⟨x9, e9, ey8⟩ := bS ey8
  refine oG J hy8 (stp_loadN (us := [_, _]) ts29 J (Cells.box (id := 0) J 2 J)) J (oG J hy8 (fA 1 u66 J ts3 J J J) J (oG J hy8 (lB 1 ts3 J J J) J (oG J hy8 (fA 2 u66 J ts3 J J J) J (oG J hy8 (lB 1 ts3 J J J) J (ow_eff (.some J hy8) (uC 3 cf32 (fun w hw => c_i_Cache_place fl w a0 a1.tg a1.pg J (rp hr0_0 hw) x9 e9) (yC J J J)) J ?_)))))
  rintro _ _ ⟨_, ⟨rfl, rfl⟩, rfl⟩
  refine oG J hy8 (stp_geq J J) J (oD (stp_pick_f J hy8 J) J ?_)
  obtain rfl := sI ey8
  exact ow_nil (jy 8 0)
 refine ow_nil (kw_nx (cH J H0 (fun H0 => ?_) (fun H0 => ?_)))
 ·refine sr (oD (stp_build (cs := #[sN, I 0]) sE bt29_2) J (oC2 2 ts29 J J (oS J (sR J (kA 3 ?_)))))
  obtain rfl := sI H0
  exact kr results35 (.cons (.cellN (us := [_, _]) ts29 J (Cells.box (id := 2) J 2 J)) (.cons (.tmp J) (rT J))) [3] (sl J oN0 ⟨J, J⟩)
 obtain ⟨x11, e11, H0⟩ := bS H0
 refine ks (oB2 0 ts29 J (oM J (oB6 1 ts66 J (oE (uC 4 cf80 (fun w hw => c_i_Cache_with fl w a0 x4.1 a1 J (rp hr0_0 hw) x11 e11) (yC J J J)) J ?_))))
 rintro _ _ ⟨_, ⟨p12, _, c14, C15, rfl, o15, rfl, rfl⟩, rfl⟩
 refine oE (stpU_alloc 5 tz29 J) J ?_
 rintro _ _ ⟨b16, rfl, rfl⟩
 obtain ⟨x17, e17, H0⟩ := bS H0
 refine oC2 5 ts29 J J (nq (oAL 0 u29 J ts27 J 0 J (oM J (oD (stp_indexAddr u27 ts66 (by decide) J J J (Rdb.ro hr0_0) e17) J (oA 0 u66 J ts4 J (oD (stp_load1 ts4 J (Cells.el (Rdb.ro hr0_0) (by decide) e17 0 1 J)) J (nn (cH J H0 (fun H0 => ?_) (fun H0 => ?_)))))))))
 ·obtain ⟨x19, e19, H0⟩ := bS H0
  obtain ⟨x20, e20, H0⟩ := bS H0
  obtain ⟨x21, e21, H0⟩ := bS H0
  refine cR (oM J (oP e19 J (oAL 0 u29 J ts27 J 0 J (oD (stp_len u27 J) J (oD (stp_rem J J e20) J (oA 1 u29 J ts3 J (oC2 5 ts3 J J (nq (oB2 5 ts29 J (oE (uC 6 cf37 (fun w hw => c_i_CacheValid fl w (⟨x11.l, x20⟩ : Ca) J (owp 4 J o15 hw) x21 e21) (yA J)) J ?_))))))))))
  rintro _ _ ⟨_, ⟨rfl, rfl⟩, rfl⟩
  refine oK J (nn (cH J H0 (fun H0 => ?_) (fun H0 => ?_)))
  ·refine sr (oD (stp_build (cs := #[sN, I 0]) sE bt29_2) J (oC2 2 ts29 J J (oS J (sR J (kA 6 ?_)))))
   obtain rfl := sI H0
   exact kr results35 (.cons (.cellN (us := [_, _]) ts29 J (Cells.box (id := 2) J 2 J)) (.cons (.tmp J) (rT J))) [6] (sl J oN0 ⟨J, J⟩)
  refine ks (oB2 5 ts29 J (oM J (oC2 2 ts29 J J (oS J (sn J (cw_ret ?_))))))
  obtain rfl := sI H0
  exact kr results35 (.cons (.cellN (us := [_, _]) ts29 J (Cells.box (id := 2) J 2 J)) (.cons (.tmp J) (rT J))) [4] (sl J o15 ⟨J, J⟩)
 obtain ⟨x23, e23, H0⟩ := bS H0
 refine kq (sr (oB2 5 ts29 J (oE (uC 7 cf37 (fun w hw => c_i_CacheValid fl w x11 J (owp 4 J o15 hw) x23 e23) (yA J)) J ?_)))
 rintro _ _ ⟨_, ⟨rfl, rfl⟩, rfl⟩
 refine oK J (nn (cH J H0 (fun H0 => ?_) (fun H0 => ?_)))
 ·refine sr (oD (stp_build (cs := #[sN, I 0]) sE bt29_2) J (oC2 2 ts29 J J (oS J (sR J (kA 7 ?_)))))
  obtain rfl := sI H0
  exact kr results35 (.cons (.cellN (us := [_, _]) ts29 J (Cells.box (id := 2) J 2 J)) (.cons (.tmp J) (rT J))) [7] (sl J oN0 ⟨J, J⟩)
 refine ks (oB2 5 ts29 J (oM J (oC2 2 ts29 J J (oS J (sn J (cw_ret ?_))))))
 obtain rfl := sI H0
 exact kr results35 (.cons (.cellN (us := [_, _]) ts29 J (Cells.box (id := 2) J 2 J)) (.cons (.tmp J) (rT J))) [4] (sl J o15 ⟨J, J⟩)

theorem c_i_TouchPage (fl : Nat) (w : World) (a0 : Mc) (a1 : Int) (a2 : Int) (hn0_0 : n0_0 = (a0.t.b).length) (hr0_0 : RO w [] (RdL p0_0 c0_0 a0.t.b)) (hn0_1 : n0_1 = (a0.t.f).length) (hr0_1 : RO w [] (RdL p0_1 c0_1 a0.t.f)) (hn0_2 : n0_2 = (a0.c.l).length) (hr0_2 : RO w [] (RdL p0_2 c0_2 a0.c.l)) (hn0_3 : n0_3 = (a0.g.o).length) (hr0_3 : RO w [] (RdL p0_3 c0_3 a0.g.o)) (hg : RO w [] (fun w' => w'.rangeAt 0 0 [.bool false, I 0, I 0, I 0, I (-1)])) (r : Mc × Int × Int × Bool) (H0 : i_TouchPage fl a0 a1 a2 = some r) :
  Ct prog 10 [.agg #[.slice p0_0 n0_0 c0_0, .slice p0_1 n0_1 c0_1, .slice p0_2 n0_2 c0_2, I a0.c.h, I a0.g.c, I a0.g.n, I a0.g.r, .slice p0_3 n0_3 c0_3, I a0.s], I a1, I a2] w [] (fun rv h' => SL 3 r.1.t.b fun x0 y0 z0 C0 => SL 74 r.1.t.f fun x1 y1 z1 C1 => SL 66 r.1.c.l fun x2 y2 z2 C2 => SL 108 r.1.g.o fun x3 y3 z3 C3 => rv = .tuple #[.agg #[.slice x0 y0 z0, .slice x1 y1 z1, .slice x2 y2 z2, I r.1.c.h, I r.1.g.c, I r.1.g.n, I r.1.g.r, .slice x3 y3 z3, I r.1.s], I r.2.1, I r.2.2.1, .bool r.2.2.2] ∧ h' = [(0, C0), (1, C1), (2, C2), (3, C3)]) := by
 subst hn0_0 hn0_1 hn0_2 hn0_3
 unfold i_TouchPage at H0
 refine ct_of_cw func10 J ntmps10 J (Sat.refl _ _) ?_
 refine sr (oE (stpU_box 0 J J) J ?_)
 rintro _ _ ⟨b1, rfl, rfl⟩
 refine oE (stpU_alloc 1 tz34 J) J ?_
 rintro _ _ ⟨b2, rfl, rfl⟩
 obtain ⟨x3, e3, H0⟩ := bS H0
 refine oS J (oS J (sq J (oB9 0 ts34 J (oE (uC 2 cf12 (fun w hw => c_i_MachineValid fl w a0 J (rp hr0_0 hw) J (rp hr0_1 hw) J (rp hr0_2 hw) J (rp hr0_3 hw) (rp hg hw) x3 e3) (yA J)) J ?_))))
 rintro _ _ ⟨_, ⟨rfl, rfl⟩, rfl⟩
 obtain ⟨y4, ey4, H0⟩ := bS H0
 refine oK J (oM J (ow_cutY 4 27 y4 ?_ ?_))
 ·rcases Bool.eq_false_or_eq_true (!x3) with hy4 | hy4
  ·have ey4 := cond_t ey4 hy4
   refine oO J hy4 J (oO J hy4 J (oO J hy4 J (oD (stp_pick_t J hy4 J) J ?_)))
   obtain rfl := sI ey4
   exact ow_nil (jy 4 0)
  have ey4 := cond_f ey4 hy4
  obtain ⟨x5, e5, ey4⟩ := bS ey4
  refine oG J hy4 (mv J) J (ow_eff (.some J hy4) (uC 2 cf29 (fun w hw => c_i_within fl w a1 256 x5 e5) (yB J J)) J ?_)
  rintro _ _ ⟨_, ⟨rfl, rfl⟩, rfl⟩
  refine oG J hy4 (stp_not J) J (oD (stp_pick_f J hy4 J) J ?_)
  obtain rfl := sI ey4
  exact ow_nil (jy 4 0)
 obtain ⟨y6, ey6, H0⟩ := bS H0
 refine oM J (ow_cutY 4 32 y6 ?_ ?_)
 ·rcases Bool.eq_false_or_eq_true y4 with hy6 | hy6
  ·have ey6 := cond_t ey6 hy6
   refine oO J hy6 J (oO J hy6 J (oO J hy6 J (oD (stp_pick_t J hy6 J) J ?_)))
   obtain rfl := sI ey6
   exact ow_nil (jy 4 0)
  have ey6 := cond_f ey6 hy6
  obtain ⟨x7, e7, ey6⟩ := bS ey6
  refine oG J hy6 (mv J) J (ow_eff (.some J hy6) (uC 2 cf30 (fun w hw => c_i_RightsValid fl w a2 x7 e7) (yA J)) J ?_)
  rintro _ _ ⟨_, ⟨rfl, rfl⟩, rfl⟩
  refine oG J hy6 (stp_not J) J (oD (stp_pick_f J hy6 J) J ?_)
  obtain rfl := sI ey6
  exact ow_nil (jy 4 0)
 refine ow_nil (kw_nx (cH J H0 (fun H0 => ?_) (fun H0 => ?_)))
 ·refine sr (oD (stp_build (cs := #[sN, sN, sN, I 0, I 0, I 0, I 0, sN, I 0]) sE bt34_6) J (oC9 1 ts34 J J (oS J (oS J (sR J (kA 2 (kA 3 (kA 4 (kA 5 ?_)))))))))
  obtain rfl := sI H0
  exact kr results10 (.cons (.cellN (us := [_, _, _, _, _, _, _, _, _]) ts34 J (Cells.box (id := 1) J 9 J)) (.cons (.tmp J) (.cons (.tmp J) (rT J)))) [2, 3, 4, 5] (sl J oN0 (sl J oN0 (sl J oN0 (sl J oN0 ⟨J, J⟩))))
 obtain ⟨x9, e9, H0⟩ := bS H0
 refine ks (oB9 0 ts34 J (oE (uC 6 cf28 (fun w hw => c_i_Machine_clone fl w a0 J (rp hr0_0 hw) J (rp hr0_1 hw) J (rp hr0_2 hw) J (rp hr0_3 hw) x9 e9) (yA J)) J ?_))
 rintro _ _ ⟨_, ⟨p10, _, c12, C13, rfl, o13, p14, _, c16, C17, rfl, o17, p18, _, c20, C21, rfl, o21, p22, _, c24, C25, rfl, o25, rfl, rfl⟩, rfl⟩
 refine oE (stpU_alloc 10 tz34 J) J ?_
 rintro _ _ ⟨b26, rfl, rfl⟩
 obtain ⟨x27, e27, H0⟩ := bS H0
 refine oC9 10 ts34 J J (ns (oB9 0 ts34 J (oAL 8 u34 J ts3 J 0 J (oM J (oE (uC 11 cf31 (fun w hw => c_i_Machine_tagFor fl w a0 a0.s a1 J (rp hr0_0 hw) J (rp hr0_1 hw) J (rp hr0_2 hw) J (rp hr0_3 hw) x27 e27) (yC J J J)) J ?_)))))
 rintro _ _ ⟨_, ⟨rfl, rfl⟩, rfl⟩
 refine oMTT J J J (oS J (ss J (oS J (oS J (sq J (oA 2 u34 J ts29 J ?_))))))
 obtain ⟨x28, e28, H0⟩ := bS H0
 refine oB2 0 ts29 J (oM J (oM J (oE (uC 11 cf32 (fun w hw => c_i_Cache_place fl w a0.c x27.1 a1 J (rp hr0_2 hw) x28 e28) (yC J J J)) J ?_)))
 rintro _ _ ⟨_, ⟨rfl, rfl⟩, rfl⟩
 refine ss J (oM J (oI J (nn (cH J H0 (fun H0 => ?_) (fun H0 => ?_)))))
 ·obtain ⟨x30, e30, H0⟩ := bS H0
  refine rdt g_mixed (rn 0 16) ⟨[[],[],[0],[],[],[],[],[],[],[0]], [], []⟩ (dA 2 J u34 J ts29 J (dA 0 J u29 J ts27 J (dL 0 ts27 J (dM J (dD J (stp_indexAddr u27 ts66 (by decide) J J J (Rdb.ro hr0_2) e30) (dA 3 J u66 J ts3 J (dD J (stp_load1 ts3 J (Cells.el (Rdb.ro hr0_2) (by decide) e30 3 1 J)) (dA 2 J u34 J ts29 J (dA 0 J u29 J ts27 J (dL 0 ts27 J (dM J (dD J (stp_indexAddr u27 ts66 (by decide) J J J (Rdb.ro hr0_2) e30) (dA 4 J u66 J ts3 J ?_)))))))))))))
  obtain ⟨x31, e31, H0⟩ := bS H0
  refine dD J (stp_load1 ts3 J (Cells.el (Rdb.ro hr0_2) (by decide) e30 4 1 J)) (dS J (dS J (dn (kw_nx (csr (oM J (oM J (oE (uC 11 cf11 (fun w hw => c_i_Allows fl w x30.ri a2 x31 e31) (yB J J)) J ?_))))))))
  rintro _ _ ⟨_, ⟨rfl, rfl⟩, rfl⟩
  refine oK J (nn (cH J H0 (fun H0 => ?_) (fun H0 => ?_)))
  ·refine cR (ss J (oB9 10 ts34 J (oM J (oM J (oC9 1 ts34 J J (oS J (oS J (sn J (cw_ret ?_)))))))))
   obtain rfl := sI H0
   exact kr results10 (.cons (.cellN (us := [_, _, _, _, _, _, _, _, _]) ts34 J (Cells.box (id := 1) J 9 J)) (.cons (.tmp J) (.cons (.tmp J) (rT J)))) [6, 7, 8, 9] (sl J o13 (sl J o17 (sl J o21 (sl J o25 ⟨J, J⟩))))
  refine ks (oB9 10 ts34 J (oM J (oM J (oC9 1 ts34 J J (oS J (oS J (sn J (cw_ret ?_))))))))
  obtain rfl := sI H0
  exact kr results10 (.cons (.cellN (us := [_, _, _, _, _, _, _, _, _]) ts34 J (Cells.box (id := 1) J 9 J)) (.cons (.tmp J) (.cons (.tmp J) (rT J)))) [6, 7, 8, 9] (sl J o13 (sl J o17 (sl J o21 (sl J o25 ⟨J, J⟩))))
 obtain ⟨x33, e33, H0⟩ := bS H0
 obtain ⟨x34, e34, H0⟩ := bS H0
 refine cq (rdt g_mixed (rn 0 8) ⟨[[],[0],[],[0]], [], []⟩ (dA 0 J u34 J ts26 J (dB2 0 ts26 J (dA 8 J u34 J ts3 J (dL 0 ts3 J (dM J (dV J (fun hh => uC 11 cf34 (fun w hw => c_i_KeyFor fl w a0.s a1 x33 e33) (yB J J)) J (dV J (fun hh => uC 11 cf33 (fun w hw => c_i_Table_find fl w a0.t x33 J (rp hr0_0 hw) J (rp hr0_1 hw) x34 e34) (yB J J)) J (dS J (dn (kw_nx (cq (sr ?_)))))))))))))
 refine oM J (oW J (nn (cH J H0 (fun H0 => ?_) (fun H0 => ?_))))
 ·refine sr (oB9 10 ts34 J (oC9 1 ts34 J J (oS J (oS J (sR J (kR ?_))))))
  obtain rfl := sI H0
  exact kr results10 (.cons (.cellN (us := [_, _, _, _, _, _, _, _, _]) ts34 J (Cells.box (id := 1) J 9 J)) (.cons (.tmp J) (.cons (.tmp J) (rT J)))) [6, 7, 8, 9] (sl J o13 (sl J o17 (sl J o21 (sl J o25 ⟨J, J⟩))))
 obtain ⟨x36, e36, H0⟩ := bS H0
 refine kq (rdt g_mixed (rn 0 9) ⟨[[],[],[0]], [], []⟩ (dA 0 J u34 J ts26 J (dA 1 J u26 J ts24 J (dL 0 ts24 J (dM J (dD J (stp_indexAddr u24 ts74 (by decide) J J J (Rdb.ro hr0_1) e36) (dA 3 J u74 J ts3 J (dD J (stp_load1 ts3 J (Cells.el (Rdb.ro hr0_1) (by decide) e36 3 1 J)) (dS J (dS J (dn ?_)))))))))))
 obtain ⟨x37, e37, H0⟩ := bS H0
 refine kw_nx (sr (oA 2 u34 J ts29 J (oB2 10 ts29 J (oM J (oM J (oM J (oM J (oD (stp_build (cs := #[.bool true, I x27.1, I a1, I x34, I x36.r, .bool false]) (sP J (sP J (sP J (sP J (sP J (sP J sE)))))) bt66_19) J (oE (uC 11 cf35 (fun w hw => c_i_FillLine fl w x9.c (⟨true, x27.1, a1, x34, x36.r, false⟩ : Ln) J (owp 8 J o21 hw) x37 e37) (yB J J)) J ?_)))))))))
 rintro _ _ ⟨_, ⟨p38, _, c40, C41, rfl, o41, rfl, rfl⟩, rfl⟩
 refine oMTT J J J (oT J (oE (stpU_alloc 12 tz29 J) J ?_))
 rintro _ _ ⟨b42, rfl, rfl⟩
 refine oC2 12 ts29 J J (oS J (sq J (oM J (oK J (nn (cH J H0 (fun H0 => ?_) (fun H0 => ?_)))))))
 ·refine sr (oD (stp_build (cs := #[sN, sN, sN, I 0, I 0, I 0, I 0, sN, I 0]) sE bt34_6) J (oC9 1 ts34 J J (oS J (oS J (sR J (kR (kA 13 (kA 14 (kA 15 (kA 16 ?_))))))))))
  obtain rfl := sI H0
  exact kr results10 (.cons (.cellN (us := [_, _, _, _, _, _, _, _, _]) ts34 J (Cells.box (id := 1) J 9 J)) (.cons (.tmp J) (.cons (.tmp J) (rT J)))) [13, 14, 15, 16] (sl J oN0 (sl J oN0 (sl J oN0 (sl J oN0 ⟨J, J⟩))))
 obtain ⟨x44, e44, H0⟩ := bS H0
 refine kz (cR (oB2 12 ts29 J (oA 2 u34 J ts29 J (oC9 10 ts29 J J (nq (oM J (oM J (oE (uC 17 cf11 (fun w hw => c_i_Allows fl w x36.r a2 x44 e44) (yB J J)) J ?_))))))))
 rintro _ _ ⟨_, ⟨rfl, rfl⟩, rfl⟩
 refine oK J (nn (cH J H0 (fun H0 => ?_) (fun H0 => ?_)))
 ·refine cR (ss J (oB9 10 ts34 J (oM J (oM J (oC9 1 ts34 J J (oS J (oS J (sn J (cw_ret ?_)))))))))
  obtain rfl := sI H0
  exact kr results10 (.cons (.cellN (us := [_, _, _, _, _, _, _, _, _]) ts34 J (Cells.box (id := 1) J 9 J)) (.cons (.tmp J) (.cons (.tmp J) (rT J)))) [6, 7, 11, 9] (sl J o13 (sl J o17 (sl J o41 (sl J o25 ⟨J, J⟩))))
 refine ks (oB9 10 ts34 J (oM J (oM J (oC9 1 ts34 J J (oS J (oS J (sn J (cw_ret ?_))))))))
 obtain rfl := sI H0
 exact kr results10 (.cons (.cellN (us := [_, _, _, _, _, _, _, _, _]) ts34 J (Cells.box (id := 1) J 9 J)) (.cons (.tmp J) (.cons (.tmp J) (rT J)))) [6, 7, 11, 9] (sl J o13 (sl J o17 (sl J o41 (sl J o25 ⟨J, J⟩))))

theorem c_i_WireLine (fl : Nat) (w : World) (a0 : Ca) (a1 : Int) (a2 : Bool) (hn0_0 : n0_0 = (a0.l).length) (hr0_0 : RO w [] (RdL p0_0 c0_0 a0.l)) (r : Ca × Bool) (H0 : i_WireLine fl a0 a1 a2 = some r) :
  Ct prog 42 [.agg #[.slice p0_0 n0_0 c0_0, I a0.h], I a1, .bool a2] w [] (fun rv h' => SL 66 r.1.l fun x0 y0 z0 C0 => rv = .tuple #[.agg #[.slice x0 y0 z0, I r.1.h], .bool r.2] ∧ h' = [(0, C0)]) := by
 subst hn0_0
 unfold i_WireLine at H0
 refine ct_of_cw func42 J ntmps42 J (Sat.refl _ _) ?_
 refine sr (oE (stpU_box 0 J J) J ?_)
 rintro _ _ ⟨b1, rfl, rfl⟩
 refine oE (stpU_alloc 1 tz29 J) J ?_
 rintro _ _ ⟨b2, rfl, rfl⟩
 obtain ⟨x3, e3, H0⟩ := bS H0
 refine sq J (oB2 0 ts29 J (oE (uC 2 cf37 (fun w hw => c_i_CacheValid fl w a0 J (rp hr0_0 hw) x3 e3) (yA J)) J ?_))
 rintro _ _ ⟨_, ⟨rfl, rfl⟩, rfl⟩
 obtain ⟨y4, ey4, H0⟩ := bS H0
 refine oK J (oM J (ow_cutY 7 20 y4 ?_ ?_))
 ·rcases Bool.eq_false_or_eq_true (!x3) with hy4 | hy4
  ·have ey4 := cond_t ey4 hy4
   refine oO J hy4 J (oO J hy4 J (oO J hy4 J (oO J hy4 J (oO J hy4 J (oO J hy4 J (oD (stp_pick_t J hy4 J) J ?_))))))
   obtain rfl := sI ey4
   exact ow_nil (jy 7 0)
  have ey4 := cond_f ey4 hy4
  obtain ⟨x5, e5, ey4⟩ := bS ey4
  refine oG J hy4 (mv J) J (oG J hy4 (fA 0 u29 J ts27 J J J) J (oG J hy4 (lB 0 ts27 J J J) J (oG J hy4 (stp_len u27 J) J (ow_eff (.some J hy4) (uC 2 cf29 (fun w hw => c_i_within fl w a1 ((a0.l).length : Int) x5 e5) (yB J J)) J ?_))))
  rintro _ _ ⟨_, ⟨rfl, rfl⟩, rfl⟩
  refine oG J hy4 (stp_not J) J (oD (stp_pick_f J hy4 J) J ?_)
  obtain rfl := sI ey4
  exact ow_nil (jy 7 0)
 obtain ⟨y6, ey6, H0⟩ := bS H0
 refine oM J (ow_cutY 8 29 y6 ?_ ?_)
 ·rcases Bool.eq_false_or_eq_true y4 with hy6 | hy6
  ·have ey6 := cond_t ey6 hy6
   refine oO J hy6 J (oO J hy6 J (oO J hy6 J (oO J hy6 J (oO J hy6 J (oO J hy6 J (oO J hy6 J (oD (stp_pick_t J hy6 J) J ?_)))))))
   obtain rfl := sI ey6
   exact ow_nil (jy 8 0)
  have ey6 := cond_f ey6 hy6
  obtain ⟨x7, e7, ey6⟩ := bS ey6
  refine oG J hy6 (fA 0 u29 J ts27 J J J) J (oG J hy6 (lB 0 ts27 J J J) J (oG J hy6 (mv J) J (oG J hy6 (stp_indexAddr u27 ts66 (by decide) J J J (Rdb.ro hr0_0) e7) J (oG J hy6 (fA 0 u66 J ts4 J J J) J (oG J hy6 (stp_load1 ts4 J (Cells.el (Rdb.ro hr0_0) (by decide) e7 0 1 J)) J (oG J hy6 (stp_not J) J (oD (stp_pick_f J hy6 J) J ?_)))))))
  obtain rfl := sI ey6
  exact ow_nil (jy 8 0)
 refine ow_nil (kw_nx (cH J H0 (fun H0 => ?_) (fun H0 => ?_)))
 ·refine sr (oD (stp_build (cs := #[sN, I 0]) sE bt29_2) J (oC2 1 ts29 J J (sR J (kA 2 ?_))))
  obtain rfl := sI H0
  exact kr results42 (.cons (.cellN (us := [_, _]) ts29 J (Cells.box (id := 1) J 2 J)) (rT J)) [2] (sl J oN0 ⟨J, J⟩)
 obtain ⟨x9, e9, H0⟩ := bS H0
 refine ks (oAL 0 u29 J ts27 J 0 J (oM J (oD (stp_indexAddr u27 ts66 (by decide) J J J (Rdb.ro hr0_0) e9) J (oD (stp_loadN (us := [_, _, _, _, _, _]) ts66 J (Cells.el (Rdb.ro hr0_0) (by decide) e9 0 6 J)) J (oE (stpU_alloc 3 tz66 J) J ?_)))))
 rintro _ _ ⟨b10, rfl, rfl⟩
 obtain ⟨x11, e11, H0⟩ := bS H0
 refine oC6 3 ts66 J J (ns (oM J (oA 5 u66 J ts4 J (oC6 3 ts4 J J (ns (oB2 0 ts29 J (oM J (oB6 3 ts66 J (oE (uC 4 cf80 (fun w hw => c_i_Cache_with fl w a0 a1 (⟨x9.va, x9.tg, x9.pg, x9.fr, x9.ri, a2⟩ : Ln) J (rp hr0_0 hw) x11 e11) (yC J J J)) J ?_)))))))))
 rintro _ _ ⟨_, ⟨p12, _, c14, C15, rfl, o15, rfl, rfl⟩, rfl⟩
 refine oE (stpU_alloc 5 tz29 J) J ?_
 rintro _ _ ⟨b16, rfl, rfl⟩
 obtain ⟨x17, e17, H0⟩ := bS H0
 refine oC2 5 ts29 J J (nq (oB2 5 ts29 J (oE (uC 6 cf37 (fun w hw => c_i_CacheValid fl w x11 J (owp 4 J o15 hw) x17 e17) (yA J)) J ?_)))
 rintro _ _ ⟨_, ⟨rfl, rfl⟩, rfl⟩
 refine oK J (nn (cH J H0 (fun H0 => ?_) (fun H0 => ?_)))
 ·refine sr (oD (stp_build (cs := #[sN, I 0]) sE bt29_2) J (oC2 1 ts29 J J (sR J (kA 6 ?_))))
  obtain rfl := sI H0
  exact kr results42 (.cons (.cellN (us := [_, _]) ts29 J (Cells.box (id := 1) J 2 J)) (rT J)) [6] (sl J oN0 ⟨J, J⟩)
 refine ks (oB2 5 ts29 J (oC2 1 ts29 J J (sn J (cw_ret ?_))))
 obtain rfl := sI H0
 exact kr results42 (.cons (.cellN (us := [_, _]) ts29 J (Cells.box (id := 1) J 2 J)) (rT J)) [4] (sl J o15 ⟨J, J⟩)

theorem c_i_WirePage (fl : Nat) (w : World) (a0 : Mc) (a1 : Int) (hn0_0 : n0_0 = (a0.t.b).length) (hr0_0 : RO w [] (RdL p0_0 c0_0 a0.t.b)) (hn0_1 : n0_1 = (a0.t.f).length) (hr0_1 : RO w [] (RdL p0_1 c0_1 a0.t.f)) (hn0_2 : n0_2 = (a0.c.l).length) (hr0_2 : RO w [] (RdL p0_2 c0_2 a0.c.l)) (hn0_3 : n0_3 = (a0.g.o).length) (hr0_3 : RO w [] (RdL p0_3 c0_3 a0.g.o)) (hg : RO w [] (fun w' => w'.rangeAt 0 0 [.bool false, I 0, I 0, I 0, I (-1)])) (r : Mc × Bool) (H0 : i_WirePage fl a0 a1 = some r) :
  Ct prog 14 [.agg #[.slice p0_0 n0_0 c0_0, .slice p0_1 n0_1 c0_1, .slice p0_2 n0_2 c0_2, I a0.c.h, I a0.g.c, I a0.g.n, I a0.g.r, .slice p0_3 n0_3 c0_3, I a0.s], I a1] w [] (fun rv h' => SL 3 r.1.t.b fun x0 y0 z0 C0 => SL 74 r.1.t.f fun x1 y1 z1 C1 => SL 66 r.1.c.l fun x2 y2 z2 C2 => SL 108 r.1.g.o fun x3 y3 z3 C3 => rv = .tuple #[.agg #[.slice x0 y0 z0, .slice x1 y1 z1, .slice x2 y2 z2, I r.1.c.h, I r.1.g.c, I r.1.g.n, I r.1.g.r, .slice x3 y3 z3, I r.1.s], .bool r.2] ∧ h' = [(0, C0), (1, C1), (2, C2), (3, C3)]) := by
 subst hn0_0 hn0_1 hn0_2 hn0_3
 unfold i_WirePage at H0
 refine ct_of_cw func14 J ntmps14 J (Sat.refl _ _) ?_
 refine sr (oE (stpU_box 0 J J) J ?_)
 rintro _ _ ⟨b1, rfl, rfl⟩
 refine oE (stpU_alloc 1 tz34 J) J ?_
 rintro _ _ ⟨b2, rfl, rfl⟩
 obtain ⟨x3, e3, H0⟩ := bS H0
 refine ss J (oB9 0 ts34 J (oM J (oE (uC 2 cf10 (fun w hw => c_i_TouchPage fl w a0 a1 0 J (rp hr0_0 hw) J (rp hr0_1 hw) J (rp hr0_2 hw) J (rp hr0_3 hw) (rp hg hw) x3 e3) (yC J J J)) J ?_)))
 rintro _ _ ⟨_, ⟨p4, _, c6, C7, rfl, o7, p8, _, c10, C11, rfl, o11, p12, _, c14, C15, rfl, o15, p16, _, c18, C19, rfl, o19, rfl, rfl⟩, rfl⟩
 refine oMTT J J J (oT J (oT J (oE (stpU_alloc 6 tz34 J) J ?_)))
 rintro _ _ ⟨b20, rfl, rfl⟩
 obtain ⟨y21, ey21, H0⟩ := bS H0
 refine oC9 6 ts34 J J (oS J (oS J (sq J (oM J (oK J (oM J (ow_cutY 3 25 y21 ?_ ?_)))))))
 ·rcases Bool.eq_false_or_eq_true (!x3.2.2.2) with hy21 | hy21
  ·have ey21 := cond_t ey21 hy21
   refine oO J hy21 J (oO J hy21 J (oD (stp_pick_t J hy21 J) J ?_))
   obtain rfl := sI ey21
   exact ow_nil (jy 3 0)
  have ey21 := cond_f ey21 hy21
  refine oG J hy21 (mv J) J (oG J hy21 (stp_lss J J) J (oD (stp_pick_f J hy21 J) J ?_))
  obtain rfl := sI ey21
  exact ow_nil (jy 3 0)
 obtain ⟨y22, ey22, H0⟩ := bS H0
 refine oM J (ow_cutY 3 29 y22 ?_ ?_)
 ·rcases Bool.eq_false_or_eq_true y21 with hy22 | hy22
  ·have ey22 := cond_t ey22 hy22
   refine oO J hy22 J (oO J hy22 J (oD (stp_pick_t J hy22 J) J ?_))
   obtain rfl := sI ey22
   exact ow_nil (jy 3 0)
  have ey22 := cond_f ey22 hy22
  refine oG J hy22 (mv J) J (oG J hy22 (stp_eql J J) J (oD (stp_pick_f J hy22 J) J ?_))
  obtain rfl := sI ey22
  exact ow_nil (jy 3 0)
 refine ow_nil (kw_nx (cH J H0 (fun H0 => ?_) (fun H0 => ?_)))
 ·refine sr (oD (stp_build (cs := #[sN, sN, sN, I 0, I 0, I 0, I 0, sN, I 0]) sE bt34_6) J (oC9 1 ts34 J J (sR J (kA 7 (kA 8 (kA 9 (kA 10 ?_)))))))
  obtain rfl := sI H0
  exact kr results14 (.cons (.cellN (us := [_, _, _, _, _, _, _, _, _]) ts34 J (Cells.box (id := 1) J 9 J)) (rT J)) [7, 8, 9, 10] (sl J oN0 (sl J oN0 (sl J oN0 (sl J oN0 ⟨J, J⟩))))
 obtain ⟨x24, e24, H0⟩ := bS H0
 obtain ⟨x25, e25, H0⟩ := bS H0
 refine kq (rdt g_mixed [.n 0, .n 1, .n 2, .n 3, .n 4, .n 5, .d 6, .d 10, .o 6, .n 7, .n 8, .n 9, .o 10, .n 11, .n 12] ⟨[[],[6],[],[6],[],[4],[4],[],[],[],[],[12]], [[],[],[],[],[],[],[11],[],[],[],[12],[12]], [6,10]⟩ (dA 2 J u34 J ts29 J (dB2 6 ts29 J (dA 2 J u34 J ts29 J (dB2 6 ts29 J (dM J (dV J (fun hh => uC 11 cf32 (fun w hw => c_i_Cache_place fl w x3.1.c (-1) a1 J (owp 4 (hh _ _ J) o15 hw) x24 e24) (yC J J J)) J (dq J (fun hh => uC 11 cf42 (fun w hw => c_i_WireLine fl w x3.1.c x24 true J (owp 4 (hh _ _ J) o15 hw) x25 e25) (yC J J J)) (by rintro _ _ ⟨_, ⟨_, _, _, _, _, _, rfl, rfl⟩, rfl⟩; rfl) (dq J (fun hh => stpU_alloc 12 tz29 J) (by rintro _ _ ⟨_, rfl, rfl⟩; rfl) (dp J ?_))))))))))
 rintro _ _ ⟨_, ⟨p26, _, c28, C29, rfl, o29, rfl, rfl⟩, rfl⟩
 refine dM J (dT J (dT J (dp J ?_)))
 rintro _ _ ⟨b30, rfl, rfl⟩
 refine dC2 12 ts29 J J J (dS J (dn (kw_nx (csr (oM J (oK J (nn (cH J H0 (fun H0 => ?_) (fun H0 => ?_)))))))))
 ·refine sr (oD (stp_build (cs := #[sN, sN, sN, I 0, I 0, I 0, I 0, sN, I 0]) sE bt34_6) J (oC9 1 ts34 J J (sR J (kA 13 (kA 14 (kA 15 (kA 16 ?_)))))))
  obtain rfl := sI H0
  exact kr results14 (.cons (.cellN (us := [_, _, _, _, _, _, _, _, _]) ts34 J (Cells.box (id := 1) J 9 J)) (rT J)) [13, 14, 15, 16] (sl J oN0 (sl J oN0 (sl J oN0 (sl J oN0 ⟨J, J⟩))))
 refine ks (oB2 12 ts29 J (oA 2 u34 J ts29 J (oC9 6 ts29 J J (ns (oB9 6 ts34 J (oC9 1 ts34 J J (sn J (cw_ret ?_))))))))
 obtain rfl := sI H0
 exact kr results14 (.cons (.cellN (us := [_, _, _, _, _, _, _, _, _]) ts34 J (Cells.box (id := 1) J 9 J)) (rT J)) [2, 3, 11, 5] (sl J o7 (sl J o11 (sl J o29 (sl J o19 ⟨J, J⟩))))

theorem c_slices_Equal_Int (fl : Nat) (w : World) (a0 : (List Int)) (a1 : (List Int)) (hn0_0 : n0_0 = (a0).length) (hr0_0 : RO w [] (RdL p0_0 c0_0 a0)) (hn1_0 : n1_0 = (a1).length) (hr1_0 : RO w [] (RdL p1_0 c1_0 a1)) (r : Bool) (H0 : slices_Equal_Int fl a0 a1 = some r) :
  Ct prog 65 [.slice p0_0 n0_0 c0_0, .slice p1_0 n1_0 c1_0] w [] (fun rv h' => rv = .bool r ∧ h' = []) := by
 subst hn0_0 hn1_0
 unfold slices_Equal_Int at H0
 refine ct_of_cw func65 J ntmps65 J (Sat.refl _ _) ?_
 refine sr (sq J (oM J (oD (stp_len u23 J) J (oM J (oD (stp_len u23 J) J (oU J (nn (cH J H0 (fun H0 => ?_) (fun H0 => ?_)))))))))
 ·refine sr (sr1 J (kR ?_))
  obtain rfl := sI H0
  exact kr results65 (rT J) [] ⟨J, J⟩
 obtain ⟨o0_0, eo0_0, H0⟩ := bS H0
 refine kq (sr (oM J (oD (stp_len u23 J) J (oM J (nn (lp (fun f a => slices_Equal_Int_L0 fl a0 a1 f a = some o0_0) (fun a => o0_0 = .out a) (fun R s h => ∃ v2, R v2 ∧ s = [(0, .slice p0_0 ((a0).length) c0_0), (1, .slice p1_0 ((a1).length) c1_0), (12, I ((a0).length : Int)), (13, I v2)] ∧ h = []) ⟨_, eo0_0, J, J⟩ ?_ ?_))))))
 ·rintro fuel _ _ ⟨v2, H1, rfl, rfl⟩
  rcases fuel with _ | fuel
  ·rw [slices_Equal_Int_L0.eq_1] at H1; cases H1
  rw [slices_Equal_Int_L0.eq_2] at H1
  refine sr (oW J (nn (cq (cH J H1 (fun H1 => ?_) (fun H1 => ?_)))))
  ·obtain ⟨x4, e4, H1⟩ := bS H1
   refine kq (cw_block (sr (oM J (sn J (cq (rdt g_mixed (rn 0 9) ⟨[], [], []⟩ (dM J (dM J (dD J (stp_indexAddr u23 ts3 (by decide) J J J (Rdb.ro hr0_0) e4) (dD J (stp_load1 ts3 J (Cells.el (Rdb.ro hr0_0) (by decide) e4 0 1 J)) ?_))))))))))
   obtain ⟨x5, e5, H1⟩ := bS H1
   refine dM J (dM J (dD J (stp_indexAddr u23 ts3 (by decide) J J J (Rdb.ro hr1_0) e5) (dD J (stp_load1 ts3 J (Cells.el (Rdb.ro hr1_0) (by decide) e5 0 1 J)) (dNe J (dn (kw_nx (cH J H1 (fun H1 => ?_) (fun H1 => ?_))))))))
   ·refine sr (sr1 J (kw_bl_ret (kR (ar (kw_bl_ret (xr (kR ?_)))))))
    obtain rfl := sI H1
    obtain rfl := sI H0
    exact kr results65 (rT J) [] ⟨J, J⟩
   obtain ⟨x7, e7, H1⟩ := bS H1
   exact cw_skip (kb (cR (oP e7 J (oM J (ow_nil (ka ⟨_, H1, J, J⟩))))))
  refine cw_exit (kw_nx_exit (ax (kw_bl ?_)))
  obtain rfl := sI H1
  exact kx ⟨_, J, J, J⟩
 rintro _ _ ⟨v2, rfl, rfl, rfl⟩
 refine kw_nx (sr (sn J (cw_ret ?_)))
 obtain rfl := sI H0
 exact kr results65 (rT J) [] ⟨J, J⟩

theorem c_slices_Equal_Frame (fl : Nat) (w : World) (a0 : (List F)) (a1 : (List F)) (hn0_0 : n0_0 = (a0).length) (hr0_0 : RO w [] (RdL p0_0 c0_0 a0)) (hn1_0 : n1_0 = (a1).length) (hr1_0 : RO w [] (RdL p1_0 c1_0 a1)) (r : Bool) (H0 : slices_Equal_Frame fl a0 a1 = some r) :
  Ct prog 66 [.slice p0_0 n0_0 c0_0, .slice p1_0 n1_0 c1_0] w [] (fun rv h' => rv = .bool r ∧ h' = []) := by
 subst hn0_0 hn1_0
 unfold slices_Equal_Frame at H0
 refine ct_of_cw func66 J ntmps66 J (Sat.refl _ _) ?_
 refine sr (sq J (oM J (oD (stp_len u24 J) J (oM J (oD (stp_len u24 J) J (oU J (nn (cH J H0 (fun H0 => ?_) (fun H0 => ?_)))))))))
 ·refine sr (sr1 J (kR ?_))
  obtain rfl := sI H0
  exact kr results66 (rT J) [] ⟨J, J⟩
 obtain ⟨o0_0, eo0_0, H0⟩ := bS H0
 refine kq (sr (oM J (oD (stp_len u24 J) J (oM J (nn (lp (fun f a => slices_Equal_Frame_L0 fl a0 a1 f a = some o0_0) (fun a => o0_0 = .out a) (fun R s h => ∃ v2, R v2 ∧ s = [(0, .slice p0_0 ((a0).length) c0_0), (1, .slice p1_0 ((a1).length) c1_0), (12, I ((a0).length : Int)), (13, I v2)] ∧ h = []) ⟨_, eo0_0, J, J⟩ ?_ ?_))))))
 ·rintro fuel _ _ ⟨v2, H1, rfl, rfl⟩
  rcases fuel with _ | fuel
  ·rw [slices_Equal_Frame_L0.eq_1] at H1; cases H1
  rw [slices_Equal_Frame_L0.eq_2] at H1
  refine sr (oW J (nn (cq (cH J H1 (fun H1 => ?_) (fun H1 => ?_)))))
  ·obtain ⟨x4, e4, H1⟩ := bS H1
   refine kq (cw_block (sr (oM J (sn J (cq (rdt g_mixed (rn 0 9) ⟨[], [], []⟩ (dM J (dM J (dD J (stp_indexAddr u24 ts74 (by decide) J J J (Rdb.ro hr0_0) e4) (dD J (stp_loadN (us := [_, _, _, _, _]) ts74 J (Cells.el (Rdb.ro hr0_0) (by decide) e4 0 5 J)) ?_))))))))))
   obtain ⟨x5, e5, H1⟩ := bS H1
   refine dM J (dM J (dD J (stp_indexAddr u24 ts74 (by decide) J J J (Rdb.ro hr1_0) e5) (dD J (stp_loadN (us := [_, _, _, _, _]) ts74 J (Cells.el (Rdb.ro hr1_0) (by decide) e5 0 5 J)) (dD J (stp_neqS te74 x4 x5 J J) (dn (kw_nx (cH J H1 (fun H1 => ?_) (fun H1 => ?_))))))))
   ·refine sr (sr1 J (kw_bl_ret (kR (ar (kw_bl_ret (xr (kR ?_)))))))
    obtain rfl := sI H1
    obtain rfl := sI H0
    exact kr results66 (rT J) [] ⟨J, J⟩
   obtain ⟨x7, e7, H1⟩ := bS H1
   exact cw_skip (kb (cR (oP e7 J (oM J (ow_nil (ka ⟨_, H1, J, J⟩))))))
  refine cw_exit (kw_nx_exit (ax (kw_bl ?_)))
  obtain rfl := sI H1
  exact kx ⟨_, J, J, J⟩
 rintro _ _ ⟨v2, rfl, rfl, rfl⟩
 refine kw_nx (sr (sn J (cw_ret ?_)))
 obtain rfl := sI H0
 exact kr results66 (rT J) [] ⟨J, J⟩

theorem c_i_TableSame (fl : Nat) (w : World) (a0 : T) (a1 : T) (hn0_0 : n0_0 = (a0.b).length) (hr0_0 : RO w [] (RdL p0_0 c0_0 a0.b)) (hn0_1 : n0_1 = (a0.f).length) (hr0_1 : RO w [] (RdL p0_1 c0_1 a0.f)) (hn1_0 : n1_0 = (a1.b).length) (hr1_0 : RO w [] (RdL p1_0 c1_0 a1.b)) (hn1_1 : n1_1 = (a1.f).length) (hr1_1 : RO w [] (RdL p1_1 c1_1 a1.f)) (r : Bool) (H0 : i_TableSame fl a0 a1 = some r) :
  Ct prog 24 [.agg #[.slice p0_0 n0_0 c0_0, .slice p0_1 n0_1 c0_1], .agg #[.slice p1_0 n1_0 c1_0, .slice p1_1 n1_1 c1_1]] w [] (fun rv h' => rv = .bool r ∧ h' = []) := by
 subst hn0_0 hn0_1 hn1_0 hn1_1
 unfold i_TableSame at H0
 refine ct_of_cw func24 J ntmps24 J (Sat.refl _ _) ?_
 refine sr (oE (stpU_box 0 J J) J ?_)
 rintro _ _ ⟨b1, rfl, rfl⟩
 refine oE (stpU_box 1 J J) J ?_
 rintro _ _ ⟨b2, rfl, rfl⟩
 obtain ⟨x3, e3, H0⟩ := bS H0
 refine ss J (oAL 0 u26 J ts23 J 0 J (oAL 0 u26 J ts23 J 1 J (oE (uC 2 cf65 (fun w hw => c_slices_Equal_Int fl w a0.b a1.b J (rp hr0_0 hw) J (rp hr1_0 hw) x3 e3) (yB J J)) J ?_)))
 rintro _ _ ⟨_, ⟨rfl, rfl⟩, rfl⟩
 obtain ⟨y4, ey4, H0⟩ := bS H0
 refine oM J (ow_cutY 6 16 y4 ?_ ?_)
 ·rcases Bool.eq_false_or_eq_true x3 with hy4 | hy4
  ·have ey4 := cond_t ey4 hy4
   obtain ⟨x5, e5, ey4⟩ := bS ey4
   refine oG J hy4 (fA 1 u26 J ts24 J J J) J (oG J hy4 (lB 0 ts24 J J J) J (oG J hy4 (fA 1 u26 J ts24 J J J) J (oG J hy4 (lB 1 ts24 J J J) J (ow_eff (.some J hy4) (uC 2 cf66 (fun w hw => c_slices_Equal_Frame fl w a0.f a1.f J (rp hr0_1 hw) J (rp hr1_1 hw) x5 e5) (yB J J)) J ?_))))
   rintro _ _ ⟨_, ⟨rfl, rfl⟩, rfl⟩
   refine oD (stp_pick_t J hy4 J) J ?_
   obtain rfl := sI ey4
   exact ow_nil (jy 6 0)
  have ey4 := cond_f ey4 hy4
  refine oO J hy4 J (oO J hy4 J (oO J hy4 J (oO J hy4 J (oO J hy4 J (oD (stp_pick_f J hy4 J) J ?_)))))
  obtain rfl := sI ey4
  exact ow_nil (jy 6 0)
 refine sn J (cw_ret ?_)
 obtain rfl := sI H0
 exact kr results24 (rT J) [] ⟨J, J⟩

theorem c_slices_Equal_Line (fl : Nat) (w : World) (a0 : (List Ln)) (a1 : (List Ln)) (hn0_0 : n0_0 = (a0).length) (hr0_0 : RO w [] (RdL p0_0 c0_0 a0)) (hn1_0 : n1_0 = (a1).length) (hr1_0 : RO w [] (RdL p1_0 c1_0 a1)) (r : Bool) (H0 : slices_Equal_Line fl a0 a1 = some r) :
  Ct prog 67 [.slice p0_0 n0_0 c0_0, .slice p1_0 n1_0 c1_0] w [] (fun rv h' => rv = .bool r ∧ h' = []) := by
 subst hn0_0 hn1_0
 unfold slices_Equal_Line at H0
 refine ct_of_cw func67 J ntmps67 J (Sat.refl _ _) ?_
 refine sr (sq J (oM J (oD (stp_len u27 J) J (oM J (oD (stp_len u27 J) J (oU J (nn (cH J H0 (fun H0 => ?_) (fun H0 => ?_)))))))))
 ·refine sr (sr1 J (kR ?_))
  obtain rfl := sI H0
  exact kr results67 (rT J) [] ⟨J, J⟩
 obtain ⟨o0_0, eo0_0, H0⟩ := bS H0
 refine kq (sr (oM J (oD (stp_len u27 J) J (oM J (nn (lp (fun f a => slices_Equal_Line_L0 fl a0 a1 f a = some o0_0) (fun a => o0_0 = .out a) (fun R s h => ∃ v2, R v2 ∧ s = [(0, .slice p0_0 ((a0).length) c0_0), (1, .slice p1_0 ((a1).length) c1_0), (12, I ((a0).length : Int)), (13, I v2)] ∧ h = []) ⟨_, eo0_0, J, J⟩ ?_ ?_))))))
 ·rintro fuel _ _ ⟨v2, H1, rfl, rfl⟩
  rcases fuel with _ | fuel
  ·rw [slices_Equal_Line_L0.eq_1] at H1; cases H1
  rw [slices_Equal_Line_L0.eq_2] at H1
  refine sr (oW J (nn (cq (cH J H1 (fun H1 => ?_) (fun H1 => ?_)))))
  ·obtain ⟨x4, e4, H1⟩ := bS H1
   refine kq (cw_block (sr (oM J (sn J (cq (rdt g_mixed (rn 0 9) ⟨[], [], []⟩ (dM J (dM J (dD J (stp_indexAddr u27 ts66 (by decide) J J J (Rdb.ro hr0_0) e4) (dD J (stp_loadN (us := [_, _, _, _, _, _]) ts66 J (Cells.el (Rdb.ro hr0_0) (by decide) e4 0 6 J)) ?_))))))))))
   obtain ⟨x5, e5, H1⟩ := bS H1
   refine dM J (dM J (dD J (stp_indexAddr u27 ts66 (by decide) J J J (Rdb.ro hr1_0) e5) (dD J (stp_loadN (us := [_, _, _, _, _, _]) ts66 J (Cells.el (Rdb.ro hr1_0) (by decide) e5 0 6 J)) (dD J (stp_neqS te66 x4 x5 J J) (dn (kw_nx (cH J H1 (fun H1 => ?_) (fun H1 => ?_))))))))
   ·refine sr (sr1 J (kw_bl_ret (kR (ar (kw_bl_ret (xr (kR ?_)))))))
    obtain rfl := sI H1
    obtain rfl := sI H0
    exact kr results67 (rT J) [] ⟨J, J⟩
   obtain ⟨x7, e7, H1⟩ := bS H1
   exact cw_skip (kb (cR (oP e7 J (oM J (ow_nil (ka ⟨_, H1, J, J⟩))))))
  refine cw_exit (kw_nx_exit (ax (kw_bl ?_)))
  obtain rfl := sI H1
  exact kx ⟨_, J, J, J⟩
 rintro _ _ ⟨v2, rfl, rfl, rfl⟩
 refine kw_nx (sr (sn J (cw_ret ?_)))
 obtain rfl := sI H0
 exact kr results67 (rT J) [] ⟨J, J⟩

theorem c_i_CacheSame (fl : Nat) (w : World) (a0 : Ca) (a1 : Ca) (hn0_0 : n0_0 = (a0.l).length) (hr0_0 : RO w [] (RdL p0_0 c0_0 a0.l)) (hn1_0 : n1_0 = (a1.l).length) (hr1_0 : RO w [] (RdL p1_0 c1_0 a1.l)) (r : Bool) (H0 : i_CacheSame fl a0 a1 = some r) :
  Ct prog 25 [.agg #[.slice p0_0 n0_0 c0_0, I a0.h], .agg #[.slice p1_0 n1_0 c1_0, I a1.h]] w [] (fun rv h' => rv = .bool r ∧ h' = []) := by
 subst hn0_0 hn1_0
 unfold i_CacheSame at H0
 refine ct_of_cw func25 J ntmps25 J (Sat.refl _ _) ?_
 refine sr (oE (stpU_box 0 J J) J ?_)
 rintro _ _ ⟨b1, rfl, rfl⟩
 refine oE (stpU_box 1 J J) J ?_
 rintro _ _ ⟨b2, rfl, rfl⟩
 obtain ⟨y3, ey3, H0⟩ := bS H0
 refine ss J (oAL 1 u29 J ts3 J 0 J (oAL 1 u29 J ts3 J 1 J (oQ J (oM J (ow_cutY 6 16 y3 ?_ ?_)))))
 ·rcases Bool.eq_false_or_eq_true (a0.h == a1.h) with hy3 | hy3
  ·have ey3 := cond_t ey3 hy3
   obtain ⟨x4, e4, ey3⟩ := bS ey3
   refine oG J hy3 (fA 0 u29 J ts27 J J J) J (oG J hy3 (lB 0 ts27 J J J) J (oG J hy3 (fA 0 u29 J ts27 J J J) J (oG J hy3 (lB 1 ts27 J J J) J (ow_eff (.some J hy3) (uC 2 cf67 (fun w hw => c_slices_Equal_Line fl w a0.l a1.l J (rp hr0_0 hw) J (rp hr1_0 hw) x4 e4) (yB J J)) J ?_))))
   rintro _ _ ⟨_, ⟨rfl, rfl⟩, rfl⟩
   refine oD (stp_pick_t J hy3 J) J ?_
   obtain rfl := sI ey3
   exact ow_nil (jy 6 0)
  have ey3 := cond_f ey3 hy3
  refine oO J hy3 J (oO J hy3 J (oO J hy3 J (oO J hy3 J (oO J hy3 J (oD (stp_pick_f J hy3 J) J ?_)))))
  obtain rfl := sI ey3
  exact ow_nil (jy 6 0)
 refine sn J (cw_ret ?_)
 obtain rfl := sI H0
 exact kr results25 (rT J) [] ⟨J, J⟩

theorem c_slices_Equal_Own (fl : Nat) (w : World) (a0 : (List Ow)) (a1 : (List Ow)) (hn0_0 : n0_0 = (a0).length) (hr0_0 : RO w [] (RdL p0_0 c0_0 a0)) (hn1_0 : n1_0 = (a1).length) (hr1_0 : RO w [] (RdL p1_0 c1_0 a1)) (r : Bool) (H0 : slices_Equal_Own fl a0 a1 = some r) :
  Ct prog 68 [.slice p0_0 n0_0 c0_0, .slice p1_0 n1_0 c1_0] w [] (fun rv h' => rv = .bool r ∧ h' = []) := by
 subst hn0_0 hn1_0
 unfold slices_Equal_Own at H0
 refine ct_of_cw func68 J ntmps68 J (Sat.refl _ _) ?_
 refine sr (sq J (oM J (oD (stp_len u30 J) J (oM J (oD (stp_len u30 J) J (oU J (nn (cH J H0 (fun H0 => ?_) (fun H0 => ?_)))))))))
 ·refine sr (sr1 J (kR ?_))
  obtain rfl := sI H0
  exact kr results68 (rT J) [] ⟨J, J⟩
 obtain ⟨o0_0, eo0_0, H0⟩ := bS H0
 refine kq (sr (oM J (oD (stp_len u30 J) J (oM J (nn (lp (fun f a => slices_Equal_Own_L0 fl a0 a1 f a = some o0_0) (fun a => o0_0 = .out a) (fun R s h => ∃ v2, R v2 ∧ s = [(0, .slice p0_0 ((a0).length) c0_0), (1, .slice p1_0 ((a1).length) c1_0), (12, I ((a0).length : Int)), (13, I v2)] ∧ h = []) ⟨_, eo0_0, J, J⟩ ?_ ?_))))))
 ·rintro fuel _ _ ⟨v2, H1, rfl, rfl⟩
  rcases fuel with _ | fuel
  ·rw [slices_Equal_Own_L0.eq_1] at H1; cases H1
  rw [slices_Equal_Own_L0.eq_2] at H1
  refine sr (oW J (nn (cq (cH J H1 (fun H1 => ?_) (fun H1 => ?_)))))
  ·obtain ⟨x4, e4, H1⟩ := bS H1
   refine kq (cw_block (sr (oM J (sn J (cq (rdt g_mixed (rn 0 9) ⟨[], [], []⟩ (dM J (dM J (dD J (stp_indexAddr u30 ts108 (by decide) J J J (Rdb.ro hr0_0) e4) (dD J (stp_loadN (us := [_, _]) ts108 J (Cells.el (Rdb.ro hr0_0) (by decide) e4 0 2 J)) ?_))))))))))
   obtain ⟨x5, e5, H1⟩ := bS H1
   refine dM J (dM J (dD J (stp_indexAddr u30 ts108 (by decide) J J J (Rdb.ro hr1_0) e5) (dD J (stp_loadN (us := [_, _]) ts108 J (Cells.el (Rdb.ro hr1_0) (by decide) e5 0 2 J)) (dD J (stp_neqS te108 x4 x5 J J) (dn (kw_nx (cH J H1 (fun H1 => ?_) (fun H1 => ?_))))))))
   ·refine sr (sr1 J (kw_bl_ret (kR (ar (kw_bl_ret (xr (kR ?_)))))))
    obtain rfl := sI H1
    obtain rfl := sI H0
    exact kr results68 (rT J) [] ⟨J, J⟩
   obtain ⟨x7, e7, H1⟩ := bS H1
   exact cw_skip (kb (cR (oP e7 J (oM J (ow_nil (ka ⟨_, H1, J, J⟩))))))
  refine cw_exit (kw_nx_exit (ax (kw_bl ?_)))
  obtain rfl := sI H1
  exact kx ⟨_, J, J, J⟩
 rintro _ _ ⟨v2, rfl, rfl, rfl⟩
 refine kw_nx (sr (sn J (cw_ret ?_)))
 obtain rfl := sI H0
 exact kr results68 (rT J) [] ⟨J, J⟩

theorem c_i_TagsSame (fl : Nat) (w : World) (a0 : Tg) (a1 : Tg) (hn0_0 : n0_0 = (a0.o).length) (hr0_0 : RO w [] (RdL p0_0 c0_0 a0.o)) (hn1_0 : n1_0 = (a1.o).length) (hr1_0 : RO w [] (RdL p1_0 c1_0 a1.o)) (r : Bool) (H0 : i_TagsSame fl a0 a1 = some r) :
  Ct prog 26 [.agg #[I a0.c, I a0.n, I a0.r, .slice p0_0 n0_0 c0_0], .agg #[I a1.c, I a1.n, I a1.r, .slice p1_0 n1_0 c1_0]] w [] (fun rv h' => rv = .bool r ∧ h' = []) := by
 subst hn0_0 hn1_0
 unfold i_TagsSame at H0
 refine ct_of_cw func26 J ntmps26 J (Sat.refl _ _) ?_
 refine sr (oE (stpU_box 0 J J) J ?_)
 rintro _ _ ⟨b1, rfl, rfl⟩
 refine oE (stpU_box 1 J J) J ?_
 rintro _ _ ⟨b2, rfl, rfl⟩
 obtain ⟨y3, ey3, H0⟩ := bS H0
 refine ss J (oAL 0 u32 J ts3 J 0 J (oAL 0 u32 J ts3 J 1 J (oQ J (oM J (ow_cutY 6 16 y3 ?_ ?_)))))
 ·rcases Bool.eq_false_or_eq_true (a0.c == a1.c) with hy3 | hy3
  ·have ey3 := cond_t ey3 hy3
   refine oG J hy3 (fA 1 u32 J ts3 J J J) J (oG J hy3 (lB 0 ts3 J J J) J (oG J hy3 (fA 1 u32 J ts3 J J J) J (oG J hy3 (lB 1 ts3 J J J) J (oG J hy3 (stp_eql J J) J (oD (stp_pick_t J hy3 J) J ?_)))))
   obtain rfl := sI ey3
   exact ow_nil (jy 6 0)
  have ey3 := cond_f ey3 hy3
  refine oO J hy3 J (oO J hy3 J (oO J hy3 J (oO J hy3 J (oO J hy3 J (oD (stp_pick_f J hy3 J) J ?_)))))
  obtain rfl := sI ey3
  exact ow_nil (jy 6 0)
 obtain ⟨y4, ey4, H0⟩ := bS H0
 refine oM J (ow_cutY 6 23 y4 ?_ ?_)
 ·rcases Bool.eq_false_or_eq_true y3 with hy4 | hy4
  ·have ey4 := cond_t ey4 hy4
   refine oG J hy4 (fA 2 u32 J ts3 J J J) J (oG J hy4 (lB 0 ts3 J J J) J (oG J hy4 (fA 2 u32 J ts3 J J J) J (oG J hy4 (lB 1 ts3 J J J) J (oG J hy4 (stp_eql J J) J (oD (stp_pick_t J hy4 J) J ?_)))))
   obtain rfl := sI ey4
   exact ow_nil (jy 6 0)
  have ey4 := cond_f ey4 hy4
  refine oO J hy4 J (oO J hy4 J (oO J hy4 J (oO J hy4 J (oO J hy4 J (oD (stp_pick_f J hy4 J) J ?_)))))
  obtain rfl := sI ey4
  exact ow_nil (jy 6 0)
 obtain ⟨y5, ey5, H0⟩ := bS H0
 refine oM J (ow_cutY 6 30 y5 ?_ ?_)
 ·rcases Bool.eq_false_or_eq_true y4 with hy5 | hy5
  ·have ey5 := cond_t ey5 hy5
   obtain ⟨x6, e6, ey5⟩ := bS ey5
   refine oG J hy5 (fA 3 u32 J ts30 J J J) J (oG J hy5 (lB 0 ts30 J J J) J (oG J hy5 (fA 3 u32 J ts30 J J J) J (oG J hy5 (lB 1 ts30 J J J) J (ow_eff (.some J hy5) (uC 2 cf68 (fun w hw => c_slices_Equal_Own fl w a0.o a1.o J (rp hr0_0 hw) J (rp hr1_0 hw) x6 e6) (yB J J)) J ?_))))
   rintro _ _ ⟨_, ⟨rfl, rfl⟩, rfl⟩
   refine oD (stp_pick_t J hy5 J) J ?_
   obtain rfl := sI ey5
   exact ow_nil (jy 6 0)
  have ey5 := cond_f ey5 hy5
  refine oO J hy5 J (oO J hy5 J (oO J hy5 J (oO J hy5 J (oO J hy5 J (oD (stp_pick_f J hy5 J) J ?_)))))
  obtain rfl := sI ey5
  exact ow_nil (jy 6 0)
 refine sn J (cw_ret ?_)
 obtain rfl := sI H0
 exact kr results26 (rT J) [] ⟨J, J⟩

theorem c_i_MachineSame (fl : Nat) (w : World) (a0 : Mc) (a1 : Mc) (hn0_0 : n0_0 = (a0.t.b).length) (hr0_0 : RO w [] (RdL p0_0 c0_0 a0.t.b)) (hn0_1 : n0_1 = (a0.t.f).length) (hr0_1 : RO w [] (RdL p0_1 c0_1 a0.t.f)) (hn0_2 : n0_2 = (a0.c.l).length) (hr0_2 : RO w [] (RdL p0_2 c0_2 a0.c.l)) (hn0_3 : n0_3 = (a0.g.o).length) (hr0_3 : RO w [] (RdL p0_3 c0_3 a0.g.o)) (hn1_0 : n1_0 = (a1.t.b).length) (hr1_0 : RO w [] (RdL p1_0 c1_0 a1.t.b)) (hn1_1 : n1_1 = (a1.t.f).length) (hr1_1 : RO w [] (RdL p1_1 c1_1 a1.t.f)) (hn1_2 : n1_2 = (a1.c.l).length) (hr1_2 : RO w [] (RdL p1_2 c1_2 a1.c.l)) (hn1_3 : n1_3 = (a1.g.o).length) (hr1_3 : RO w [] (RdL p1_3 c1_3 a1.g.o)) (r : Bool) (H0 : i_MachineSame fl a0 a1 = some r) :
  Ct prog 8 [.agg #[.slice p0_0 n0_0 c0_0, .slice p0_1 n0_1 c0_1, .slice p0_2 n0_2 c0_2, I a0.c.h, I a0.g.c, I a0.g.n, I a0.g.r, .slice p0_3 n0_3 c0_3, I a0.s], .agg #[.slice p1_0 n1_0 c1_0, .slice p1_1 n1_1 c1_1, .slice p1_2 n1_2 c1_2, I a1.c.h, I a1.g.c, I a1.g.n, I a1.g.r, .slice p1_3 n1_3 c1_3, I a1.s]] w [] (fun rv h' => rv = .bool r ∧ h' = []) := by
 subst hn0_0 hn0_1 hn0_2 hn0_3 hn1_0 hn1_1 hn1_2 hn1_3
 unfold i_MachineSame at H0
 refine ct_of_cw func8 J ntmps8 J (Sat.refl _ _) ?_
 refine sr (oE (stpU_box 0 J J) J ?_)
 rintro _ _ ⟨b1, rfl, rfl⟩
 refine oE (stpU_box 1 J J) J ?_
 rintro _ _ ⟨b2, rfl, rfl⟩
 obtain ⟨x3, e3, H0⟩ := bS H0
 refine ss J (oA 0 u34 J ts26 J (oB2 0 ts26 J (oA 0 u34 J ts26 J (oB2 1 ts26 J (oE (uC 2 cf24 (fun w hw => c_i_TableSame fl w a0.t a1.t J (rp hr0_0 hw) J (rp hr0_1 hw) J (rp hr1_0 hw) J (rp hr1_1 hw) x3 e3) (yB J J)) J ?_)))))
 rintro _ _ ⟨_, ⟨rfl, rfl⟩, rfl⟩
 obtain ⟨y4, ey4, H0⟩ := bS H0
 refine oM J (ow_cutY 6 16 y4 ?_ ?_)
 ·rcases Bool.eq_false_or_eq_true x3 with hy4 | hy4
  ·have ey4 := cond_t ey4 hy4
   obtain ⟨x5, e5, ey4⟩ := bS ey4
   refine oG J hy4 (fA 2 u34 J ts29 J J J) J (oG J hy4 (stp_loadN (us := [_, _]) ts29 J (Cells.box (id := 0) J 2 J)) J (oG J hy4 (fA 2 u34 J ts29 J J J) J (oG J hy4 (stp_loadN (us := [_, _]) ts29 J (Cells.box (id := 1) J 2 J)) J (ow_eff (.some J hy4) (uC 2 cf25 (fun w hw => c_i_CacheSame fl w a0.c a1.c J (rp hr0_2 hw) J (rp hr1_2 hw) x5 e5) (yB J J)) J ?_))))
   rintro _ _ ⟨_, ⟨rfl, rfl⟩, rfl⟩
   refine oD (stp_pick_t J hy4 J) J ?_
   obtain rfl := sI ey4
   exact ow_nil (jy 6 0)
  have ey4 := cond_f ey4 hy4
  refine oO J hy4 J (oO J hy4 J (oO J hy4 J (oO J hy4 J (oO J hy4 J (oD (stp_pick_f J hy4 J) J ?_)))))
  obtain rfl := sI ey4
  exact ow_nil (jy 6 0)
 obtain ⟨y6, ey6, H0⟩ := bS H0
 refine oM J (ow_cutY 6 23 y6 ?_ ?_)
 ·rcases Bool.eq_false_or_eq_true y4 with hy6 | hy6
  ·have ey6 := cond_t ey6 hy6
   obtain ⟨x7, e7, ey6⟩ := bS ey6
   refine oG J hy6 (fA 4 u34 J ts32 J J J) J (oG J hy6 (stp_loadN (us := [_, _, _, _]) ts32 J (Cells.box (id := 0) J 4 J)) J (oG J hy6 (fA 4 u34 J ts32 J J J) J (oG J hy6 (stp_loadN (us := [_, _, _, _]) ts32 J (Cells.box (id := 1) J 4 J)) J (ow_eff (.some J hy6) (uC 2 cf26 (fun w hw => c_i_TagsSame fl w a0.g a1.g J (rp hr0_3 hw) J (rp hr1_3 hw) x7 e7) (yB J J)) J ?_))))
   rintro _ _ ⟨_, ⟨rfl, rfl⟩, rfl⟩
   refine oD (stp_pick_t J hy6 J) J ?_
   obtain rfl := sI ey6
   exact ow_nil (jy 6 0)
  have ey6 := cond_f ey6 hy6
  refine oO J hy6 J (oO J hy6 J (oO J hy6 J (oO J hy6 J (oO J hy6 J (oD (stp_pick_f J hy6 J) J ?_)))))
  obtain rfl := sI ey6
  exact ow_nil (jy 6 0)
 obtain ⟨y8, ey8, H0⟩ := bS H0
 refine oM J (ow_cutY 6 30 y8 ?_ ?_)
 ·rcases Bool.eq_false_or_eq_true y6 with hy8 | hy8
  ·have ey8 := cond_t ey8 hy8
   refine oG J hy8 (fA 8 u34 J ts3 J J J) J (oG J hy8 (lB 0 ts3 J J J) J (oG J hy8 (fA 8 u34 J ts3 J J J) J (oG J hy8 (lB 1 ts3 J J J) J (oG J hy8 (stp_eql J J) J (oD (stp_pick_t J hy8 J) J ?_)))))
   obtain rfl := sI ey8
   exact ow_nil (jy 6 0)
  have ey8 := cond_f ey8 hy8
  refine oO J hy8 J (oO J hy8 J (oO J hy8 J (oO J hy8 J (oO J hy8 J (oD (stp_pick_f J hy8 J) J ?_)))))
  obtain rfl := sI ey8
  exact ow_nil (jy 6 0)
 refine sn J (cw_ret ?_)
 obtain rfl := sI H0
 exact kr results8 (rT J) [] ⟨J, J⟩

theorem c_i_TakeTag (fl : Nat) (w : World) (a0 : Tg) (a1 : Int) (hn0_0 : n0_0 = (a0.o).length) (hr0_0 : RO w [] (RdL p0_0 c0_0 a0.o)) (r : Tg × Int × Bool × Bool) (H0 : i_TakeTag fl a0 a1 = some r) :
  Ct prog 27 [.agg #[I a0.c, I a0.n, I a0.r, .slice p0_0 n0_0 c0_0], I a1] w [] (fun rv h' => SL 108 r.1.o fun x0 y0 z0 C0 => rv = .tuple #[.agg #[I r.1.c, I r.1.n, I r.1.r, .slice x0 y0 z0], I r.2.1, .bool r.2.2.1, .bool r.2.2.2] ∧ h' = [(0, C0)]) := by
 subst hn0_0
 unfold i_TakeTag at H0
 refine ct_of_cw func27 J ntmps27 J (Sat.refl _ _) ?_
 refine sr (oE (stpU_box 0 J J) J ?_)
 rintro _ _ ⟨b1, rfl, rfl⟩
 refine oE (stpU_alloc 1 tz32 J) J ?_
 rintro _ _ ⟨b2, rfl, rfl⟩
 obtain ⟨x3, e3, H0⟩ := bS H0
 refine oS J (oS J (sq J (oB4 0 ts32 J (oE (uC 2 cf38 (fun w hw => c_i_TagsValid fl w a0 J (rp hr0_0 hw) x3 e3) (yA J)) J ?_))))
 rintro _ _ ⟨_, ⟨rfl, rfl⟩, rfl⟩
 obtain ⟨y4, ey4, H0⟩ := bS H0
 refine oK J (oM J (ow_cutY 4 19 y4 ?_ ?_))
 ·rcases Bool.eq_false_or_eq_true (!x3) with hy4 | hy4
  ·have ey4 := cond_t ey4 hy4
   refine oO J hy4 J (oO J hy4 J (oO J hy4 J (oD (stp_pick_t J hy4 J) J ?_)))
   obtain rfl := sI ey4
   exact ow_nil (jy 4 0)
  have ey4 := cond_f ey4 hy4
  obtain ⟨x5, e5, ey4⟩ := bS ey4
  refine oG J hy4 (mv J) J (ow_eff (.some J hy4) (uC 2 cf29 (fun w hw => c_i_within fl w a1 16 x5 e5) (yB J J)) J ?_)
  rintro _ _ ⟨_, ⟨rfl, rfl⟩, rfl⟩
  refine oG J hy4 (stp_not J) J (oD (stp_pick_f J hy4 J) J ?_)
  obtain rfl := sI ey4
  exact ow_nil (jy 4 0)
 refine ow_nil (kw_nx (cH J H0 (fun H0 => ?_) (fun H0 => ?_)))
 ·refine sr (oD (stp_build (cs := #[I 0, I 0, I 0, sN]) sE bt32_4) J (oC4 1 ts32 J J (oS J (oS J (sR J (kA 2 ?_))))))
  obtain rfl := sI H0
  exact kr results27 (.cons (.cellN (us := [_, _, _, _]) ts32 J (Cells.box (id := 1) J 4 J)) (.cons (.tmp J) (.cons (.tmp J) (rT J)))) [2] (sl J oN0 ⟨J, J⟩)
 refine ks (oB4 0 ts32 J (oE (stpU_alloc 3 tz32 J) J ?_))
 rintro _ _ ⟨b7, rfl, rfl⟩
 obtain ⟨x8, e8, H0⟩ := bS H0
 refine oC4 3 ts32 J J (ns (oAL 3 u32 J ts30 J 0 J (oE (uC 4 cf70 (fun w hw => c_slices_Clone_Own fl w a0.o J (rp hr0_0 hw) x8 e8) (yA J)) J ?_)))
 rintro _ _ ⟨_, ⟨p9, _, c11, C12, rfl, o12, rfl, rfl⟩, rfl⟩
 refine oE (stpU_call (fun i => i) cf69 (fun w hw => c_clip69 w p9 ((x8).length) c11 (OwnC.len o12).1) (yA J)) J ?_
 rintro _ _ ⟨_, ⟨rfl, rfl⟩, rfl⟩
 obtain ⟨x13, e13, H0⟩ := bS H0
 refine oA 3 u32 J ts30 J (oC4 3 ts30 J J (nq (oB4 0 ts32 J (oM J (oE (uC 5 cf39 (fun w hw => c_i_Tags_own fl w a0 a1 J (rp hr0_0 hw) x13 e13) (yB J J)) J ?_)))))
 rintro _ _ ⟨_, ⟨rfl, rfl⟩, rfl⟩
 refine ss J (oM J (oI J (nn (cH J H0 (fun H0 => ?_) (fun H0 => ?_)))))
 ·obtain ⟨x15, e15, H0⟩ := bS H0
  refine cq (rdt g_mixed (rn 0 11) ⟨[[3],[],[0],[],[],[],[],[1]], [[],[],[],[],[],[],[],[1]], []⟩ (dB4 3 ts32 J (dA 3 J u32 J ts30 J (dL 0 ts30 J (dM J (dD J (stp_indexAddr u30 ts108 (by decide) J J J (Rdb.ro hr0_0) e15) (dA 1 J u108 J ts3 J (dD J (stp_load1 ts3 J (Cells.el (Rdb.ro hr0_0) (by decide) e15 1 1 J)) (dC4 1 ts32 J J J (dS J (dS J (dS J (dn ?_)))))))))))))
  refine kw_nx (cw_ret (kR ?_))
  obtain rfl := sI H0
  exact kr results27 (.cons (.cellN (us := [_, _, _, _]) ts32 J (Cells.box (id := 1) J 4 J)) (.cons (.tmp J) (.cons (.tmp J) (rT J)))) [4] (sl J (OwnC.clip o12) ⟨J, J⟩)
 refine ks (oAL 1 u32 J ts3 J 0 J (oAL 0 u32 J ts3 J 0 J (oQ J (sq J (oM J (nn ?_))))))
 refine cH J H0 (fun H0 => ?_) (fun H0 => ?_)
 ·refine csr (oAL 2 u32 J ts3 J 0 J (oQ J (nn (cw_cond J (fun h17 => ?_) (fun h17 => ?_)))))
  ·have H0 := cond_t H0 h17
   refine sr (oD (stp_build (cs := #[I 0, I 0, I 0, sN]) sE bt32_4) J (oC4 1 ts32 J J (oS J (oS J (sR J (kR (kA 5 ?_)))))))
   obtain rfl := sI H0
   exact kr results27 (.cons (.cellN (us := [_, _, _, _]) ts32 J (Cells.box (id := 1) J 4 J)) (.cons (.tmp J) (.cons (.tmp J) (rT J)))) [5] (sl J oN0 ⟨J, J⟩)
  have H0 := cond_f H0 h17
  obtain ⟨x18, e18, H0⟩ := bS H0
  refine kz (cR (oAL 0 u32 J ts3 J 0 J (oAL 2 u32 J ts3 J 0 J (oP e18 J (oD (stp_build (cs := #[I a0.c, I 0, I x18, sN]) (sP J (sP J sE)) bt32_20) J (oC4 3 ts32 J J (ns (oA 1 u32 J ts3 J (oL 3 ts3 J ?_)))))))))
  refine ss J (oAL 3 u32 J ts30 J 3 J (oM J (oM J (oD (stp_build (cs := #[I a1, I 0]) (sP J (sP J sE)) bt108_9) J (oE (stpU_lit (sz := 2) (l := [(⟨a1, 0⟩ : Ow)]) [.agg #[I a1, I 0]] sl30 6 (sP J sE) J J J J J J J J J) J ?_)))))
  rintro _ _ ⟨p19, C20, rfl, rfl, o20⟩
  obtain ⟨x21, e21, H0⟩ := bS H0
  refine ow_addNil 7 (oE (stpU_append sl30 J (id := 7) J J J (by simp) J (OwnC.nil 108 none) (Rdb.own (id := 6) J o20) e21) J ?_)
  rintro _ _ ⟨p22, c23, C24, rfl, rfl, o24⟩
  refine oE (stpU_call (fun i => i) cf69 (fun w hw => c_clip69 w p22 ((x21).length) c23 (OwnC.len o24).1) (yA J)) J ?_
  rintro _ _ ⟨_, ⟨rfl, rfl⟩, rfl⟩
  obtain ⟨x25, e25, H0⟩ := bS H0
  refine oA 3 u32 J ts30 J (oC4 3 ts30 J J (ns (oAL 1 u32 J ts3 J 3 J (oP e25 J (oA 1 u32 J ts3 J (oC4 3 ts3 J J (ns (oB4 3 ts32 J (oM J (oM J ?_))))))))))
  refine oC4 1 ts32 J J (oS J (oS J (sn J (cw_ret ?_))))
  obtain rfl := sI H0
  exact kr results27 (.cons (.cellN (us := [_, _, _, _]) ts32 J (Cells.box (id := 1) J 4 J)) (.cons (.tmp J) (.cons (.tmp J) (rT J)))) [7] (sl J (OwnC.clip o24) ⟨J, J⟩)
 refine ks (oAL 1 u32 J ts3 J 3 J (ss J (oAL 3 u32 J ts30 J 3 J (oM J (oM J (oD (stp_build (cs := #[I a1, I a0.n]) (sP J (sP J sE)) bt108_9) J (oE (stpU_lit (sz := 2) (l := [(⟨a1, a0.n⟩ : Ow)]) [.agg #[I a1, I a0.n]] sl30 8 (sP J sE) J J J J J J J J J) J ?_)))))))
 rintro _ _ ⟨p26, C27, rfl, rfl, o27⟩
 obtain ⟨x28, e28, H0⟩ := bS H0
 refine oE (stpU_append sl30 J (id := 4) J J J (by simp) J (OwnC.clip o12) (Rdb.own (id := 8) J o27) e28) J ?_
 rintro _ _ ⟨p29, c30, C31, rfl, rfl, o31⟩
 refine oE (stpU_call (fun i => i) cf69 (fun w hw => c_clip69 w p29 ((x28).length) c30 (OwnC.len o31).1) (yA J)) J ?_
 rintro _ _ ⟨_, ⟨rfl, rfl⟩, rfl⟩
 obtain ⟨x32, e32, H0⟩ := bS H0
 refine oA 3 u32 J ts30 J (oC4 3 ts30 J J (ns (oAL 1 u32 J ts3 J 3 J (oP e32 J (oA 1 u32 J ts3 J (oC4 3 ts3 J J (ns (oB4 3 ts32 J (oM J (oM J ?_))))))))))
 refine oC4 1 ts32 J J (oS J (oS J (sn J (cw_ret ?_))))
 obtain rfl := sI H0
 exact kr results27 (.cons (.cellN (us := [_, _, _, _]) ts32 J (Cells.box (id := 1) J 4 J)) (.cons (.tmp J) (.cons (.tmp J) (rT J)))) [4] (sl J (OwnC.clip o31) ⟨J, J⟩)

theorem c_i_EnterSpace (fl : Nat) (w : World) (a0 : Mc) (a1 : Int) (hn0_0 : n0_0 = (a0.t.b).length) (hr0_0 : RO w [] (RdL p0_0 c0_0 a0.t.b)) (hn0_1 : n0_1 = (a0.t.f).length) (hr0_1 : RO w [] (RdL p0_1 c0_1 a0.t.f)) (hn0_2 : n0_2 = (a0.c.l).length) (hr0_2 : RO w [] (RdL p0_2 c0_2 a0.c.l)) (hn0_3 : n0_3 = (a0.g.o).length) (hr0_3 : RO w [] (RdL p0_3 c0_3 a0.g.o)) (hg : RO w [] (fun w' => w'.rangeAt 0 0 [.bool false, I 0, I 0, I 0, I (-1)])) (r : Mc × Bool) (H0 : i_EnterSpace fl a0 a1 = some r) :
  Ct prog 9 [.agg #[.slice p0_0 n0_0 c0_0, .slice p0_1 n0_1 c0_1, .slice p0_2 n0_2 c0_2, I a0.c.h, I a0.g.c, I a0.g.n, I a0.g.r, .slice p0_3 n0_3 c0_3, I a0.s], I a1] w [] (fun rv h' => SL 3 r.1.t.b fun x0 y0 z0 C0 => SL 74 r.1.t.f fun x1 y1 z1 C1 => SL 66 r.1.c.l fun x2 y2 z2 C2 => SL 108 r.1.g.o fun x3 y3 z3 C3 => rv = .tuple #[.agg #[.slice x0 y0 z0, .slice x1 y1 z1, .slice x2 y2 z2, I r.1.c.h, I r.1.g.c, I r.1.g.n, I r.1.g.r, .slice x3 y3 z3, I r.1.s], .bool r.2] ∧ h' = [(0, C0), (1, C1), (2, C2), (3, C3)]) := by
 subst hn0_0 hn0_1 hn0_2 hn0_3
 unfold i_EnterSpace at H0
 refine ct_of_cw func9 J ntmps9 J (Sat.refl _ _) ?_
 refine sr (oE (stpU_box 0 J J) J ?_)
 rintro _ _ ⟨b1, rfl, rfl⟩
 refine oE (stpU_alloc 1 tz34 J) J ?_
 rintro _ _ ⟨b2, rfl, rfl⟩
 obtain ⟨x3, e3, H0⟩ := bS H0
 refine sq J (oB9 0 ts34 J (oE (uC 2 cf12 (fun w hw => c_i_MachineValid fl w a0 J (rp hr0_0 hw) J (rp hr0_1 hw) J (rp hr0_2 hw) J (rp hr0_3 hw) (rp hg hw) x3 e3) (yA J)) J ?_))
 rintro _ _ ⟨_, ⟨rfl, rfl⟩, rfl⟩
 refine oK J (nn (cH J H0 (fun H0 => ?_) (fun H0 => ?_)))
 ·refine sr (oD (stp_build (cs := #[sN, sN, sN, I 0, I 0, I 0, I 0, sN, I 0]) sE bt34_6) J (oC9 1 ts34 J J (sR J (kA 2 (kA 3 (kA 4 (kA 5 ?_)))))))
  obtain rfl := sI H0
  exact kr results9 (.cons (.cellN (us := [_, _, _, _, _, _, _, _, _]) ts34 J (Cells.box (id := 1) J 9 J)) (rT J)) [2, 3, 4, 5] (sl J oN0 (sl J oN0 (sl J oN0 (sl J oN0 ⟨J, J⟩))))
 obtain ⟨x5, e5, H0⟩ := bS H0
 refine ks (oA 4 u34 J ts32 J (oB4 0 ts32 J (oM J (oE (uC 6 cf27 (fun w hw => c_i_TakeTag fl w a0.g a1 J (rp hr0_3 hw) x5 e5) (yB J J)) J ?_))))
 rintro _ _ ⟨_, ⟨p6, _, c8, C9, rfl, o9, rfl, rfl⟩, rfl⟩
 refine oMTT J J J (oT J (oT J (oE (stpU_alloc 7 tz32 J) J ?_)))
 rintro _ _ ⟨b10, rfl, rfl⟩
 refine oC4 7 ts32 J J (oS J (oS J (sq J (oM J (oK J (nn (cH J H0 (fun H0 => ?_) (fun H0 => ?_))))))))
 ·refine sr (oD (stp_build (cs := #[sN, sN, sN, I 0, I 0, I 0, I 0, sN, I 0]) sE bt34_6) J (oC9 1 ts34 J J (sR J (kA 8 (kA 9 (kA 10 (kA 11 ?_)))))))
  obtain rfl := sI H0
  exact kr results9 (.cons (.cellN (us := [_, _, _, _, _, _, _, _, _]) ts34 J (Cells.box (id := 1) J 9 J)) (rT J)) [8, 9, 10, 11] (sl J oN0 (sl J oN0 (sl J oN0 (sl J oN0 ⟨J, J⟩))))
 obtain ⟨x12, e12, H0⟩ := bS H0
 refine ks (oB9 0 ts34 J (oE (uC 12 cf28 (fun w hw => c_i_Machine_clone fl w a0 J (rp hr0_0 hw) J (rp hr0_1 hw) J (rp hr0_2 hw) J (rp hr0_3 hw) x12 e12) (yA J)) J ?_))
 rintro _ _ ⟨_, ⟨p13, _, c15, C16, rfl, o16, p17, _, c19, C20, rfl, o20, p21, _, c23, C24, rfl, o24, p25, _, c27, C28, rfl, o28, rfl, rfl⟩, rfl⟩
 refine oE (stpU_alloc 16 tz34 J) J ?_
 rintro _ _ ⟨b29, rfl, rfl⟩
 refine oC9 16 ts34 J J (ns (oB4 7 ts32 J (oM J (oA 4 u34 J ts32 J (oC9 16 ts32 J J (oA 8 u34 J ts3 J (oC9 16 ts3 J J (nq (oA 2 u34 J ts29 J (oA 0 u29 J ts27 J ?_))))))))))
 obtain ⟨o0_0, eo0_0, H0⟩ := bS H0
 refine oL 16 ts27 J (oD (stp_len u27 J) J (oM J (nn (lp (fun f a b => i_EnterSpace_L0 fl x5 x12 f a b = some o0_0) (fun a b => o0_0 = .out (a, b)) (fun R s h => ∃ v30 v32 C31, R v30 v32 ∧ s = [(4, .pointer (some ⟨b2, 0, none⟩)), (8, .bool x5.2.2.1), (10, .pointer (some ⟨b29, 0, none⟩)), (37, .slice p21 ((x12.c.l).length) c23), (38, I ((x12.c.l).length : Int)), (39, I v32)] ∧ h = [(1, [(b2, .cells #[sN, sN, sN, I 0, I 0, I 0, I 0, sN, I 0] 34 (0, 0))]), (6, C9), (12, C16), (13, C20), (14, C31), (16, [(b29, .cells #[.slice p13 ((x12.t.b).length) c15, .slice p17 ((x12.t.f).length) c19, .slice p21 ((x12.c.l).length) c23, I x12.c.h, I x5.1.c, I x5.1.n, I x5.1.r, .slice p6 ((x5.1.o).length) c8, I a1] 34 (0, 0))])] ∧ (x12.c.l).length = (v30).length ∧ OwnC 66 p21 c23 v30 C31) ⟨_, _, C24, eo0_0, J, J, J, o24⟩ ?_ ?_))))
 ·rintro fuel _ _ ⟨v30, v32, C31, H1, rfl, rfl, hl31, o31⟩
  rcases fuel with _ | fuel
  ·rw [i_EnterSpace_L0.eq_1] at H1; cases H1
  rw [i_EnterSpace_L0.eq_2] at H1
  refine sr (oW J (nn (cq (cH J H1 (fun H1 => ?_) (fun H1 => ?_)))))
  ·obtain ⟨x34, e34, H1⟩ := bS H1
   refine kq (cw_block (sr (oM J (oD (stp_indexAddr u27 ts66 (by decide) J (by simp [hl31]) J (Rdb.own (id := 14) J o31) e34) J (oD (stp_loadN (us := [_, _, _, _, _, _]) ts66 J (Cells.el (Rdb.own (id := 14) J o31) (by decide) e34 0 6 J)) J (oE (stpU_alloc 17 tz66 J) J ?_))))))
   rintro _ _ ⟨b35, rfl, rfl⟩
   obtain ⟨y36, ey36, H1⟩ := bS H1
   refine oS J (oC6 17 ts66 J J (ns (oM J (oM J (ow_cutY 4 49 y36 ?_ ?_)))))
   ·rcases Bool.eq_false_or_eq_true x5.2.2.1 with hy36 | hy36
    ·have ey36 := cond_t ey36 hy36
     refine oG J hy36 (fA 1 u66 J ts3 J J J) J (oG J hy36 (lB 17 ts3 J J J) J (oG J hy36 (stp_neq J J) J (oD (stp_pick_t J hy36 J) J ?_)))
     obtain rfl := sI ey36
     exact ow_nil (jy 4 0)
    have ey36 := cond_f ey36 hy36
    refine oO J hy36 J (oO J hy36 J (oO J hy36 J (oD (stp_pick_f J hy36 J) J ?_)))
    obtain rfl := sI ey36
    exact ow_nil (jy 4 0)
   refine ow_nil (kw_nx (cH J H1 (fun H1 => ?_) (fun H1 => ?_)))
   ·refine cR (oA 2 u34 J ts29 J (oAL 0 u29 J ts27 J 16 J (oM J (oD (stp_build (cs := #[.bool false, I 0, I 0, I 0, I 0, .bool false]) sE bt66_11) J (oD (stp_indexAddr u27 ts66 (by decide) J (by simp [hl31]) J (Rdb.own (id := 14) J o31) e34) J (oF (stpU_storeEl (id := 14) (i := 0) (⟨false, 0, 0, 0, 0, false⟩ : Ln) (by decide) ts66 J J J o31 e34 J J J J) ?_))))))
    rintro _ _ ⟨C38, rfl, o38⟩
    obtain ⟨x39, e39, H1⟩ := bS H1
    exact ow_nil (kb (cR (oP e39 J (oM J (ow_nil (ka ⟨_, _, C38, H1, J, J, (by simp [hl31]), o38⟩))))))
   obtain ⟨x40, e40, H1⟩ := bS H1
   exact cw_skip (kb (cR (oP e40 J (oM J (ow_nil (ka ⟨_, _, C31, H1, J, J, (by simp [hl31]), o31⟩))))))
  refine cw_exit (kw_nx_exit (ax (kw_bl ?_)))
  obtain rfl := sI H1
  exact kx ⟨_, _, C31, J, J, J, (by simp [hl31]), o31⟩
 rintro _ _ ⟨v30, v32, C31, rfl, rfl, rfl, hl31, o31⟩
 refine kw_nx (sr (oB9 16 ts34 J (oC9 1 ts34 J J (sn J (cw_ret ?_)))))
 obtain rfl := sI H0
 exact kr results9 (.cons (.cellN (us := [_, _, _, _, _, _, _, _, _]) ts34 J (Cells.box (id := 1) J 9 J)) (rT J)) [12, 13, 14, 6] (sl J o16 (sl J o20 (sl (by simp [hl31]) o31 (sl J o9 ⟨J, J⟩))))

theorem ow2 {w0 w : World} {M : List Nat} {h : Hp} {α : Type} [Enc α] {e : TypeId} {p p' : Option Addr} {c c' : Nat} {l l' : List α} {D C : Res} (id id' : Nat) (hg : aget h id = some D) (hg' : aget h id' = some C) (o : OwnC e p c l D ∨ p = p' ∧ c = c' ∧ l = l') (o' : OwnC e p' c' l' C) (hw : Sat w0 M w h) : RO w [] (RdL p c l) := by
 rcases o with o | ⟨rfl, rfl, rfl⟩
 ·exact OwnC.pass hg o hw
 exact OwnC.pass hg' o' hw
theorem c_l_FnWirePage (fl : Nat) (w : World) (a0 : (List UInt8)) (hn0_0 : n0_0 = (a0).length) (hr0_0 : RO w [] (RdL p0_0 c0_0 a0)) (hg : RO w [] (fun w' => w'.rangeAt 0 0 [.bool false, I 0, I 0, I 0, I (-1)])) (r : Bool) (H0 : l_FnWirePage fl a0 = some r) :
  Ct prog 4 [.slice p0_0 n0_0 c0_0] w [] (fun rv h' => rv = .bool r ∧ h' = []) := by
 subst hn0_0
 unfold l_FnWirePage at H0
 refine ct_of_cw func4 J ntmps4 J (Sat.refl _ _) ?_
 refine sr (sq J (oM J (oD (stp_len u22 J) J (oJ J (nn (cH J H0 (fun H0 => ?_) (fun H0 => ?_)))))))
 ·refine sr (sr1 J (kR ?_))
  obtain rfl := sI H0
  exact kr results4 (rT J) [] ⟨J, J⟩
 obtain ⟨x2, e2, H0⟩ := bS H0
 refine ks (oM J (oE (uC 0 cf13 (fun w hw => c_s_DrawWirePage fl w a0 J (rp hr0_0 hw) x2 e2) (yA J)) J ?_))
 rintro _ _ ⟨_, ⟨p3, _, c5, C6, rfl, o6, p7, _, c9, C10, rfl, o10, p11, _, c13, C14, rfl, o14, p15, _, c17, C18, rfl, o18, rfl, rfl⟩, rfl⟩
 refine oMTT J J J (oE (stpU_alloc 4 tz34 J) J ?_)
 rintro _ _ ⟨b19, rfl, rfl⟩
 obtain ⟨x20, e20, H0⟩ := bS H0
 refine oC9 4 ts34 J J (ss J (oB9 4 ts34 J (oM J (oE (uC 5 cf14 (fun w hw => c_i_WirePage fl w x2.1 x2.2 J (owp 0 J o6 hw) J (owp 1 J o10 hw) J (owp 2 J o14 hw) J (owp 3 J o18 hw) (rp hg hw) x20 e20) (yB J J)) J ?_))))
 rintro _ _ ⟨_, ⟨p21, _, c23, C24, rfl, o24, p25, _, c27, C28, rfl, o28, p29, _, c31, C32, rfl, o32, p33, _, c35, C36, rfl, o36, rfl, rfl⟩, rfl⟩
 refine oMTT J J J (oE (stpU_alloc 9 tz34 J) J ?_)
 rintro _ _ ⟨b37, rfl, rfl⟩
 obtain ⟨x38, e38, H0⟩ := bS H0
 refine oC9 9 ts34 J J (ss J (oB9 4 ts34 J (oM J (oE (uC 10 cf15 (fun w hw => c_s_WirePage fl w x2.1 x2.2 J (owp 0 J o6 hw) J (owp 1 J o10 hw) J (owp 2 J o14 hw) J (owp 3 J o18 hw) x38 e38) (yB J J)) J ?_))))
 rintro _ _ ⟨_, ⟨p39, _, c41, C42, rfl, o42, p43, _, c45, C46, rfl, o46, p47, _, c49, C50, rfl, o50, p51, _, c53, C54, rfl, o54, rfl, rfl⟩, rfl⟩
 refine oMTT J J J (oE (stpU_alloc 14 tz34 J) J ?_)
 rintro _ _ ⟨b55, rfl, rfl⟩
 obtain ⟨x56, e56, H0⟩ := bS H0
 refine oC9 14 ts34 J J (sq J (oB9 9 ts34 J (oB9 14 ts34 J (oE (uC 15 cf8 (fun w hw => c_i_MachineSame fl w x20.1 x38.1 J (owp 5 J o24 hw) J (owp 6 J o28 hw) J (owp 7 J o32 hw) J (owp 8 J o36 hw) J (owp 10 J o42 hw) J (owp 11 J o46 hw) J (owp 12 J o50 hw) J (owp 13 J o54 hw) x56 e56) (yB J J)) J ?_))))
 rintro _ _ ⟨_, ⟨rfl, rfl⟩, rfl⟩
 obtain ⟨y57, ey57, H0⟩ := bS H0
 refine oK J (oM J (ow_cutY 4 45 y57 ?_ ?_))
 ·rcases Bool.eq_false_or_eq_true (!x56) with hy57 | hy57
  ·have ey57 := cond_t ey57 hy57
   refine oO J hy57 J (oO J hy57 J (oO J hy57 J (oD (stp_pick_t J hy57 J) J ?_)))
   obtain rfl := sI ey57
   exact ow_nil (jy 4 0)
  have ey57 := cond_f ey57 hy57
  refine oG J hy57 (mv J) J (oG J hy57 (mv J) J (oG J hy57 (stp_neqB u4 J J) J (oD (stp_pick_f J hy57 J) J ?_)))
  obtain rfl := sI ey57
  exact ow_nil (jy 4 0)
 obtain ⟨y58, ey58, H0⟩ := bS H0
 refine oM J (ow_cutY 3 49 y58 ?_ ?_)
 ·rcases Bool.eq_false_or_eq_true y57 with hy58 | hy58
  ·have ey58 := cond_t ey58 hy58
   refine oO J hy58 J (oO J hy58 J (oD (stp_pick_t J hy58 J) J ?_))
   obtain rfl := sI ey58
   exact ow_nil (jy 3 0)
  have ey58 := cond_f ey58 hy58
  refine oG J hy58 (mv J) J (oG J hy58 (stp_not J) J (oD (stp_pick_f J hy58 J) J ?_))
  obtain rfl := sI ey58
  exact ow_nil (jy 3 0)
 refine ow_nil (kw_nx (cH J H0 (fun H0 => ?_) (fun H0 => ?_)))
 ·refine sr (oB9 9 ts34 J (oB9 14 ts34 J (oE (uC 15 cf8 (fun w hw => c_i_MachineSame fl w x20.1 x38.1 J (owp 5 J o24 hw) J (owp 6 J o28 hw) J (owp 7 J o32 hw) J (owp 8 J o36 hw) J (owp 10 J o42 hw) J (owp 11 J o46 hw) J (owp 12 J o50 hw) J (owp 13 J o54 hw) x56 e56) (yB J J)) J ?_)))
  rintro _ _ ⟨_, ⟨rfl, rfl⟩, rfl⟩
  obtain ⟨y60, ey60, H0⟩ := bS H0
  refine oM J (ow_cutY 4 57 y60 ?_ ?_)
  ·rcases Bool.eq_false_or_eq_true x56 with hy60 | hy60
   ·have ey60 := cond_t ey60 hy60
    refine oG J hy60 (mv J) J (oG J hy60 (mv J) J (oG J hy60 (stp_eqlB u4 J J) J (oD (stp_pick_t J hy60 J) J ?_)))
    obtain rfl := sI ey60
    exact ow_nil (jy 4 0)
   have ey60 := cond_f ey60 hy60
   refine oO J hy60 J (oO J hy60 J (oO J hy60 J (oD (stp_pick_f J hy60 J) J ?_)))
   obtain rfl := sI ey60
   exact ow_nil (jy 4 0)
  refine sr1 J (kR ?_)
  obtain rfl := sI H0
  exact kr results4 (rT J) [] ⟨J, J⟩
 refine ks (oB9 9 ts34 J (oE (stpU_alloc 15 tz34 J) J ?_))
 rintro _ _ ⟨b61, rfl, rfl⟩
 obtain ⟨o0_0, eo0_0, H0⟩ := bS H0
 refine oC9 15 ts34 J J (nq (sn J (cw_addNil 30 (cw_addNil 31 (cw_addNil 32 (cw_addNil 33 (lp (fun f a b c d e g i j k l => l_FnWirePage_L0 fl f a b c d e g i j k l = some o0_0) (fun a b c d e g i j k l => o0_0 = .out (a, b, c, d, e, g, i, j, k, l)) (fun R s h => ∃ v62 v67 v72 v77 v78 v79 v80 v81 v86 v87 p63 n64 c65 C66 p68 n69 c70 C71 p73 n74 c75 C76 p82 n83 c84 C85, R v62 v67 v72 v77 v78 v79 v80 v81 v86 v87 ∧ s = [(4, I x2.2), (5, .pointer (some ⟨b37, 0, none⟩)), (9, .pointer (some ⟨b61, 0, none⟩)), (10, I v87)] ∧ h = [(5, C24), (6, C28), (7, C32), (8, C36), (9, [(b37, .cells #[.slice p21 ((x20.1.t.b).length) c23, .slice p25 ((x20.1.t.f).length) c27, .slice p29 ((x20.1.c.l).length) c31, I x20.1.c.h, I x20.1.g.c, I x20.1.g.n, I x20.1.g.r, .slice p33 ((x20.1.g.o).length) c35, I x20.1.s] 34 (0, 0))]), (15, [(b61, .cells #[.slice p63 n64 c65, .slice p68 n69 c70, .slice p73 n74 c75, I v77, I v78, I v79, I v80, .slice p82 n83 c84, I v86] 34 (0, 0))]), (30, C66), (31, C71), (32, C76), (33, C85)] ∧ n64 = (v62).length ∧ (OwnC 3 p63 c65 v62 C66 ∨ p63 = p21 ∧ c65 = c23 ∧ v62 = x20.1.t.b) ∧ n69 = (v67).length ∧ (OwnC 74 p68 c70 v67 C71 ∨ p68 = p25 ∧ c70 = c27 ∧ v67 = x20.1.t.f) ∧ n74 = (v72).length ∧ (OwnC 66 p73 c75 v72 C76 ∨ p73 = p29 ∧ c75 = c31 ∧ v72 = x20.1.c.l) ∧ n83 = (v81).length ∧ (OwnC 108 p82 c84 v81 C85 ∨ p82 = p33 ∧ c84 = c35 ∧ v81 = x20.1.g.o)) ⟨_, _, _, _, _, _, _, _, _, _, p21, ((x20.1.t.b).length), c23, [], p25, ((x20.1.t.f).length), c27, [], p29, ((x20.1.c.l).length), c31, [], p33, ((x20.1.g.o).length), c35, [], eo0_0, J, J, J, .inr ⟨J, J, J⟩, J, .inr ⟨J, J, J⟩, J, .inr ⟨J, J, J⟩, J, .inr ⟨J, J, J⟩⟩ ?_ ?_)))))))
 ·rintro fuel _ _ ⟨v62, v67, v72, v77, v78, v79, v80, v81, v86, v87, p63, _, c65, C66, p68, _, c70, C71, p73, _, c75, C76, p82, _, c84, C85, H1, rfl, rfl, rfl, o66, rfl, o71, rfl, o76, rfl, o85⟩
  rcases fuel with _ | fuel
  ·rw [l_FnWirePage_L0.eq_1] at H1; cases H1
  rw [l_FnWirePage_L0.eq_2] at H1
  refine csr (oM J (oW J (nn (cH J H1 (fun H1 => ?_) (fun H1 => ?_)))))
  ·obtain ⟨x89, e89, H1⟩ := bS H1
   refine kq (cw_block (sr (oB9 15 ts34 J (oM J (oE (uC 16 cf9 (fun w hw => c_i_EnterSpace fl w (⟨(⟨v62, v67⟩ : T), (⟨v72, v77⟩ : Ca), (⟨v78, v79, v80, v81⟩ : Tg), v86⟩ : Mc) v87 J (ow2 30 5 J J o66 o24 hw) J (ow2 31 6 J J o71 o28 hw) J (ow2 32 7 J J o76 o32 hw) J (ow2 33 8 J J o85 o36 hw) (rp hg hw) x89 e89) (yB J J)) J ?_)))))
   rintro _ _ ⟨_, ⟨p90, _, c92, C93, rfl, o93, p94, _, c96, C97, rfl, o97, p98, _, c100, C101, rfl, o101, p102, _, c104, C105, rfl, o105, rfl, rfl⟩, rfl⟩
   refine oMTT J J J (oE (stpU_alloc 20 tz34 J) J ?_)
   rintro _ _ ⟨b106, rfl, rfl⟩
   refine oC9 20 ts34 J J (sq J (oM J (oK J (nn (cH J H1 (fun H1 => ?_) (fun H1 => ?_))))))
   ·refine cw_exit (kw_nx_exit (kw_bl_ne J (kw_nx_exit (ax (kw_bl ?_)))))
    obtain rfl := sI H1
    exact kx ⟨_, _, _, _, _, _, _, _, _, _, p63, ((v62).length), c65, C66, p68, ((v67).length), c70, C71, p73, ((v72).length), c75, C76, p82, ((v81).length), c84, C85, J, J, J, J, o66, J, o71, J, o76, J, o85⟩
   obtain ⟨x108, e108, H1⟩ := bS H1
   exact kz (cR (oB9 20 ts34 J (oC9 15 ts34 J J (ow_nil (kb (cR (oM J (oP e108 J (oS J (ow_nil (kaS [5, 6, 7, 8, 9, 15, 16, 17, 18, 19] ⟨_, _, _, _, _, _, _, _, _, _, p90, ((x89.1.t.b).length), c92, C93, p94, ((x89.1.t.f).length), c96, C97, p98, ((x89.1.c.l).length), c100, C101, p102, ((x89.1.g.o).length), c104, C105, H1, J, J, J, .inl o93, J, .inl o97, J, .inl o101, J, .inl o105⟩)))))))))))
  refine cw_exit (kw_nx_exit (ax (kw_bl ?_)))
  obtain rfl := sI H1
  exact kx ⟨_, _, _, _, _, _, _, _, _, _, p63, ((v62).length), c65, C66, p68, ((v67).length), c70, C71, p73, ((v72).length), c75, C76, p82, ((v81).length), c84, C85, J, J, J, J, o66, J, o71, J, o76, J, o85⟩
 rintro _ _ ⟨v62, v67, v72, v77, v78, v79, v80, v81, v86, v87, p63, _, c65, C66, p68, _, c70, C71, p73, _, c75, C76, p82, _, c84, C85, rfl, rfl, rfl, rfl, o66, rfl, o71, rfl, o76, rfl, o85⟩
 obtain ⟨x109, e109, H0⟩ := bS H0
 refine kw_nx (sr (oB9 15 ts34 J (oM J (oE (uC 21 cf10 (fun w hw => c_i_TouchPage fl w (⟨(⟨v62, v67⟩ : T), (⟨v72, v77⟩ : Ca), (⟨v78, v79, v80, v81⟩ : Tg), v86⟩ : Mc) x2.2 0 J (ow2 30 5 J J o66 o24 hw) J (ow2 31 6 J J o71 o28 hw) J (ow2 32 7 J J o76 o32 hw) J (ow2 33 8 J J o85 o36 hw) (rp hg hw) x109 e109) (yC J J J)) J ?_))))
 rintro _ _ ⟨_, ⟨p110, _, c112, C113, rfl, o113, p114, _, c116, C117, rfl, o117, p118, _, c120, C121, rfl, o121, p122, _, c124, C125, rfl, o125, rfl, rfl⟩, rfl⟩
 refine oMTT J J J (oT J (oT J (oE (stpU_alloc 25 tz34 J) J ?_)))
 rintro _ _ ⟨b126, rfl, rfl⟩
 obtain ⟨x127, e127, H0⟩ := bS H0
 refine oC9 25 ts34 J J (oS J (oS J (ss J (oB9 9 ts34 J (oE (uC 26 cf12 (fun w hw => c_i_MachineValid fl w x20.1 J (owp 5 J o24 hw) J (owp 6 J o28 hw) J (owp 7 J o32 hw) J (owp 8 J o36 hw) (rp hg hw) x127 e127) (yA J)) J ?_)))))
 rintro _ _ ⟨_, ⟨rfl, rfl⟩, rfl⟩
 obtain ⟨y128, ey128, H0⟩ := bS H0
 refine oM J (ow_cutY 2 84 y128 ?_ ?_)
 ·rcases Bool.eq_false_or_eq_true x127 with hy128 | hy128
  ·have ey128 := cond_t ey128 hy128
   refine oG J hy128 (mv J) J (oD (stp_pick_t J hy128 J) J ?_)
   obtain rfl := sI ey128
   exact ow_nil (jy 2 0)
  have ey128 := cond_f ey128 hy128
  refine oO J hy128 J (oD (stp_pick_f J hy128 J) J ?_)
  obtain rfl := sI ey128
  exact ow_nil (jy 2 0)
 obtain ⟨y129, ey129, H0⟩ := bS H0
 refine oM J (ow_cutY 3 88 y129 ?_ ?_)
 ·rcases Bool.eq_false_or_eq_true y128 with hy129 | hy129
  ·have ey129 := cond_t ey129 hy129
   refine oG J hy129 (mv J) J (oG J hy129 (stp_eql J J) J (oD (stp_pick_t J hy129 J) J ?_))
   obtain rfl := sI ey129
   exact ow_nil (jy 3 0)
  have ey129 := cond_f ey129 hy129
  refine oO J hy129 J (oO J hy129 J (oD (stp_pick_f J hy129 J) J ?_))
  obtain rfl := sI ey129
  exact ow_nil (jy 3 0)
 obtain ⟨y130, ey130, H0⟩ := bS H0
 refine oM J (ow_cutY 8 97 y130 ?_ ?_)
 ·rcases Bool.eq_false_or_eq_true y129 with hy130 | hy130
  ·have ey130 := cond_t ey130 hy130
   refine oG J hy130 (fA 4 u34 J ts32 J J J) J (oG J hy130 (fA 2 u32 J ts3 J J J) J (oG J hy130 (lB 15 ts3 J J J) J (oG J hy130 (fA 4 u34 J ts32 J J J) J (oG J hy130 (fA 2 u32 J ts3 J J J) J (oG J hy130 (lB 9 ts3 J J J) J (oG J hy130 (stp_geq J J) J (oD (stp_pick_t J hy130 J) J ?_)))))))
   obtain rfl := sI ey130
   exact ow_nil (jy 8 0)
  have ey130 := cond_f ey130 hy130
  refine oO J hy130 J (oO J hy130 J (oO J hy130 J (oO J hy130 J (oO J hy130 J (oO J hy130 J (oO J hy130 J (oD (stp_pick_f J hy130 J) J ?_)))))))
  obtain rfl := sI ey130
  exact ow_nil (jy 8 0)
 refine sn J (cw_ret ?_)
 obtain rfl := sI H0
 exact kr results4 (rT J) [] ⟨J, J⟩
end Go.Proofs.YtcloffimpakmnaaGreatDoor
