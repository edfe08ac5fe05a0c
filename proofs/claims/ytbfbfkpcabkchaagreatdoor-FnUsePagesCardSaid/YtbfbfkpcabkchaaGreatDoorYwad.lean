/- The walks: functions of the program return what their pure functions say. Printed by a program (gen.py). -/
import Derived.Test.YtbfbfkpcabkchaaGreatDoorYp
import Derived.Test.YtbfbfkpcabkchaaGreatDoorYt
import Derived.Test.YtbfbfkpcabkchaaGreatDoorMan
import Derived.Test.YtbfbfkpcabkchaaGreatDoorMap
import Derived.Test.YtbfbfkpcabkchaaGreatDoorCpy
import Derived.Test.YtbfbfkpcabkchaaGreatDoorYe
import Derived.Test.YtbfbfkpcabkchaaGreatDoorYwab
import Derived.Test.YtbfbfkpcabkchaaGreatDoorYwac
set_option linter.unusedSimpArgs false
set_option linter.unusedVariables false
set_option linter.unusedSectionVars false
namespace Go.Proofs.YtbfbfkpcabkchaaGreatDoor
open Go.RowKit
open Tryz
set_option maxHeartbeats 4000000
set_option maxRecDepth 20000
variable {p0_0 p0_1 p0_2 p0_3 p0_4 p1_0 p1_1 p1_2 p1_3 p1_4 : Option Addr} {n0_0 n0_1 n0_2 n0_3 n0_4 n1_0 n1_1 n1_2 n1_3 n1_4 : Nat} {c0_0 c0_1 c0_2 c0_3 c0_4 c1_0 c1_1 c1_2 c1_3 c1_4 : Nat}
theorem c_i_UsePage (fl : Nat) (w : World) (a0 : Mm) (a1 : Int) (a2 : Int) (a3 : Int) (hn0_0 : n0_0 = (a0.m.t.b).length) (hr0_0 : RO w [] (RdL p0_0 c0_0 a0.m.t.b)) (hn0_1 : n0_1 = (a0.m.t.f).length) (hr0_1 : RO w [] (RdL p0_1 c0_1 a0.m.t.f)) (hn0_2 : n0_2 = (a0.m.c.l).length) (hr0_2 : RO w [] (RdL p0_2 c0_2 a0.m.c.l)) (hn0_3 : n0_3 = (a0.m.g.o).length) (hr0_3 : RO w [] (RdL p0_3 c0_3 a0.m.g.o)) (hn0_4 : n0_4 = (a0.k).length) (hr0_4 : RO w [] (RdL p0_4 c0_4 a0.k)) (hg : RO w [] (fun w' => w'.rangeAt 0 0 [.bool false, I 0, I 0, I 0, I (-1)])) (r : Mm × Int × Int × Bool) (H0 : i_UsePage fl a0 a1 a2 a3 = some r) :
  Ct prog 18 [.agg #[.slice p0_0 n0_0 c0_0, .slice p0_1 n0_1 c0_1, .slice p0_2 n0_2 c0_2, I a0.m.c.h, I a0.m.g.c, I a0.m.g.n, I a0.m.g.r, .slice p0_3 n0_3 c0_3, I a0.m.s, .slice p0_4 n0_4 c0_4, I a0.h], I a1, I a2, I a3] w [] (fun rv h' => SL 3 r.1.m.t.b fun x0 y0 z0 C0 => SL 57 r.1.m.t.f fun x1 y1 z1 C1 => SL 104 r.1.m.c.l fun x2 y2 z2 C2 => SL 70 r.1.m.g.o fun x3 y3 z3 C3 => SL 4 r.1.k fun x4 y4 z4 C4 => rv = .tuple #[.agg #[.slice x0 y0 z0, .slice x1 y1 z1, .slice x2 y2 z2, I r.1.m.c.h, I r.1.m.g.c, I r.1.m.g.n, I r.1.m.g.r, .slice x3 y3 z3, I r.1.m.s, .slice x4 y4 z4, I r.1.h], I r.2.1, I r.2.2.1, .bool r.2.2.2] ∧ h' = [(0, C0), (1, C1), (2, C2), (3, C3), (4, C4)]) := by
 subst hn0_0 hn0_1 hn0_2 hn0_3 hn0_4
 unfold i_UsePage at H0
 refine ct_of_cw func18 J ntmps18 J (Sat.refl _ _) ?_
 refine sr (oE (stpU_box 0 J J) J ?_)
 rintro _ _ ⟨b1, rfl, rfl⟩
 refine oE (stpU_alloc 1 tz37 J) J ?_
 rintro _ _ ⟨b2, rfl, rfl⟩
 obtain ⟨x3, e3, H0⟩ := bS H0
 refine oS J (oS J (sq J (oB11 0 ts37 J (oE (uC 2 cf14 (fun w hw => c_i_MemoryValid fl w a0 J (rp hr0_0 hw) J (rp hr0_1 hw) J (rp hr0_2 hw) J (rp hr0_3 hw) J (rp hr0_4 hw) (rp hg hw) x3 e3) (yA J)) J ?_))))
 rintro _ _ ⟨_, ⟨rfl, rfl⟩, rfl⟩
 obtain ⟨y4, ey4, H0⟩ := bS H0
 refine oK J (oM J (ow_cutY 4 35 y4 ?_ ?_))
 ·rcases Bool.eq_false_or_eq_true (!x3) with hy4 | hy4
  ·have ey4 := cond_t ey4 hy4
   refine oO J hy4 J (oO J hy4 J (oO J hy4 J (oD (stp_pick_t J hy4 J) J ?_)))
   obtain rfl := sI ey4
   exact ow_nil (jy 4 0)
  have ey4 := cond_f ey4 hy4
  obtain ⟨x5, e5, ey4⟩ := bS ey4
  refine oG J hy4 (mv J) J (ow_eff (.some J hy4) (uC 2 cf32 (fun w hw => c_i_within fl w a1 256 x5 e5) (yB J J)) J ?_)
  rintro _ _ ⟨_, ⟨rfl, rfl⟩, rfl⟩
  refine oG J hy4 (stp_not J) J (oD (stp_pick_f J hy4 J) J ?_)
  obtain rfl := sI ey4
  exact ow_nil (jy 4 0)
 obtain ⟨y6, ey6, H0⟩ := bS H0
 refine oM J (ow_cutY 4 40 y6 ?_ ?_)
 ·rcases Bool.eq_false_or_eq_true y4 with hy6 | hy6
  ·have ey6 := cond_t ey6 hy6
   refine oO J hy6 J (oO J hy6 J (oO J hy6 J (oD (stp_pick_t J hy6 J) J ?_)))
   obtain rfl := sI ey6
   exact ow_nil (jy 4 0)
  have ey6 := cond_f ey6 hy6
  obtain ⟨x7, e7, ey6⟩ := bS ey6
  refine oG J hy6 (mv J) J (ow_eff (.some J hy6) (uC 2 cf37 (fun w hw => c_i_RightsValid fl w a2 x7 e7) (yA J)) J ?_)
  rintro _ _ ⟨_, ⟨rfl, rfl⟩, rfl⟩
  refine oG J hy6 (stp_not J) J (oD (stp_pick_f J hy6 J) J ?_)
  obtain rfl := sI ey6
  exact ow_nil (jy 4 0)
 obtain ⟨y8, ey8, H0⟩ := bS H0
 refine oM J (ow_cutY 4 45 y8 ?_ ?_)
 ·rcases Bool.eq_false_or_eq_true y6 with hy8 | hy8
  ·have ey8 := cond_t ey8 hy8
   refine oO J hy8 J (oO J hy8 J (oO J hy8 J (oD (stp_pick_t J hy8 J) J ?_)))
   obtain rfl := sI ey8
   exact ow_nil (jy 4 0)
  have ey8 := cond_f ey8 hy8
  obtain ⟨x9, e9, ey8⟩ := bS ey8
  refine oG J hy8 (mv J) J (ow_eff (.some J hy8) (uC 2 cf37 (fun w hw => c_i_RightsValid fl w a3 x9 e9) (yA J)) J ?_)
  rintro _ _ ⟨_, ⟨rfl, rfl⟩, rfl⟩
  refine oG J hy8 (stp_not J) J (oD (stp_pick_f J hy8 J) J ?_)
  obtain rfl := sI ey8
  exact ow_nil (jy 4 0)
 refine ow_nil (kw_nx (cH J H0 (fun H0 => ?_) (fun H0 => ?_)))
 ·refine sr (oD (stp_build (cs := #[sN, sN, sN, I 0, I 0, I 0, I 0, sN, I 0, sN, I 0]) sE bt37_19) J (oC11 1 ts37 J J (oS J (oS J (sR J (kA 2 (kA 3 (kA 4 (kA 5 (kA 6 ?_))))))))))
  obtain rfl := sI H0
  exact kr results18 (.cons (.cellN (us := [_, _, _, _, _, _, _, _, _, _, _]) ts37 J (Cells.box (id := 1) J 11 J)) (.cons (.tmp J) (.cons (.tmp J) (rT J)))) [2, 3, 4, 5, 6] (sl J oN0 (sl J oN0 (sl J oN0 (sl J oN0 (sl J oN0 ⟨J, J⟩)))))
 obtain ⟨x11, e11, H0⟩ := bS H0
 refine ks (oB11 0 ts37 J (oE (uC 7 cf25 (fun w hw => c_i_Memory_clone fl w a0 J (rp hr0_0 hw) J (rp hr0_1 hw) J (rp hr0_2 hw) J (rp hr0_3 hw) J (rp hr0_4 hw) x11 e11) (yA J)) J ?_))
 rintro _ _ ⟨_, ⟨p12, _, c14, C15, rfl, o15, p16, _, c18, C19, rfl, o19, p20, _, c22, C23, rfl, o23, p24, _, c26, C27, rfl, o27, p28, _, c30, C31, rfl, o31, rfl, rfl⟩, rfl⟩
 refine oE (stpU_alloc 12 tz37 J) J ?_
 rintro _ _ ⟨b32, rfl, rfl⟩
 obtain ⟨x33, e33, H0⟩ := bS H0
 refine oC11 12 ts37 J J (ns (oA 0 u37 J ts34 J (oAL 8 u34 J ts3 J 0 J (oM J (oE (uC 13 cf16 (fun w hw => c_i_KeyFor fl w a0.m.s a1 x33 e33) (yB J J)) J ?_)))))
 rintro _ _ ⟨_, ⟨rfl, rfl⟩, rfl⟩
 refine oE (stpU_alloc 13 tz50 J) J ?_
 rintro _ _ ⟨b34, rfl, rfl⟩
 obtain ⟨x35, e35, H0⟩ := bS H0
 refine oC2 13 ts50 J J (ns (oA 0 u37 J ts34 J (oA 0 u34 J ts26 J (oB2 0 ts26 J (oB2 13 ts50 J (oE (uC 14 cf38 (fun w hw => c_i_Table_find fl w a0.m.t x33 J (rp hr0_0 hw) J (rp hr0_1 hw) x35 e35) (yB J J)) J ?_))))))
 rintro _ _ ⟨_, ⟨rfl, rfl⟩, rfl⟩
 refine oW J (sq J (oM J (nn (cH J H0 (fun H0 => ?_) (fun H0 => ?_)))))
 ·obtain ⟨x37, e37, H0⟩ := bS H0
  refine sr (oB11 12 ts37 J (oE (uC 14 cf39 (fun w hw => c_i_FreeFrame fl w x11 J (owp 7 J o15 hw) J (owp 8 J o19 hw) J (owp 9 J o23 hw) J (owp 10 J o27 hw) J (owp 11 J o31 hw) (rp hg hw) x37 e37) (yA J)) J ?_))
  rintro _ _ ⟨_, ⟨rfl, rfl⟩, rfl⟩
  refine oMTT J J J (oS J (sq J (oM J (oK J (nn (cH J H0 (fun H0 => ?_) (fun H0 => ?_)))))))
  ·obtain ⟨x39, e39, H0⟩ := bS H0
   refine sr (oB11 12 ts37 J (oE (uC 14 cf40 (fun w hw => c_i_FrameVictim fl w x11 J (owp 7 J o15 hw) J (owp 8 J o19 hw) J (owp 9 J o23 hw) J (owp 10 J o27 hw) J (owp 11 J o31 hw) (rp hg hw) x39 e39) (yA J)) J ?_))
   rintro _ _ ⟨_, ⟨p40, _, c42, C43, rfl, o43, p44, _, c46, C47, rfl, o47, p48, _, c50, C51, rfl, o51, p52, _, c54, C55, rfl, o55, p56, _, c58, C59, rfl, o59, rfl, rfl⟩, rfl⟩
   refine oMTT J J J (oT J (oE (stpU_alloc 19 tz37 J) J ?_))
   rintro _ _ ⟨b60, rfl, rfl⟩
   refine oC11 19 ts37 J J (oS J (sq J (oM J (oK J (nn (cH J H0 (fun H0 => ?_) (fun H0 => ?_)))))))
   ·refine sr (oD (stp_build (cs := #[sN, sN, sN, I 0, I 0, I 0, I 0, sN, I 0, sN, I 0]) sE bt37_19) J (oC11 1 ts37 J J (oS J (oS J (sR J (kR (kR (kA 20 (kA 21 (kA 22 ?_))))))))))
    refine kA 23 (kA 24 ?_)
    obtain rfl := sI H0
    exact kr results18 (.cons (.cellN (us := [_, _, _, _, _, _, _, _, _, _, _]) ts37 J (Cells.box (id := 1) J 11 J)) (.cons (.tmp J) (.cons (.tmp J) (rT J)))) [20, 21, 22, 23, 24] (sl J oN0 (sl J oN0 (sl J oN0 (sl J oN0 (sl J oN0 ⟨J, J⟩)))))
   refine ks (oB11 19 ts37 J (oM J (oC11 12 ts37 J J (sn J (cq (rdt g_mixed [.n 0, .n 1, .n 2, .n 3, .n 4, .n 5, .n 6, .n 7, .n 8, .n 9, .d 10, .d 14, .o 10, .n 11, .n 12, .n 13, .o 14, .n 15, .n 16] ⟨[[],[12],[],[],[],[12],[],[15],[],[15],[14,15,16,17],[],[],[],[],[29]], [[],[],[],[],[],[],[],[],[],[],[25,26,27,28],[],[],[],[29],[29]], [10,14]⟩ (dA 0 J u37 J ts34 J (dB9 12 ts34 J (dA 0 J u37 J ts34 J (dA 0 J u34 J ts26 J ?_))))))))))
   obtain ⟨x62, e62, H0⟩ := bS H0
   obtain ⟨x63, e63, H0⟩ := bS H0
   refine dA 1 J u26 J ts24 J (dL 12 ts24 J (dM J (dD J (stp_indexAddr u24 ts57 (by decide) J J J (Rdb.own (id := 15) J o47) e62) (dA 1 J u57 J ts50 J (dD J (stp_loadN (us := [_, _]) ts50 J (Cells.el (Rdb.own (id := 15) J o47) (by decide) e62 1 2 J)) (dq J (fun hh => uC 25 cf41 (fun w hw => c_i_TakePage fl w x39.1.m x62.k J (owp 14 (hh _ _ J) o43 hw) J (owp 15 (hh _ _ J) o47 hw) J (owp 16 (hh _ _ J) o51 hw) J (owp 17 (hh _ _ J) o55 hw) (rp hg hw) x63 e63) (yB J J)) (by rintro _ _ ⟨_, ⟨_, _, _, _, _, _, _, _, _, _, _, _, _, _, _, _, _, _, _, _, _, _, _, _, rfl, rfl⟩, rfl⟩; rfl) (dq J (fun hh => stpU_alloc 29 tz34 J) (by rintro _ _ ⟨_, rfl, rfl⟩; rfl) (dp J ?_))))))))
   rintro _ _ ⟨_, ⟨p64, _, c66, C67, rfl, o67, p68, _, c70, C71, rfl, o71, p72, _, c74, C75, rfl, o75, p76, _, c78, C79, rfl, o79, rfl, rfl⟩, rfl⟩
   refine dM J (dT J (dT J (dp J ?_)))
   rintro _ _ ⟨b80, rfl, rfl⟩
   refine dC9 29 ts34 J J J (dS J (dn (kw_nx (csr (oM J (oK J (nn (cH J H0 (fun H0 => ?_) (fun H0 => ?_)))))))))
   ·refine sr (oD (stp_build (cs := #[sN, sN, sN, I 0, I 0, I 0, I 0, sN, I 0, sN, I 0]) sE bt37_19) J (oC11 1 ts37 J J (oS J (oS J (sR J (kR (kR (kA 30 (kA 31 (kA 32 ?_))))))))))
    refine kA 33 (kA 34 ?_)
    obtain rfl := sI H0
    exact kr results18 (.cons (.cellN (us := [_, _, _, _, _, _, _, _, _, _, _]) ts37 J (Cells.box (id := 1) J 11 J)) (.cons (.tmp J) (.cons (.tmp J) (rT J)))) [30, 31, 32, 33, 34] (sl J oN0 (sl J oN0 (sl J oN0 (sl J oN0 (sl J oN0 ⟨J, J⟩)))))
   obtain ⟨x82, e82, H0⟩ := bS H0
   refine kz (cR (oB9 29 ts34 J (oA 0 u37 J ts34 J (oC11 12 ts34 J J (ns (oA 0 u37 J ts34 J (oB9 12 ts34 J (oB2 13 ts50 J (oM J (oM J (oE (uC 35 cf42 (fun w hw => c_i_PutPage fl w x63.1 x33 x39.2.1 a3 J (owp 25 J o67 hw) J (owp 26 J o71 hw) J (owp 27 J o75 hw) J (owp 28 J o79 hw) (rp hg hw) x82 e82) (yD J J J J)) J ?_)))))))))))
   rintro _ _ ⟨_, ⟨p83, _, c85, C86, rfl, o86, p87, _, c89, C90, rfl, o90, p91, _, c93, C94, rfl, o94, p95, _, c97, C98, rfl, o98, rfl, rfl⟩, rfl⟩
   refine oMTT J J J (oE (stpU_alloc 39 tz34 J) J ?_)
   rintro _ _ ⟨b99, rfl, rfl⟩
   refine oC9 39 ts34 J J (sq J (oM J (oK J (nn (cH J H0 (fun H0 => ?_) (fun H0 => ?_))))))
   ·refine sr (oD (stp_build (cs := #[sN, sN, sN, I 0, I 0, I 0, I 0, sN, I 0, sN, I 0]) sE bt37_19) J (oC11 1 ts37 J J (oS J (oS J (sR J (kR (kA 40 (kA 41 (kA 42 (kA 43 ?_))))))))))
    refine kA 44 ?_
    obtain rfl := sI H0
    exact kr results18 (.cons (.cellN (us := [_, _, _, _, _, _, _, _, _, _, _]) ts37 J (Cells.box (id := 1) J 11 J)) (.cons (.tmp J) (.cons (.tmp J) (rT J)))) [40, 41, 42, 43, 44] (sl J oN0 (sl J oN0 (sl J oN0 (sl J oN0 (sl J oN0 ⟨J, J⟩)))))
   obtain ⟨x101, e101, H0⟩ := bS H0
   refine kz (cR (oB9 39 ts34 J (oA 0 u37 J ts34 J (oC11 12 ts34 J J (ns (oA 0 u37 J ts34 J (oB9 12 ts34 J (oM J (oM J (oE (uC 45 cf43 (fun w hw => c_i_TouchPage fl w x82.1 a1 a2 J (owp 35 J o86 hw) J (owp 36 J o90 hw) J (owp 37 J o94 hw) J (owp 38 J o98 hw) (rp hg hw) x101 e101) (yC J J J)) J ?_))))))))))
   rintro _ _ ⟨_, ⟨p102, _, c104, C105, rfl, o105, p106, _, c108, C109, rfl, o109, p110, _, c112, C113, rfl, o113, p114, _, c116, C117, rfl, o117, rfl, rfl⟩, rfl⟩
   refine oMTT J J J (oT J (oT J (oE (stpU_alloc 49 tz34 J) J ?_)))
   rintro _ _ ⟨b118, rfl, rfl⟩
   refine oC9 49 ts34 J J (oS J (oS J (sq J (oM J (oK J (nn (cH J H0 (fun H0 => ?_) (fun H0 => ?_))))))))
   ·refine sr (oD (stp_build (cs := #[sN, sN, sN, I 0, I 0, I 0, I 0, sN, I 0, sN, I 0]) sE bt37_19) J (oC11 1 ts37 J J (oS J (oS J (sR J (kA 50 (kA 51 (kA 52 (kA 53 (kA 54 ?_))))))))))
    obtain rfl := sI H0
    exact kr results18 (.cons (.cellN (us := [_, _, _, _, _, _, _, _, _, _, _]) ts37 J (Cells.box (id := 1) J 11 J)) (.cons (.tmp J) (.cons (.tmp J) (rT J)))) [50, 51, 52, 53, 54] (sl J oN0 (sl J oN0 (sl J oN0 (sl J oN0 (sl J oN0 ⟨J, J⟩)))))
   obtain ⟨x120, e120, H0⟩ := bS H0
   refine ks (oB9 49 ts34 J (oA 0 u37 J ts34 J (oC11 12 ts34 J J (ns (oAL 9 u37 J ts35 J 12 J (oM J (oD (stp_indexAddr u35 ts4 (by decide) J J J (Rdb.own (id := 18) J o59) e120) J (oF (stpU_storeEl (id := 18) (i := 0) true (by decide) ts4 J J J o59 e120 J J J J) ?_))))))))
   rintro _ _ ⟨C121, rfl, o121⟩
   obtain ⟨y122, ey122, H0⟩ := bS H0
   refine nq (oM J (oM J (ow_cutY 3 135 y122 ?_ ?_)))
   ·rcases Bool.eq_false_or_eq_true (decide (x35 < 0)) with hy122 | hy122
    ·have ey122 := cond_t ey122 hy122
     refine oG J hy122 (mv J) J (oG J hy122 (stp_eql J J) J (oD (stp_pick_t J hy122 J) J ?_))
     obtain rfl := sI ey122
     exact ow_nil (jy 3 0)
    have ey122 := cond_f ey122 hy122
    refine oO J hy122 J (oO J hy122 J (oD (stp_pick_f J hy122 J) J ?_))
    obtain rfl := sI ey122
    exact ow_nil (jy 3 0)
   refine ow_nil (kw_nx (cH J H0 (fun H0 => ?_) (fun H0 => ?_)))
   ·refine cR (ss J (oB11 12 ts37 J (oM J (oM J (oC11 1 ts37 J J (oS J (oS J (sn J (cw_ret ?_)))))))))
    obtain rfl := sI H0
    exact kr results18 (.cons (.cellN (us := [_, _, _, _, _, _, _, _, _, _, _]) ts37 J (Cells.box (id := 1) J 11 J)) (.cons (.tmp J) (.cons (.tmp J) (rT J)))) [45, 46, 47, 48, 18] (sl J o105 (sl J o109 (sl J o113 (sl J o117 (sl (by simp) o121 ⟨J, J⟩)))))
   refine ks (oB11 12 ts37 J (oM J (oM J (oC11 1 ts37 J J (oS J (oS J (sn J (cw_ret ?_))))))))
   obtain rfl := sI H0
   exact kr results18 (.cons (.cellN (us := [_, _, _, _, _, _, _, _, _, _, _]) ts37 J (Cells.box (id := 1) J 11 J)) (.cons (.tmp J) (.cons (.tmp J) (rT J)))) [45, 46, 47, 48, 18] (sl J o105 (sl J o109 (sl J o113 (sl J o117 (sl (by simp) o121 ⟨J, J⟩)))))
  obtain ⟨x124, e124, H0⟩ := bS H0
  refine ks (oA 0 u37 J ts34 J (oB9 12 ts34 J (oB2 13 ts50 J (oM J (oM J (oE (uC 55 cf42 (fun w hw => c_i_PutPage fl w x11.m x33 x37.1 a3 J (owp 7 J o15 hw) J (owp 8 J o19 hw) J (owp 9 J o23 hw) J (owp 10 J o27 hw) (rp hg hw) x124 e124) (yD J J J J)) J ?_))))))
  rintro _ _ ⟨_, ⟨p125, _, c127, C128, rfl, o128, p129, _, c131, C132, rfl, o132, p133, _, c135, C136, rfl, o136, p137, _, c139, C140, rfl, o140, rfl, rfl⟩, rfl⟩
  refine oMTT J J J (oE (stpU_alloc 59 tz34 J) J ?_)
  rintro _ _ ⟨b141, rfl, rfl⟩
  refine oC9 59 ts34 J J (sq J (oM J (oK J (nn (cH J H0 (fun H0 => ?_) (fun H0 => ?_))))))
  ·refine sr (oD (stp_build (cs := #[sN, sN, sN, I 0, I 0, I 0, I 0, sN, I 0, sN, I 0]) sE bt37_19) J (oC11 1 ts37 J J (oS J (oS J (sR J (kR (kA 60 (kA 61 (kA 62 (kA 63 ?_))))))))))
   refine kA 64 ?_
   obtain rfl := sI H0
   exact kr results18 (.cons (.cellN (us := [_, _, _, _, _, _, _, _, _, _, _]) ts37 J (Cells.box (id := 1) J 11 J)) (.cons (.tmp J) (.cons (.tmp J) (rT J)))) [60, 61, 62, 63, 64] (sl J oN0 (sl J oN0 (sl J oN0 (sl J oN0 (sl J oN0 ⟨J, J⟩)))))
  obtain ⟨x143, e143, H0⟩ := bS H0
  refine kz (cR (oB9 59 ts34 J (oA 0 u37 J ts34 J (oC11 12 ts34 J J (ns (oA 0 u37 J ts34 J (oB9 12 ts34 J (oM J (oM J (oE (uC 65 cf43 (fun w hw => c_i_TouchPage fl w x124.1 a1 a2 J (owp 55 J o128 hw) J (owp 56 J o132 hw) J (owp 57 J o136 hw) J (owp 58 J o140 hw) (rp hg hw) x143 e143) (yC J J J)) J ?_))))))))))
  rintro _ _ ⟨_, ⟨p144, _, c146, C147, rfl, o147, p148, _, c150, C151, rfl, o151, p152, _, c154, C155, rfl, o155, p156, _, c158, C159, rfl, o159, rfl, rfl⟩, rfl⟩
  refine oMTT J J J (oT J (oT J (oE (stpU_alloc 69 tz34 J) J ?_)))
  rintro _ _ ⟨b160, rfl, rfl⟩
  refine oC9 69 ts34 J J (oS J (oS J (sq J (oM J (oK J (nn (cH J H0 (fun H0 => ?_) (fun H0 => ?_))))))))
  ·refine sr (oD (stp_build (cs := #[sN, sN, sN, I 0, I 0, I 0, I 0, sN, I 0, sN, I 0]) sE bt37_19) J (oC11 1 ts37 J J (oS J (oS J (sR J (kA 70 (kA 71 (kA 72 (kA 73 (kA 74 ?_))))))))))
   obtain rfl := sI H0
   exact kr results18 (.cons (.cellN (us := [_, _, _, _, _, _, _, _, _, _, _]) ts37 J (Cells.box (id := 1) J 11 J)) (.cons (.tmp J) (.cons (.tmp J) (rT J)))) [70, 71, 72, 73, 74] (sl J oN0 (sl J oN0 (sl J oN0 (sl J oN0 (sl J oN0 ⟨J, J⟩)))))
  obtain ⟨x162, e162, H0⟩ := bS H0
  refine ks (oB9 69 ts34 J (oA 0 u37 J ts34 J (oC11 12 ts34 J J (ns (oAL 9 u37 J ts35 J 12 J (oM J (oD (stp_indexAddr u35 ts4 (by decide) J J J (Rdb.own (id := 11) J o31) e162) J (oF (stpU_storeEl (id := 11) (i := 0) true (by decide) ts4 J J J o31 e162 J J J J) ?_))))))))
  rintro _ _ ⟨C163, rfl, o163⟩
  obtain ⟨y164, ey164, H0⟩ := bS H0
  refine nq (oM J (oM J (ow_cutY 3 135 y164 ?_ ?_)))
  ·rcases Bool.eq_false_or_eq_true (decide (x35 < 0)) with hy164 | hy164
   ·have ey164 := cond_t ey164 hy164
    refine oG J hy164 (mv J) J (oG J hy164 (stp_eql J J) J (oD (stp_pick_t J hy164 J) J ?_))
    obtain rfl := sI ey164
    exact ow_nil (jy 3 0)
   have ey164 := cond_f ey164 hy164
   refine oO J hy164 J (oO J hy164 J (oD (stp_pick_f J hy164 J) J ?_))
   obtain rfl := sI ey164
   exact ow_nil (jy 3 0)
  refine ow_nil (kw_nx (cH J H0 (fun H0 => ?_) (fun H0 => ?_)))
  ·refine cR (ss J (oB11 12 ts37 J (oM J (oM J (oC11 1 ts37 J J (oS J (oS J (sn J (cw_ret ?_)))))))))
   obtain rfl := sI H0
   exact kr results18 (.cons (.cellN (us := [_, _, _, _, _, _, _, _, _, _, _]) ts37 J (Cells.box (id := 1) J 11 J)) (.cons (.tmp J) (.cons (.tmp J) (rT J)))) [65, 66, 67, 68, 11] (sl J o147 (sl J o151 (sl J o155 (sl J o159 (sl (by simp) o163 ⟨J, J⟩)))))
  refine ks (oB11 12 ts37 J (oM J (oM J (oC11 1 ts37 J J (oS J (oS J (sn J (cw_ret ?_))))))))
  obtain rfl := sI H0
  exact kr results18 (.cons (.cellN (us := [_, _, _, _, _, _, _, _, _, _, _]) ts37 J (Cells.box (id := 1) J 11 J)) (.cons (.tmp J) (.cons (.tmp J) (rT J)))) [65, 66, 67, 68, 11] (sl J o147 (sl J o151 (sl J o155 (sl J o159 (sl (by simp) o163 ⟨J, J⟩)))))
 obtain ⟨x166, e166, H0⟩ := bS H0
 refine ks (oA 0 u37 J ts34 J (oB9 12 ts34 J (oM J (oM J (oE (uC 75 cf43 (fun w hw => c_i_TouchPage fl w x11.m a1 a2 J (owp 7 J o15 hw) J (owp 8 J o19 hw) J (owp 9 J o23 hw) J (owp 10 J o27 hw) (rp hg hw) x166 e166) (yC J J J)) J ?_)))))
 rintro _ _ ⟨_, ⟨p167, _, c169, C170, rfl, o170, p171, _, c173, C174, rfl, o174, p175, _, c177, C178, rfl, o178, p179, _, c181, C182, rfl, o182, rfl, rfl⟩, rfl⟩
 refine oMTT J J J (oT J (oT J (oE (stpU_alloc 79 tz34 J) J ?_)))
 rintro _ _ ⟨b183, rfl, rfl⟩
 refine oC9 79 ts34 J J (oS J (oS J (sq J (oM J (oK J (nn (cH J H0 (fun H0 => ?_) (fun H0 => ?_))))))))
 ·refine sr (oD (stp_build (cs := #[sN, sN, sN, I 0, I 0, I 0, I 0, sN, I 0, sN, I 0]) sE bt37_19) J (oC11 1 ts37 J J (oS J (oS J (sR J (kA 80 (kA 81 (kA 82 (kA 83 (kA 84 ?_))))))))))
  obtain rfl := sI H0
  exact kr results18 (.cons (.cellN (us := [_, _, _, _, _, _, _, _, _, _, _]) ts37 J (Cells.box (id := 1) J 11 J)) (.cons (.tmp J) (.cons (.tmp J) (rT J)))) [80, 81, 82, 83, 84] (sl J oN0 (sl J oN0 (sl J oN0 (sl J oN0 (sl J oN0 ⟨J, J⟩)))))
 obtain ⟨x185, e185, H0⟩ := bS H0
 refine ks (oB9 79 ts34 J (oA 0 u37 J ts34 J (oC11 12 ts34 J J (ns (oAL 9 u37 J ts35 J 12 J (oM J (oD (stp_indexAddr u35 ts4 (by decide) J J J (Rdb.own (id := 11) J o31) e185) J (oF (stpU_storeEl (id := 11) (i := 0) true (by decide) ts4 J J J o31 e185 J J J J) ?_))))))))
 rintro _ _ ⟨C186, rfl, o186⟩
 obtain ⟨y187, ey187, H0⟩ := bS H0
 refine nq (oM J (oM J (ow_cutY 3 135 y187 ?_ ?_)))
 ·rcases Bool.eq_false_or_eq_true (decide (x35 < 0)) with hy187 | hy187
  ·have ey187 := cond_t ey187 hy187
   refine oG J hy187 (mv J) J (oG J hy187 (stp_eql J J) J (oD (stp_pick_t J hy187 J) J ?_))
   obtain rfl := sI ey187
   exact ow_nil (jy 3 0)
  have ey187 := cond_f ey187 hy187
  refine oO J hy187 J (oO J hy187 J (oD (stp_pick_f J hy187 J) J ?_))
  obtain rfl := sI ey187
  exact ow_nil (jy 3 0)
 refine ow_nil (kw_nx (cH J H0 (fun H0 => ?_) (fun H0 => ?_)))
 ·refine cR (ss J (oB11 12 ts37 J (oM J (oM J (oC11 1 ts37 J J (oS J (oS J (sn J (cw_ret ?_)))))))))
  obtain rfl := sI H0
  exact kr results18 (.cons (.cellN (us := [_, _, _, _, _, _, _, _, _, _, _]) ts37 J (Cells.box (id := 1) J 11 J)) (.cons (.tmp J) (.cons (.tmp J) (rT J)))) [75, 76, 77, 78, 11] (sl J o170 (sl J o174 (sl J o178 (sl J o182 (sl (by simp) o186 ⟨J, J⟩)))))
 refine ks (oB11 12 ts37 J (oM J (oM J (oC11 1 ts37 J J (oS J (oS J (sn J (cw_ret ?_))))))))
 obtain rfl := sI H0
 exact kr results18 (.cons (.cellN (us := [_, _, _, _, _, _, _, _, _, _, _]) ts37 J (Cells.box (id := 1) J 11 J)) (.cons (.tmp J) (.cons (.tmp J) (rT J)))) [75, 76, 77, 78, 11] (sl J o170 (sl J o174 (sl J o178 (sl J o182 (sl (by simp) o186 ⟨J, J⟩)))))

theorem c_i_UsePages (fl : Nat) (w : World) (a0 : Mm) (a1 : (List Int)) (hn0_0 : n0_0 = (a0.m.t.b).length) (hr0_0 : RO w [] (RdL p0_0 c0_0 a0.m.t.b)) (hn0_1 : n0_1 = (a0.m.t.f).length) (hr0_1 : RO w [] (RdL p0_1 c0_1 a0.m.t.f)) (hn0_2 : n0_2 = (a0.m.c.l).length) (hr0_2 : RO w [] (RdL p0_2 c0_2 a0.m.c.l)) (hn0_3 : n0_3 = (a0.m.g.o).length) (hr0_3 : RO w [] (RdL p0_3 c0_3 a0.m.g.o)) (hn0_4 : n0_4 = (a0.k).length) (hr0_4 : RO w [] (RdL p0_4 c0_4 a0.k)) (hn1_0 : n1_0 = (a1).length) (hr1_0 : RO w [] (RdL p1_0 c1_0 a1)) (hg : RO w [] (fun w' => w'.rangeAt 0 0 [.bool false, I 0, I 0, I 0, I (-1)])) (r : Mm × (List Int) × Bool) (H0 : i_UsePages fl a0 a1 = some r) :
  Ct prog 9 [.agg #[.slice p0_0 n0_0 c0_0, .slice p0_1 n0_1 c0_1, .slice p0_2 n0_2 c0_2, I a0.m.c.h, I a0.m.g.c, I a0.m.g.n, I a0.m.g.r, .slice p0_3 n0_3 c0_3, I a0.m.s, .slice p0_4 n0_4 c0_4, I a0.h], .slice p1_0 n1_0 c1_0] w [] (fun rv h' => SL 3 r.1.m.t.b fun x0 y0 z0 C0 => SL 57 r.1.m.t.f fun x1 y1 z1 C1 => SL 104 r.1.m.c.l fun x2 y2 z2 C2 => SL 70 r.1.m.g.o fun x3 y3 z3 C3 => SL 4 r.1.k fun x4 y4 z4 C4 => SL 3 r.2.1 fun x5 y5 z5 C5 => rv = .tuple #[.agg #[.slice x0 y0 z0, .slice x1 y1 z1, .slice x2 y2 z2, I r.1.m.c.h, I r.1.m.g.c, I r.1.m.g.n, I r.1.m.g.r, .slice x3 y3 z3, I r.1.m.s, .slice x4 y4 z4, I r.1.h], .slice x5 y5 z5, .bool r.2.2] ∧ h' = [(0, C0), (1, C1), (2, C2), (3, C3), (4, C4), (5, C5)]) := by
 subst hn0_0 hn0_1 hn0_2 hn0_3 hn0_4 hn1_0
 unfold i_UsePages at H0
 refine ct_of_cw func9 J ntmps9 J (Sat.refl _ _) ?_
 refine sr (oE (stpU_box 0 J J) J ?_)
 rintro _ _ ⟨b1, rfl, rfl⟩
 refine oE (stpU_alloc 1 tz37 J) J ?_
 rintro _ _ ⟨b2, rfl, rfl⟩
 obtain ⟨x3, e3, H0⟩ := bS H0
 refine oS J (sq J (oB11 0 ts37 J (oE (uC 2 cf14 (fun w hw => c_i_MemoryValid fl w a0 J (rp hr0_0 hw) J (rp hr0_1 hw) J (rp hr0_2 hw) J (rp hr0_3 hw) J (rp hr0_4 hw) (rp hg hw) x3 e3) (yA J)) J ?_)))
 rintro _ _ ⟨_, ⟨rfl, rfl⟩, rfl⟩
 obtain ⟨y4, ey4, H0⟩ := bS H0
 refine oK J (oM J (ow_cutY 4 22 y4 ?_ ?_))
 ·rcases Bool.eq_false_or_eq_true (!x3) with hy4 | hy4
  ·have ey4 := cond_t ey4 hy4
   refine oO J hy4 J (oO J hy4 J (oO J hy4 J (oD (stp_pick_t J hy4 J) J ?_)))
   obtain rfl := sI ey4
   exact ow_nil (jy 4 0)
  have ey4 := cond_f ey4 hy4
  refine oG J hy4 (mv J) J (oG J hy4 (stp_len u23 J) J (oG J hy4 (stp_gtr J J) J (oD (stp_pick_f J hy4 J) J ?_)))
  obtain rfl := sI ey4
  exact ow_nil (jy 4 0)
 refine ow_nil (kw_nx (cH J H0 (fun H0 => ?_) (fun H0 => ?_)))
 ·refine sr (oD (stp_build (cs := #[sN, sN, sN, I 0, I 0, I 0, I 0, sN, I 0, sN, I 0]) sE bt37_19) J (oC11 1 ts37 J J (oS J (sR J (kA 2 (kA 3 (kA 4 (kA 5 (kA 6 (kA 7 ?_))))))))))
  obtain rfl := sI H0
  exact kr results9 (.cons (.cellN (us := [_, _, _, _, _, _, _, _, _, _, _]) ts37 J (Cells.box (id := 1) J 11 J)) (.cons (.tmp J) (rT J))) [2, 3, 4, 5, 6, 7] (sl J oN0 (sl J oN0 (sl J oN0 (sl J oN0 (sl J oN0 (sl J oN0 ⟨J, J⟩))))))
 obtain ⟨x6, e6, H0⟩ := bS H0
 refine ks (oB11 0 ts37 J (oE (uC 8 cf25 (fun w hw => c_i_Memory_clone fl w a0 J (rp hr0_0 hw) J (rp hr0_1 hw) J (rp hr0_2 hw) J (rp hr0_3 hw) J (rp hr0_4 hw) x6 e6) (yA J)) J ?_))
 rintro _ _ ⟨_, ⟨p7, _, c9, C10, rfl, o10, p11, _, c13, C14, rfl, o14, p15, _, c17, C18, rfl, o18, p19, _, c21, C22, rfl, o22, p23, _, c25, C26, rfl, o26, rfl, rfl⟩, rfl⟩
 refine oE (stpU_alloc 13 tz37 J) J ?_
 rintro _ _ ⟨b27, rfl, rfl⟩
 obtain ⟨x28, e28, H0⟩ := bS H0
 refine oC11 13 ts37 J J (ns (oE (stpU_make sl23 J 14 J J e28) J ?_))
 rintro _ _ ⟨p29, C30, rfl, rfl, o30⟩
 obtain ⟨o0_0, eo0_0, H0⟩ := bS H0
 refine sq J (oM J (oD (stp_len u23 J) J (oM J (nn (lp (fun f a b c d e g i j k l m n p => i_UsePages_L0 fl a1 f a b c d e g i j k l m n p = some o0_0) (fun a b c d e g i j k l m n p => o0_0 = .out (a, b, c, d, e, g, i, j, k, l, m, n, p)) (fun R s h => ∃ v31 v36 v41 v42 v47 v48 v49 v50 v51 v56 v57 v62 v64 p32 n33 c34 C35 p37 n38 c39 C40 p43 n44 c45 C46 p52 n53 c54 C55 p58 n59 c60 C61 C63, R v31 v36 v41 v42 v47 v48 v49 v50 v51 v56 v57 v62 v64 ∧ s = [(4, .pointer (some ⟨b2, 0, none⟩)), (7, .pointer (some ⟨b27, 0, none⟩)), (8, .slice p29 x28 x28), (27, .slice p1_0 ((a1).length) c1_0), (28, I ((a1).length : Int)), (29, I v64)] ∧ h = [(1, [(b2, .cells #[sN, sN, sN, I 0, I 0, I 0, I 0, sN, I 0, sN, I 0] 37 (0, 0))]), (8, C35), (9, C40), (10, C46), (11, C55), (12, C61), (13, [(b27, .cells #[.slice p32 n33 c34, .slice p37 n38 c39, .slice p43 n44 c45, I v47, I v48, I v49, I v50, .slice p52 n53 c54, I v56, .slice p58 n59 c60, I v41] 37 (0, 0))]), (14, C63)] ∧ n33 = (v31).length ∧ OwnC 3 p32 c34 v31 C35 ∧ n38 = (v36).length ∧ OwnC 57 p37 c39 v36 C40 ∧ n44 = (v42).length ∧ OwnC 104 p43 c45 v42 C46 ∧ n53 = (v51).length ∧ OwnC 70 p52 c54 v51 C55 ∧ n59 = (v57).length ∧ OwnC 4 p58 c60 v57 C61 ∧ x28 = (v62).length ∧ OwnC 3 p29 x28 v62 C63) ⟨_, _, _, _, _, _, _, _, _, _, _, _, _, p7, ((x6.m.t.b).length), c9, C10, p11, ((x6.m.t.f).length), c13, C14, p15, ((x6.m.c.l).length), c17, C18, p19, ((x6.m.g.o).length), c21, C22, p23, ((x6.k).length), c25, C26, C30, eo0_0, J, J, J, o10, J, o14, J, o18, J, o22, J, o26, (by simp), o30⟩ ?_ ?_)))))
 ·rintro fuel _ _ ⟨v31, v36, v41, v42, v47, v48, v49, v50, v51, v56, v57, v62, v64, p32, _, c34, C35, p37, _, c39, C40, p43, _, c45, C46, p52, _, c54, C55, p58, _, c60, C61, C63, H1, rfl, rfl, rfl, o35, rfl, o40, rfl, o46, rfl, o55, rfl, o61, hl63, o63⟩
  rcases fuel with _ | fuel
  ·rw [i_UsePages_L0.eq_1] at H1; cases H1
  rw [i_UsePages_L0.eq_2] at H1
  refine sr (oW J (nn (cq (cH J H1 (fun H1 => ?_) (fun H1 => ?_)))))
  ·obtain ⟨x66, e66, H1⟩ := bS H1
   obtain ⟨x67, e67, H1⟩ := bS H1
   refine kq (cw_block (sr (oD (stp_indexAddr u23 ts3 (by decide) J J J (Rdb.ro hr1_0) e66) J (oD (stp_load1 ts3 J (Cells.el (Rdb.ro hr1_0) (by decide) e66 0 1 J)) J (ss J (oB11 13 ts37 J (oM J (oE (uC 15 cf18 (fun w hw => c_i_UsePage fl w (⟨(⟨(⟨v31, v36⟩ : T), (⟨v42, v47⟩ : Ca), (⟨v48, v49, v50, v51⟩ : Tg), v56⟩ : Mc), v57, v41⟩ : Mm) x66 1 1 J (owp 8 J o35 hw) J (owp 9 J o40 hw) J (owp 10 J o46 hw) J (owp 11 J o55 hw) J (owp 12 J o61 hw) (rp hg hw) x67 e67) (yD J J J J)) J ?_))))))))
   rintro _ _ ⟨_, ⟨p68, _, c70, C71, rfl, o71, p72, _, c74, C75, rfl, o75, p76, _, c78, C79, rfl, o79, p80, _, c82, C83, rfl, o83, p84, _, c86, C87, rfl, o87, rfl, rfl⟩, rfl⟩
   refine oMTT J J J (oT J (oT J (oE (stpU_alloc 20 tz37 J) J ?_)))
   rintro _ _ ⟨b88, rfl, rfl⟩
   refine oC11 20 ts37 J J (oS J (oS J (sq J (oM J (oK J (nn (cH J H1 (fun H1 => ?_) (fun H1 => ?_))))))))
   ·refine sr (oD (stp_build (cs := #[sN, sN, sN, I 0, I 0, I 0, I 0, sN, I 0, sN, I 0]) sE bt37_19) J (oC11 1 ts37 J J (oS J (sR J (kw_bl_ret (kR (ar (kw_bl_ret (xr (kR ?_))))))))))
    refine kA 21 (kA 22 (kA 23 (kA 24 (kA 25 (kA 26 ?_)))))
    obtain rfl := sI H1
    obtain rfl := sI H0
    exact kr results9 (.cons (.cellN (us := [_, _, _, _, _, _, _, _, _, _, _]) ts37 J (Cells.box (id := 1) J 11 J)) (.cons (.tmp J) (rT J))) [21, 22, 23, 24, 25, 26] (sl J oN0 (sl J oN0 (sl J oN0 (sl J oN0 (sl J oN0 (sl J oN0 ⟨J, J⟩))))))
   obtain ⟨x90, e90, H1⟩ := bS H1
   obtain ⟨x91, e91, H1⟩ := bS H1
   refine ks (oB11 20 ts37 J (oC11 13 ts37 J J (nn (cR (oM J (oM J (oD (stp_indexAddr u23 ts3 (by decide) J (by simp [hl63]) J (Rdb.own (id := 14) J o63) e90) J (oD (stp_load1 ts3 J (Cells.el (Rdb.own (id := 14) J o63) (by decide) e90 0 1 J)) J (oP e91 J (oD (stp_indexAddr u23 ts3 (by decide) J (by simp [hl63]) J (Rdb.own (id := 14) J o63) e90) J (oF (stpU_storeEl (id := 14) (i := 0) x91 (by decide) ts3 J J J o63 e90 J J J J) ?_)))))))))))
   rintro _ _ ⟨C92, rfl, o92⟩
   obtain ⟨x93, e93, H1⟩ := bS H1
   exact ow_nil (kb (cR (oP e93 J (oM J (ow_nil (kaS [1, 15, 16, 17, 18, 19, 13, 14] ⟨_, _, _, _, _, _, _, _, _, _, _, _, _, p68, ((x67.1.m.t.b).length), c70, C71, p72, ((x67.1.m.t.f).length), c74, C75, p76, ((x67.1.m.c.l).length), c78, C79, p80, ((x67.1.m.g.o).length), c82, C83, p84, ((x67.1.k).length), c86, C87, C92, H1, J, J, J, o71, J, o75, J, o79, J, o83, J, o87, (by simp [hl63]), o92⟩))))))
  refine cw_exit (kw_nx_exit (ax (kw_bl ?_)))
  obtain rfl := sI H1
  exact kx ⟨_, _, _, _, _, _, _, _, _, _, _, _, _, p32, ((v31).length), c34, C35, p37, ((v36).length), c39, C40, p43, ((v42).length), c45, C46, p52, ((v51).length), c54, C55, p58, ((v57).length), c60, C61, C63, J, J, J, J, o35, J, o40, J, o46, J, o55, J, o61, (by simp [hl63]), o63⟩
 rintro _ _ ⟨v31, v36, v41, v42, v47, v48, v49, v50, v51, v56, v57, v62, v64, p32, _, c34, C35, p37, _, c39, C40, p43, _, c45, C46, p52, _, c54, C55, p58, _, c60, C61, C63, rfl, rfl, rfl, rfl, o35, rfl, o40, rfl, o46, rfl, o55, rfl, o61, hl63, o63⟩
 refine kw_nx (sr (oB11 13 ts37 J (oM J (oC11 1 ts37 J J (oS J (sn J (cw_ret ?_)))))))
 obtain rfl := sI H0
 exact kr results9 (.cons (.cellN (us := [_, _, _, _, _, _, _, _, _, _, _]) ts37 J (Cells.box (id := 1) J 11 J)) (.cons (.tmp J) (rT J))) [8, 9, 10, 11, 12, 14] (sl J o35 (sl J o40 (sl J o46 (sl J o55 (sl J o61 (sl (by simp [hl63]) o63 ⟨J, J⟩))))))

theorem c_slices_Equal_Int (fl : Nat) (w : World) (a0 : (List Int)) (a1 : (List Int)) (hn0_0 : n0_0 = (a0).length) (hr0_0 : RO w [] (RdL p0_0 c0_0 a0)) (hn1_0 : n1_0 = (a1).length) (hr1_0 : RO w [] (RdL p1_0 c1_0 a1)) (r : Bool) (H0 : slices_Equal_Int fl a0 a1 = some r) :
  Ct prog 103 [.slice p0_0 n0_0 c0_0, .slice p1_0 n1_0 c1_0] w [] (fun rv h' => rv = .bool r ∧ h' = []) := by
 subst hn0_0 hn1_0
 unfold slices_Equal_Int at H0
 refine ct_of_cw func103 J ntmps103 J (Sat.refl _ _) ?_
 refine sr (sq J (oM J (oD (stp_len u23 J) J (oM J (oD (stp_len u23 J) J (oU J (nn (cH J H0 (fun H0 => ?_) (fun H0 => ?_)))))))))
 ·refine sr (sr1 J (kR ?_))
  obtain rfl := sI H0
  exact kr results103 (rT J) [] ⟨J, J⟩
 obtain ⟨o0_0, eo0_0, H0⟩ := bS H0
 refine kq (sr (oM J (oD (stp_len u23 J) J (oM J (nn (lp (fun f a => slices_Equal_Int_L0 fl a0 a1 f a = some o0_0) (fun a => o0_0 = .out a) (fun R s h => ∃ v2, R v2 ∧ s = [(0, .slice p0_0 ((a0).length) c0_0), (1, .slice p1_0 ((a1).length) c1_0), (12, I ((a0).length : Int)), (13, I v2)] ∧ h = []) ⟨_, eo0_0, J, J⟩ ?_ ?_))))))
 ·rintro fuel _ _ ⟨v2, H1, rfl, rfl⟩
  rcases fuel with _ | fuel
  ·rw [slices_Equal_Int_L0.eq_1] at H1; cases H1
  rw [slices_Equal_Int_L0.eq_2] at H1
  refine sr (oW J (nn (cq (cH J H1 (fun H1 => ?_) (fun H1 => ?_)))))
  ·obtain ⟨x4, e4, H1⟩ := bS H1
   refine kq (cw_block (sr (oM J (sn J (cq (rdt g_mixed (rn 0 9) ⟨[], [], []⟩ (dM J (dM J (dD J (stp_indexAddr u23 ts3 (by decide) J J J (Rdb.ro hr0_0) e4) (dD J (stp_load1 ts3 J (Cells.el (Rdb.ro hr0_0) (by decide) e4 0 1 J)) ?_))))))))))
   obtain ⟨x5, e5, H1⟩ := bS H1
   refine dM J (dM J (dD J (stp_indexAddr u23 ts3 (by decide) J J J (Rdb.ro hr1_0) e5) (dD J (stp_load1 ts3 J (Cells.el (Rdb.ro hr1_0) (by decide) e5 0 1 J)) (dNe J (dn (kw_nx (cH J H1 (fun H1 => ?_) (fun H1 => ?_))))))))
   ·refine sr (sr1 J (kw_bl_ret (kR (ar (kw_bl_ret (xr (kR ?_)))))))
    obtain rfl := sI H1
    obtain rfl := sI H0
    exact kr results103 (rT J) [] ⟨J, J⟩
   obtain ⟨x7, e7, H1⟩ := bS H1
   exact cw_skip (kb (cR (oP e7 J (oM J (ow_nil (ka ⟨_, H1, J, J⟩))))))
  refine cw_exit (kw_nx_exit (ax (kw_bl ?_)))
  obtain rfl := sI H1
  exact kx ⟨_, J, J, J⟩
 rintro _ _ ⟨v2, rfl, rfl, rfl⟩
 refine kw_nx (sr (sn J (cw_ret ?_)))
 obtain rfl := sI H0
 exact kr results103 (rT J) [] ⟨J, J⟩

theorem c_slices_Equal_Frame (fl : Nat) (w : World) (a0 : (List F)) (a1 : (List F)) (hn0_0 : n0_0 = (a0).length) (hr0_0 : RO w [] (RdL p0_0 c0_0 a0)) (hn1_0 : n1_0 = (a1).length) (hr1_0 : RO w [] (RdL p1_0 c1_0 a1)) (r : Bool) (H0 : slices_Equal_Frame fl a0 a1 = some r) :
  Ct prog 104 [.slice p0_0 n0_0 c0_0, .slice p1_0 n1_0 c1_0] w [] (fun rv h' => rv = .bool r ∧ h' = []) := by
 subst hn0_0 hn1_0
 unfold slices_Equal_Frame at H0
 refine ct_of_cw func104 J ntmps104 J (Sat.refl _ _) ?_
 refine sr (sq J (oM J (oD (stp_len u24 J) J (oM J (oD (stp_len u24 J) J (oU J (nn (cH J H0 (fun H0 => ?_) (fun H0 => ?_)))))))))
 ·refine sr (sr1 J (kR ?_))
  obtain rfl := sI H0
  exact kr results104 (rT J) [] ⟨J, J⟩
 obtain ⟨o0_0, eo0_0, H0⟩ := bS H0
 refine kq (sr (oM J (oD (stp_len u24 J) J (oM J (nn (lp (fun f a => slices_Equal_Frame_L0 fl a0 a1 f a = some o0_0) (fun a => o0_0 = .out a) (fun R s h => ∃ v2, R v2 ∧ s = [(0, .slice p0_0 ((a0).length) c0_0), (1, .slice p1_0 ((a1).length) c1_0), (12, I ((a0).length : Int)), (13, I v2)] ∧ h = []) ⟨_, eo0_0, J, J⟩ ?_ ?_))))))
 ·rintro fuel _ _ ⟨v2, H1, rfl, rfl⟩
  rcases fuel with _ | fuel
  ·rw [slices_Equal_Frame_L0.eq_1] at H1; cases H1
  rw [slices_Equal_Frame_L0.eq_2] at H1
  refine sr (oW J (nn (cq (cH J H1 (fun H1 => ?_) (fun H1 => ?_)))))
  ·obtain ⟨x4, e4, H1⟩ := bS H1
   refine kq (cw_block (sr (oM J (sn J (cq (rdt g_mixed (rn 0 9) ⟨[], [], []⟩ (dM J (dM J (dD J (stp_indexAddr u24 ts57 (by decide) J J J (Rdb.ro hr0_0) e4) (dD J (stp_loadN (us := [_, _, _, _, _]) ts57 J (Cells.el (Rdb.ro hr0_0) (by decide) e4 0 5 J)) ?_))))))))))
   obtain ⟨x5, e5, H1⟩ := bS H1
   refine dM J (dM J (dD J (stp_indexAddr u24 ts57 (by decide) J J J (Rdb.ro hr1_0) e5) (dD J (stp_loadN (us := [_, _, _, _, _]) ts57 J (Cells.el (Rdb.ro hr1_0) (by decide) e5 0 5 J)) (dD J (stp_neqS te57 x4 x5 J J) (dn (kw_nx (cH J H1 (fun H1 => ?_) (fun H1 => ?_))))))))
   ·refine sr (sr1 J (kw_bl_ret (kR (ar (kw_bl_ret (xr (kR ?_)))))))
    obtain rfl := sI H1
    obtain rfl := sI H0
    exact kr results104 (rT J) [] ⟨J, J⟩
   obtain ⟨x7, e7, H1⟩ := bS H1
   exact cw_skip (kb (cR (oP e7 J (oM J (ow_nil (ka ⟨_, H1, J, J⟩))))))
  refine cw_exit (kw_nx_exit (ax (kw_bl ?_)))
  obtain rfl := sI H1
  exact kx ⟨_, J, J, J⟩
 rintro _ _ ⟨v2, rfl, rfl, rfl⟩
 refine kw_nx (sr (sn J (cw_ret ?_)))
 obtain rfl := sI H0
 exact kr results104 (rT J) [] ⟨J, J⟩

theorem c_i_TableSame (fl : Nat) (w : World) (a0 : T) (a1 : T) (hn0_0 : n0_0 = (a0.b).length) (hr0_0 : RO w [] (RdL p0_0 c0_0 a0.b)) (hn0_1 : n0_1 = (a0.f).length) (hr0_1 : RO w [] (RdL p0_1 c0_1 a0.f)) (hn1_0 : n1_0 = (a1.b).length) (hr1_0 : RO w [] (RdL p1_0 c1_0 a1.b)) (hn1_1 : n1_1 = (a1.f).length) (hr1_1 : RO w [] (RdL p1_1 c1_1 a1.f)) (r : Bool) (H0 : i_TableSame fl a0 a1 = some r) :
  Ct prog 57 [.agg #[.slice p0_0 n0_0 c0_0, .slice p0_1 n0_1 c0_1], .agg #[.slice p1_0 n1_0 c1_0, .slice p1_1 n1_1 c1_1]] w [] (fun rv h' => rv = .bool r ∧ h' = []) := by
 subst hn0_0 hn0_1 hn1_0 hn1_1
 unfold i_TableSame at H0
 refine ct_of_cw func57 J ntmps57 J (Sat.refl _ _) ?_
 refine sr (oE (stpU_box 0 J J) J ?_)
 rintro _ _ ⟨b1, rfl, rfl⟩
 refine oE (stpU_box 1 J J) J ?_
 rintro _ _ ⟨b2, rfl, rfl⟩
 obtain ⟨x3, e3, H0⟩ := bS H0
 refine ss J (oAL 0 u26 J ts23 J 0 J (oAL 0 u26 J ts23 J 1 J (oE (uC 2 cf103 (fun w hw => c_slices_Equal_Int fl w a0.b a1.b J (rp hr0_0 hw) J (rp hr1_0 hw) x3 e3) (yB J J)) J ?_)))
 rintro _ _ ⟨_, ⟨rfl, rfl⟩, rfl⟩
 obtain ⟨y4, ey4, H0⟩ := bS H0
 refine oM J (ow_cutY 6 16 y4 ?_ ?_)
 ·rcases Bool.eq_false_or_eq_true x3 with hy4 | hy4
  ·have ey4 := cond_t ey4 hy4
   obtain ⟨x5, e5, ey4⟩ := bS ey4
   refine oG J hy4 (fA 1 u26 J ts24 J J J) J (oG J hy4 (lB 0 ts24 J J J) J (oG J hy4 (fA 1 u26 J ts24 J J J) J (oG J hy4 (lB 1 ts24 J J J) J (ow_eff (.some J hy4) (uC 2 cf104 (fun w hw => c_slices_Equal_Frame fl w a0.f a1.f J (rp hr0_1 hw) J (rp hr1_1 hw) x5 e5) (yB J J)) J ?_))))
   rintro _ _ ⟨_, ⟨rfl, rfl⟩, rfl⟩
   refine oD (stp_pick_t J hy4 J) J ?_
   obtain rfl := sI ey4
   exact ow_nil (jy 6 0)
  have ey4 := cond_f ey4 hy4
  refine oO J hy4 J (oO J hy4 J (oO J hy4 J (oO J hy4 J (oO J hy4 J (oD (stp_pick_f J hy4 J) J ?_)))))
  obtain rfl := sI ey4
  exact ow_nil (jy 6 0)
 refine sn J (cw_ret ?_)
 obtain rfl := sI H0
 exact kr results57 (rT J) [] ⟨J, J⟩

theorem c_slices_Equal_Line (fl : Nat) (w : World) (a0 : (List Ln)) (a1 : (List Ln)) (hn0_0 : n0_0 = (a0).length) (hr0_0 : RO w [] (RdL p0_0 c0_0 a0)) (hn1_0 : n1_0 = (a1).length) (hr1_0 : RO w [] (RdL p1_0 c1_0 a1)) (r : Bool) (H0 : slices_Equal_Line fl a0 a1 = some r) :
  Ct prog 105 [.slice p0_0 n0_0 c0_0, .slice p1_0 n1_0 c1_0] w [] (fun rv h' => rv = .bool r ∧ h' = []) := by
 subst hn0_0 hn1_0
 unfold slices_Equal_Line at H0
 refine ct_of_cw func105 J ntmps105 J (Sat.refl _ _) ?_
 refine sr (sq J (oM J (oD (stp_len u27 J) J (oM J (oD (stp_len u27 J) J (oU J (nn (cH J H0 (fun H0 => ?_) (fun H0 => ?_)))))))))
 ·refine sr (sr1 J (kR ?_))
  obtain rfl := sI H0
  exact kr results105 (rT J) [] ⟨J, J⟩
 obtain ⟨o0_0, eo0_0, H0⟩ := bS H0
 refine kq (sr (oM J (oD (stp_len u27 J) J (oM J (nn (lp (fun f a => slices_Equal_Line_L0 fl a0 a1 f a = some o0_0) (fun a => o0_0 = .out a) (fun R s h => ∃ v2, R v2 ∧ s = [(0, .slice p0_0 ((a0).length) c0_0), (1, .slice p1_0 ((a1).length) c1_0), (12, I ((a0).length : Int)), (13, I v2)] ∧ h = []) ⟨_, eo0_0, J, J⟩ ?_ ?_))))))
 ·rintro fuel _ _ ⟨v2, H1, rfl, rfl⟩
  rcases fuel with _ | fuel
  ·rw [slices_Equal_Line_L0.eq_1] at H1; cases H1
  rw [slices_Equal_Line_L0.eq_2] at H1
  refine sr (oW J (nn (cq (cH J H1 (fun H1 => ?_) (fun H1 => ?_)))))
  ·obtain ⟨x4, e4, H1⟩ := bS H1
   refine kq (cw_block (sr (oM J (sn J (cq (rdt g_mixed (rn 0 9) ⟨[], [], []⟩ (dM J (dM J (dD J (stp_indexAddr u27 ts104 (by decide) J J J (Rdb.ro hr0_0) e4) (dD J (stp_loadN (us := [_, _, _, _, _, _]) ts104 J (Cells.el (Rdb.ro hr0_0) (by decide) e4 0 6 J)) ?_))))))))))
   obtain ⟨x5, e5, H1⟩ := bS H1
   refine dM J (dM J (dD J (stp_indexAddr u27 ts104 (by decide) J J J (Rdb.ro hr1_0) e5) (dD J (stp_loadN (us := [_, _, _, _, _, _]) ts104 J (Cells.el (Rdb.ro hr1_0) (by decide) e5 0 6 J)) (dD J (stp_neqS te104 x4 x5 J J) (dn (kw_nx (cH J H1 (fun H1 => ?_) (fun H1 => ?_))))))))
   ·refine sr (sr1 J (kw_bl_ret (kR (ar (kw_bl_ret (xr (kR ?_)))))))
    obtain rfl := sI H1
    obtain rfl := sI H0
    exact kr results105 (rT J) [] ⟨J, J⟩
   obtain ⟨x7, e7, H1⟩ := bS H1
   exact cw_skip (kb (cR (oP e7 J (oM J (ow_nil (ka ⟨_, H1, J, J⟩))))))
  refine cw_exit (kw_nx_exit (ax (kw_bl ?_)))
  obtain rfl := sI H1
  exact kx ⟨_, J, J, J⟩
 rintro _ _ ⟨v2, rfl, rfl, rfl⟩
 refine kw_nx (sr (sn J (cw_ret ?_)))
 obtain rfl := sI H0
 exact kr results105 (rT J) [] ⟨J, J⟩

theorem c_i_CacheSame (fl : Nat) (w : World) (a0 : Ca) (a1 : Ca) (hn0_0 : n0_0 = (a0.l).length) (hr0_0 : RO w [] (RdL p0_0 c0_0 a0.l)) (hn1_0 : n1_0 = (a1.l).length) (hr1_0 : RO w [] (RdL p1_0 c1_0 a1.l)) (r : Bool) (H0 : i_CacheSame fl a0 a1 = some r) :
  Ct prog 58 [.agg #[.slice p0_0 n0_0 c0_0, I a0.h], .agg #[.slice p1_0 n1_0 c1_0, I a1.h]] w [] (fun rv h' => rv = .bool r ∧ h' = []) := by
 subst hn0_0 hn1_0
 unfold i_CacheSame at H0
 refine ct_of_cw func58 J ntmps58 J (Sat.refl _ _) ?_
 refine sr (oE (stpU_box 0 J J) J ?_)
 rintro _ _ ⟨b1, rfl, rfl⟩
 refine oE (stpU_box 1 J J) J ?_
 rintro _ _ ⟨b2, rfl, rfl⟩
 obtain ⟨y3, ey3, H0⟩ := bS H0
 refine ss J (oAL 1 u29 J ts3 J 0 J (oAL 1 u29 J ts3 J 1 J (oQ J (oM J (ow_cutY 6 16 y3 ?_ ?_)))))
 ·rcases Bool.eq_false_or_eq_true (a0.h == a1.h) with hy3 | hy3
  ·have ey3 := cond_t ey3 hy3
   obtain ⟨x4, e4, ey3⟩ := bS ey3
   refine oG J hy3 (fA 0 u29 J ts27 J J J) J (oG J hy3 (lB 0 ts27 J J J) J (oG J hy3 (fA 0 u29 J ts27 J J J) J (oG J hy3 (lB 1 ts27 J J J) J (ow_eff (.some J hy3) (uC 2 cf105 (fun w hw => c_slices_Equal_Line fl w a0.l a1.l J (rp hr0_0 hw) J (rp hr1_0 hw) x4 e4) (yB J J)) J ?_))))
   rintro _ _ ⟨_, ⟨rfl, rfl⟩, rfl⟩
   refine oD (stp_pick_t J hy3 J) J ?_
   obtain rfl := sI ey3
   exact ow_nil (jy 6 0)
  have ey3 := cond_f ey3 hy3
  refine oO J hy3 J (oO J hy3 J (oO J hy3 J (oO J hy3 J (oO J hy3 J (oD (stp_pick_f J hy3 J) J ?_)))))
  obtain rfl := sI ey3
  exact ow_nil (jy 6 0)
 refine sn J (cw_ret ?_)
 obtain rfl := sI H0
 exact kr results58 (rT J) [] ⟨J, J⟩

theorem c_slices_Equal_Own (fl : Nat) (w : World) (a0 : (List Ow)) (a1 : (List Ow)) (hn0_0 : n0_0 = (a0).length) (hr0_0 : RO w [] (RdL p0_0 c0_0 a0)) (hn1_0 : n1_0 = (a1).length) (hr1_0 : RO w [] (RdL p1_0 c1_0 a1)) (r : Bool) (H0 : slices_Equal_Own fl a0 a1 = some r) :
  Ct prog 30 [.slice p0_0 n0_0 c0_0, .slice p1_0 n1_0 c1_0] w [] (fun rv h' => rv = .bool r ∧ h' = []) := by
 subst hn0_0 hn1_0
 unfold slices_Equal_Own at H0
 refine ct_of_cw func30 J ntmps30 J (Sat.refl _ _) ?_
 refine sr (sq J (oM J (oD (stp_len u30 J) J (oM J (oD (stp_len u30 J) J (oU J (nn (cH J H0 (fun H0 => ?_) (fun H0 => ?_)))))))))
 ·refine sr (sr1 J (kR ?_))
  obtain rfl := sI H0
  exact kr results30 (rT J) [] ⟨J, J⟩
 obtain ⟨o0_0, eo0_0, H0⟩ := bS H0
 refine kq (sr (oM J (oD (stp_len u30 J) J (oM J (nn (lp (fun f a => slices_Equal_Own_L0 fl a0 a1 f a = some o0_0) (fun a => o0_0 = .out a) (fun R s h => ∃ v2, R v2 ∧ s = [(0, .slice p0_0 ((a0).length) c0_0), (1, .slice p1_0 ((a1).length) c1_0), (12, I ((a0).length : Int)), (13, I v2)] ∧ h = []) ⟨_, eo0_0, J, J⟩ ?_ ?_))))))
 ·rintro fuel _ _ ⟨v2, H1, rfl, rfl⟩
  rcases fuel with _ | fuel
  ·rw [slices_Equal_Own_L0.eq_1] at H1; cases H1
  rw [slices_Equal_Own_L0.eq_2] at H1
  refine sr (oW J (nn (cq (cH J H1 (fun H1 => ?_) (fun H1 => ?_)))))
  ·obtain ⟨x4, e4, H1⟩ := bS H1
   refine kq (cw_block (sr (oM J (sn J (cq (rdt g_mixed (rn 0 9) ⟨[], [], []⟩ (dM J (dM J (dD J (stp_indexAddr u30 ts70 (by decide) J J J (Rdb.ro hr0_0) e4) (dD J (stp_loadN (us := [_, _]) ts70 J (Cells.el (Rdb.ro hr0_0) (by decide) e4 0 2 J)) ?_))))))))))
   obtain ⟨x5, e5, H1⟩ := bS H1
   refine dM J (dM J (dD J (stp_indexAddr u30 ts70 (by decide) J J J (Rdb.ro hr1_0) e5) (dD J (stp_loadN (us := [_, _]) ts70 J (Cells.el (Rdb.ro hr1_0) (by decide) e5 0 2 J)) (dD J (stp_neqS te70 x4 x5 J J) (dn (kw_nx (cH J H1 (fun H1 => ?_) (fun H1 => ?_))))))))
   ·refine sr (sr1 J (kw_bl_ret (kR (ar (kw_bl_ret (xr (kR ?_)))))))
    obtain rfl := sI H1
    obtain rfl := sI H0
    exact kr results30 (rT J) [] ⟨J, J⟩
   obtain ⟨x7, e7, H1⟩ := bS H1
   exact cw_skip (kb (cR (oP e7 J (oM J (ow_nil (ka ⟨_, H1, J, J⟩))))))
  refine cw_exit (kw_nx_exit (ax (kw_bl ?_)))
  obtain rfl := sI H1
  exact kx ⟨_, J, J, J⟩
 rintro _ _ ⟨v2, rfl, rfl, rfl⟩
 refine kw_nx (sr (sn J (cw_ret ?_)))
 obtain rfl := sI H0
 exact kr results30 (rT J) [] ⟨J, J⟩

theorem c_i_TagsSame (fl : Nat) (w : World) (a0 : Tg) (a1 : Tg) (hn0_0 : n0_0 = (a0.o).length) (hr0_0 : RO w [] (RdL p0_0 c0_0 a0.o)) (hn1_0 : n1_0 = (a1.o).length) (hr1_0 : RO w [] (RdL p1_0 c1_0 a1.o)) (r : Bool) (H0 : i_TagsSame fl a0 a1 = some r) :
  Ct prog 13 [.agg #[I a0.c, I a0.n, I a0.r, .slice p0_0 n0_0 c0_0], .agg #[I a1.c, I a1.n, I a1.r, .slice p1_0 n1_0 c1_0]] w [] (fun rv h' => rv = .bool r ∧ h' = []) := by
 subst hn0_0 hn1_0
 unfold i_TagsSame at H0
 refine ct_of_cw func13 J ntmps13 J (Sat.refl _ _) ?_
 refine sr (oE (stpU_box 0 J J) J ?_)
 rintro _ _ ⟨b1, rfl, rfl⟩
 refine oE (stpU_box 1 J J) J ?_
 rintro _ _ ⟨b2, rfl, rfl⟩
 obtain ⟨y3, ey3, H0⟩ := bS H0
 refine ss J (oAL 0 u32 J ts3 J 0 J (oAL 0 u32 J ts3 J 1 J (oQ J (oM J (ow_cutY 6 16 y3 ?_ ?_)))))
 ·rcases Bool.eq_false_or_eq_true (a0.c == a1.c) with hy3 | hy3
  ·have ey3 := cond_t ey3 hy3
   refine oG J hy3 (fA 1 u32 J ts3 J J J) J (oG J hy3 (lB 0 ts3 J J J) J (oG J hy3 (fA 1 u32 J ts3 J J J) J (oG J hy3 (lB 1 ts3 J J J) J (oG J hy3 (stp_eql J J) J (oD (stp_pick_t J hy3 J) J ?_)))))
   obtain rfl := sI ey3
   exact ow_nil (jy 6 0)
  have ey3 := cond_f ey3 hy3
  refine oO J hy3 J (oO J hy3 J (oO J hy3 J (oO J hy3 J (oO J hy3 J (oD (stp_pick_f J hy3 J) J ?_)))))
  obtain rfl := sI ey3
  exact ow_nil (jy 6 0)
 obtain ⟨y4, ey4, H0⟩ := bS H0
 refine oM J (ow_cutY 6 23 y4 ?_ ?_)
 ·rcases Bool.eq_false_or_eq_true y3 with hy4 | hy4
  ·have ey4 := cond_t ey4 hy4
   refine oG J hy4 (fA 2 u32 J ts3 J J J) J (oG J hy4 (lB 0 ts3 J J J) J (oG J hy4 (fA 2 u32 J ts3 J J J) J (oG J hy4 (lB 1 ts3 J J J) J (oG J hy4 (stp_eql J J) J (oD (stp_pick_t J hy4 J) J ?_)))))
   obtain rfl := sI ey4
   exact ow_nil (jy 6 0)
  have ey4 := cond_f ey4 hy4
  refine oO J hy4 J (oO J hy4 J (oO J hy4 J (oO J hy4 J (oO J hy4 J (oD (stp_pick_f J hy4 J) J ?_)))))
  obtain rfl := sI ey4
  exact ow_nil (jy 6 0)
 obtain ⟨y5, ey5, H0⟩ := bS H0
 refine oM J (ow_cutY 6 30 y5 ?_ ?_)
 ·rcases Bool.eq_false_or_eq_true y4 with hy5 | hy5
  ·have ey5 := cond_t ey5 hy5
   obtain ⟨x6, e6, ey5⟩ := bS ey5
   refine oG J hy5 (fA 3 u32 J ts30 J J J) J (oG J hy5 (lB 0 ts30 J J J) J (oG J hy5 (fA 3 u32 J ts30 J J J) J (oG J hy5 (lB 1 ts30 J J J) J (ow_eff (.some J hy5) (uC 2 cf30 (fun w hw => c_slices_Equal_Own fl w a0.o a1.o J (rp hr0_0 hw) J (rp hr1_0 hw) x6 e6) (yB J J)) J ?_))))
   rintro _ _ ⟨_, ⟨rfl, rfl⟩, rfl⟩
   refine oD (stp_pick_t J hy5 J) J ?_
   obtain rfl := sI ey5
   exact ow_nil (jy 6 0)
  have ey5 := cond_f ey5 hy5
  refine oO J hy5 J (oO J hy5 J (oO J hy5 J (oO J hy5 J (oO J hy5 J (oD (stp_pick_f J hy5 J) J ?_)))))
  obtain rfl := sI ey5
  exact ow_nil (jy 6 0)
 refine sn J (cw_ret ?_)
 obtain rfl := sI H0
 exact kr results13 (rT J) [] ⟨J, J⟩

theorem c_i_MachineSame (fl : Nat) (w : World) (a0 : Mc) (a1 : Mc) (hn0_0 : n0_0 = (a0.t.b).length) (hr0_0 : RO w [] (RdL p0_0 c0_0 a0.t.b)) (hn0_1 : n0_1 = (a0.t.f).length) (hr0_1 : RO w [] (RdL p0_1 c0_1 a0.t.f)) (hn0_2 : n0_2 = (a0.c.l).length) (hr0_2 : RO w [] (RdL p0_2 c0_2 a0.c.l)) (hn0_3 : n0_3 = (a0.g.o).length) (hr0_3 : RO w [] (RdL p0_3 c0_3 a0.g.o)) (hn1_0 : n1_0 = (a1.t.b).length) (hr1_0 : RO w [] (RdL p1_0 c1_0 a1.t.b)) (hn1_1 : n1_1 = (a1.t.f).length) (hr1_1 : RO w [] (RdL p1_1 c1_1 a1.t.f)) (hn1_2 : n1_2 = (a1.c.l).length) (hr1_2 : RO w [] (RdL p1_2 c1_2 a1.c.l)) (hn1_3 : n1_3 = (a1.g.o).length) (hr1_3 : RO w [] (RdL p1_3 c1_3 a1.g.o)) (r : Bool) (H0 : i_MachineSame fl a0 a1 = some r) :
  Ct prog 28 [.agg #[.slice p0_0 n0_0 c0_0, .slice p0_1 n0_1 c0_1, .slice p0_2 n0_2 c0_2, I a0.c.h, I a0.g.c, I a0.g.n, I a0.g.r, .slice p0_3 n0_3 c0_3, I a0.s], .agg #[.slice p1_0 n1_0 c1_0, .slice p1_1 n1_1 c1_1, .slice p1_2 n1_2 c1_2, I a1.c.h, I a1.g.c, I a1.g.n, I a1.g.r, .slice p1_3 n1_3 c1_3, I a1.s]] w [] (fun rv h' => rv = .bool r ∧ h' = []) := by
 subst hn0_0 hn0_1 hn0_2 hn0_3 hn1_0 hn1_1 hn1_2 hn1_3
 unfold i_MachineSame at H0
 refine ct_of_cw func28 J ntmps28 J (Sat.refl _ _) ?_
 refine sr (oE (stpU_box 0 J J) J ?_)
 rintro _ _ ⟨b1, rfl, rfl⟩
 refine oE (stpU_box 1 J J) J ?_
 rintro _ _ ⟨b2, rfl, rfl⟩
 obtain ⟨x3, e3, H0⟩ := bS H0
 refine ss J (oA 0 u34 J ts26 J (oB2 0 ts26 J (oA 0 u34 J ts26 J (oB2 1 ts26 J (oE (uC 2 cf57 (fun w hw => c_i_TableSame fl w a0.t a1.t J (rp hr0_0 hw) J (rp hr0_1 hw) J (rp hr1_0 hw) J (rp hr1_1 hw) x3 e3) (yB J J)) J ?_)))))
 rintro _ _ ⟨_, ⟨rfl, rfl⟩, rfl⟩
 obtain ⟨y4, ey4, H0⟩ := bS H0
 refine oM J (ow_cutY 6 16 y4 ?_ ?_)
 ·rcases Bool.eq_false_or_eq_true x3 with hy4 | hy4
  ·have ey4 := cond_t ey4 hy4
   obtain ⟨x5, e5, ey4⟩ := bS ey4
   refine oG J hy4 (fA 2 u34 J ts29 J J J) J (oG J hy4 (stp_loadN (us := [_, _]) ts29 J (Cells.box (id := 0) J 2 J)) J (oG J hy4 (fA 2 u34 J ts29 J J J) J (oG J hy4 (stp_loadN (us := [_, _]) ts29 J (Cells.box (id := 1) J 2 J)) J (ow_eff (.some J hy4) (uC 2 cf58 (fun w hw => c_i_CacheSame fl w a0.c a1.c J (rp hr0_2 hw) J (rp hr1_2 hw) x5 e5) (yB J J)) J ?_))))
   rintro _ _ ⟨_, ⟨rfl, rfl⟩, rfl⟩
   refine oD (stp_pick_t J hy4 J) J ?_
   obtain rfl := sI ey4
   exact ow_nil (jy 6 0)
  have ey4 := cond_f ey4 hy4
  refine oO J hy4 J (oO J hy4 J (oO J hy4 J (oO J hy4 J (oO J hy4 J (oD (stp_pick_f J hy4 J) J ?_)))))
  obtain rfl := sI ey4
  exact ow_nil (jy 6 0)
 obtain ⟨y6, ey6, H0⟩ := bS H0
 refine oM J (ow_cutY 6 23 y6 ?_ ?_)
 ·rcases Bool.eq_false_or_eq_true y4 with hy6 | hy6
  ·have ey6 := cond_t ey6 hy6
   obtain ⟨x7, e7, ey6⟩ := bS ey6
   refine oG J hy6 (fA 4 u34 J ts32 J J J) J (oG J hy6 (stp_loadN (us := [_, _, _, _]) ts32 J (Cells.box (id := 0) J 4 J)) J (oG J hy6 (fA 4 u34 J ts32 J J J) J (oG J hy6 (stp_loadN (us := [_, _, _, _]) ts32 J (Cells.box (id := 1) J 4 J)) J (ow_eff (.some J hy6) (uC 2 cf13 (fun w hw => c_i_TagsSame fl w a0.g a1.g J (rp hr0_3 hw) J (rp hr1_3 hw) x7 e7) (yB J J)) J ?_))))
   rintro _ _ ⟨_, ⟨rfl, rfl⟩, rfl⟩
   refine oD (stp_pick_t J hy6 J) J ?_
   obtain rfl := sI ey6
   exact ow_nil (jy 6 0)
  have ey6 := cond_f ey6 hy6
  refine oO J hy6 J (oO J hy6 J (oO J hy6 J (oO J hy6 J (oO J hy6 J (oD (stp_pick_f J hy6 J) J ?_)))))
  obtain rfl := sI ey6
  exact ow_nil (jy 6 0)
 obtain ⟨y8, ey8, H0⟩ := bS H0
 refine oM J (ow_cutY 6 30 y8 ?_ ?_)
 ·rcases Bool.eq_false_or_eq_true y6 with hy8 | hy8
  ·have ey8 := cond_t ey8 hy8
   refine oG J hy8 (fA 8 u34 J ts3 J J J) J (oG J hy8 (lB 0 ts3 J J J) J (oG J hy8 (fA 8 u34 J ts3 J J J) J (oG J hy8 (lB 1 ts3 J J J) J (oG J hy8 (stp_eql J J) J (oD (stp_pick_t J hy8 J) J ?_)))))
   obtain rfl := sI ey8
   exact ow_nil (jy 6 0)
  have ey8 := cond_f ey8 hy8
  refine oO J hy8 J (oO J hy8 J (oO J hy8 J (oO J hy8 J (oO J hy8 J (oD (stp_pick_f J hy8 J) J ?_)))))
  obtain rfl := sI ey8
  exact ow_nil (jy 6 0)
 refine sn J (cw_ret ?_)
 obtain rfl := sI H0
 exact kr results28 (rT J) [] ⟨J, J⟩

theorem c_slices_Equal_Bool (fl : Nat) (w : World) (a0 : (List Bool)) (a1 : (List Bool)) (hn0_0 : n0_0 = (a0).length) (hr0_0 : RO w [] (RdL p0_0 c0_0 a0)) (hn1_0 : n1_0 = (a1).length) (hr1_0 : RO w [] (RdL p1_0 c1_0 a1)) (r : Bool) (H0 : slices_Equal_Bool fl a0 a1 = some r) :
  Ct prog 29 [.slice p0_0 n0_0 c0_0, .slice p1_0 n1_0 c1_0] w [] (fun rv h' => rv = .bool r ∧ h' = []) := by
 subst hn0_0 hn1_0
 unfold slices_Equal_Bool at H0
 refine ct_of_cw func29 J ntmps29 J (Sat.refl _ _) ?_
 refine sr (sq J (oM J (oD (stp_len u35 J) J (oM J (oD (stp_len u35 J) J (oU J (nn (cH J H0 (fun H0 => ?_) (fun H0 => ?_)))))))))
 ·refine sr (sr1 J (kR ?_))
  obtain rfl := sI H0
  exact kr results29 (rT J) [] ⟨J, J⟩
 obtain ⟨o0_0, eo0_0, H0⟩ := bS H0
 refine kq (sr (oM J (oD (stp_len u35 J) J (oM J (nn (lp (fun f a => slices_Equal_Bool_L0 fl a0 a1 f a = some o0_0) (fun a => o0_0 = .out a) (fun R s h => ∃ v2, R v2 ∧ s = [(0, .slice p0_0 ((a0).length) c0_0), (1, .slice p1_0 ((a1).length) c1_0), (12, I ((a0).length : Int)), (13, I v2)] ∧ h = []) ⟨_, eo0_0, J, J⟩ ?_ ?_))))))
 ·rintro fuel _ _ ⟨v2, H1, rfl, rfl⟩
  rcases fuel with _ | fuel
  ·rw [slices_Equal_Bool_L0.eq_1] at H1; cases H1
  rw [slices_Equal_Bool_L0.eq_2] at H1
  refine sr (oW J (nn (cq (cH J H1 (fun H1 => ?_) (fun H1 => ?_)))))
  ·obtain ⟨x4, e4, H1⟩ := bS H1
   refine kq (cw_block (sr (oM J (sn J (cq (rdt g_mixed (rn 0 9) ⟨[], [], []⟩ (dM J (dM J (dD J (stp_indexAddr u35 ts4 (by decide) J J J (Rdb.ro hr0_0) e4) (dD J (stp_load1 ts4 J (Cells.el (Rdb.ro hr0_0) (by decide) e4 0 1 J)) ?_))))))))))
   obtain ⟨x5, e5, H1⟩ := bS H1
   refine dM J (dM J (dD J (stp_indexAddr u35 ts4 (by decide) J J J (Rdb.ro hr1_0) e5) (dD J (stp_load1 ts4 J (Cells.el (Rdb.ro hr1_0) (by decide) e5 0 1 J)) (dD J (stp_neqB u4 J J) (dn (kw_nx (cH J H1 (fun H1 => ?_) (fun H1 => ?_))))))))
   ·refine sr (sr1 J (kw_bl_ret (kR (ar (kw_bl_ret (xr (kR ?_)))))))
    obtain rfl := sI H1
    obtain rfl := sI H0
    exact kr results29 (rT J) [] ⟨J, J⟩
   obtain ⟨x7, e7, H1⟩ := bS H1
   exact cw_skip (kb (cR (oP e7 J (oM J (ow_nil (ka ⟨_, H1, J, J⟩))))))
  refine cw_exit (kw_nx_exit (ax (kw_bl ?_)))
  obtain rfl := sI H1
  exact kx ⟨_, J, J, J⟩
 rintro _ _ ⟨v2, rfl, rfl, rfl⟩
 refine kw_nx (sr (sn J (cw_ret ?_)))
 obtain rfl := sI H0
 exact kr results29 (rT J) [] ⟨J, J⟩

theorem c_i_MemorySame (fl : Nat) (w : World) (a0 : Mm) (a1 : Mm) (hn0_0 : n0_0 = (a0.m.t.b).length) (hr0_0 : RO w [] (RdL p0_0 c0_0 a0.m.t.b)) (hn0_1 : n0_1 = (a0.m.t.f).length) (hr0_1 : RO w [] (RdL p0_1 c0_1 a0.m.t.f)) (hn0_2 : n0_2 = (a0.m.c.l).length) (hr0_2 : RO w [] (RdL p0_2 c0_2 a0.m.c.l)) (hn0_3 : n0_3 = (a0.m.g.o).length) (hr0_3 : RO w [] (RdL p0_3 c0_3 a0.m.g.o)) (hn0_4 : n0_4 = (a0.k).length) (hr0_4 : RO w [] (RdL p0_4 c0_4 a0.k)) (hn1_0 : n1_0 = (a1.m.t.b).length) (hr1_0 : RO w [] (RdL p1_0 c1_0 a1.m.t.b)) (hn1_1 : n1_1 = (a1.m.t.f).length) (hr1_1 : RO w [] (RdL p1_1 c1_1 a1.m.t.f)) (hn1_2 : n1_2 = (a1.m.c.l).length) (hr1_2 : RO w [] (RdL p1_2 c1_2 a1.m.c.l)) (hn1_3 : n1_3 = (a1.m.g.o).length) (hr1_3 : RO w [] (RdL p1_3 c1_3 a1.m.g.o)) (hn1_4 : n1_4 = (a1.k).length) (hr1_4 : RO w [] (RdL p1_4 c1_4 a1.k)) (r : Bool) (H0 : i_MemorySame fl a0 a1 = some r) :
  Ct prog 11 [.agg #[.slice p0_0 n0_0 c0_0, .slice p0_1 n0_1 c0_1, .slice p0_2 n0_2 c0_2, I a0.m.c.h, I a0.m.g.c, I a0.m.g.n, I a0.m.g.r, .slice p0_3 n0_3 c0_3, I a0.m.s, .slice p0_4 n0_4 c0_4, I a0.h], .agg #[.slice p1_0 n1_0 c1_0, .slice p1_1 n1_1 c1_1, .slice p1_2 n1_2 c1_2, I a1.m.c.h, I a1.m.g.c, I a1.m.g.n, I a1.m.g.r, .slice p1_3 n1_3 c1_3, I a1.m.s, .slice p1_4 n1_4 c1_4, I a1.h]] w [] (fun rv h' => rv = .bool r ∧ h' = []) := by
 subst hn0_0 hn0_1 hn0_2 hn0_3 hn0_4 hn1_0 hn1_1 hn1_2 hn1_3 hn1_4
 unfold i_MemorySame at H0
 refine ct_of_cw func11 J ntmps11 J (Sat.refl _ _) ?_
 refine sr (oE (stpU_box 0 J J) J ?_)
 rintro _ _ ⟨b1, rfl, rfl⟩
 refine oE (stpU_box 1 J J) J ?_
 rintro _ _ ⟨b2, rfl, rfl⟩
 obtain ⟨x3, e3, H0⟩ := bS H0
 refine ss J (oA 0 u37 J ts34 J (oB9 0 ts34 J (oA 0 u37 J ts34 J (oB9 1 ts34 J (oE (uC 2 cf28 (fun w hw => c_i_MachineSame fl w a0.m a1.m J (rp hr0_0 hw) J (rp hr0_1 hw) J (rp hr0_2 hw) J (rp hr0_3 hw) J (rp hr1_0 hw) J (rp hr1_1 hw) J (rp hr1_2 hw) J (rp hr1_3 hw) x3 e3) (yB J J)) J ?_)))))
 rintro _ _ ⟨_, ⟨rfl, rfl⟩, rfl⟩
 obtain ⟨y4, ey4, H0⟩ := bS H0
 refine oM J (ow_cutY 6 16 y4 ?_ ?_)
 ·rcases Bool.eq_false_or_eq_true x3 with hy4 | hy4
  ·have ey4 := cond_t ey4 hy4
   obtain ⟨x5, e5, ey4⟩ := bS ey4
   refine oG J hy4 (fA 9 u37 J ts35 J J J) J (oG J hy4 (lB 0 ts35 J J J) J (oG J hy4 (fA 9 u37 J ts35 J J J) J (oG J hy4 (lB 1 ts35 J J J) J (ow_eff (.some J hy4) (uC 2 cf29 (fun w hw => c_slices_Equal_Bool fl w a0.k a1.k J (rp hr0_4 hw) J (rp hr1_4 hw) x5 e5) (yB J J)) J ?_))))
   rintro _ _ ⟨_, ⟨rfl, rfl⟩, rfl⟩
   refine oD (stp_pick_t J hy4 J) J ?_
   obtain rfl := sI ey4
   exact ow_nil (jy 6 0)
  have ey4 := cond_f ey4 hy4
  refine oO J hy4 J (oO J hy4 J (oO J hy4 J (oO J hy4 J (oO J hy4 J (oD (stp_pick_f J hy4 J) J ?_)))))
  obtain rfl := sI ey4
  exact ow_nil (jy 6 0)
 obtain ⟨y6, ey6, H0⟩ := bS H0
 refine oM J (ow_cutY 6 23 y6 ?_ ?_)
 ·rcases Bool.eq_false_or_eq_true y4 with hy6 | hy6
  ·have ey6 := cond_t ey6 hy6
   refine oG J hy6 (fA 10 u37 J ts3 J J J) J (oG J hy6 (lB 0 ts3 J J J) J (oG J hy6 (fA 10 u37 J ts3 J J J) J (oG J hy6 (lB 1 ts3 J J J) J (oG J hy6 (stp_eql J J) J (oD (stp_pick_t J hy6 J) J ?_)))))
   obtain rfl := sI ey6
   exact ow_nil (jy 6 0)
  have ey6 := cond_f ey6 hy6
  refine oO J hy6 J (oO J hy6 J (oO J hy6 J (oO J hy6 J (oO J hy6 J (oD (stp_pick_f J hy6 J) J ?_)))))
  obtain rfl := sI ey6
  exact ow_nil (jy 6 0)
 refine sn J (cw_ret ?_)
 obtain rfl := sI H0
 exact kr results11 (rT J) [] ⟨J, J⟩

theorem c_l_ipInts (fl : Nat) (w : World) (a0 : (List Int)) (a1 : (List Int)) (hn0_0 : n0_0 = (a0).length) (hr0_0 : RO w [] (RdL p0_0 c0_0 a0)) (hn1_0 : n1_0 = (a1).length) (hr1_0 : RO w [] (RdL p1_0 c1_0 a1)) (r : Bool) (H0 : l_ipInts fl a0 a1 = some r) :
  Ct prog 12 [.slice p0_0 n0_0 c0_0, .slice p1_0 n1_0 c1_0] w [] (fun rv h' => rv = .bool r ∧ h' = []) := by
 subst hn0_0 hn1_0
 unfold l_ipInts at H0
 refine ct_of_cw func12 J ntmps12 J (Sat.refl _ _) ?_
 refine sr (sq J (oM J (oD (stp_len u23 J) J (oM J (oD (stp_len u23 J) J (oU J (nn (cH J H0 (fun H0 => ?_) (fun H0 => ?_)))))))))
 ·refine sr (sr1 J (kR ?_))
  obtain rfl := sI H0
  exact kr results12 (rT J) [] ⟨J, J⟩
 obtain ⟨o0_0, eo0_0, H0⟩ := bS H0
 refine kq (sr (sn J (lp (fun f a => l_ipInts_L0 fl a0 a1 f a = some o0_0) (fun a => o0_0 = .out a) (fun R s h => ∃ v2, R v2 ∧ s = [(0, .slice p0_0 ((a0).length) c0_0), (1, .slice p1_0 ((a1).length) c1_0), (5, I v2)] ∧ h = []) ⟨_, eo0_0, J, J⟩ ?_ ?_)))
 ·rintro fuel _ _ ⟨v2, H1, rfl, rfl⟩
  rcases fuel with _ | fuel
  ·rw [l_ipInts_L0.eq_1] at H1; cases H1
  rw [l_ipInts_L0.eq_2] at H1
  refine csr (oM J (oM J (oD (stp_len u23 J) J (oW J (nn (cH J H1 (fun H1 => ?_) (fun H1 => ?_)))))))
  ·obtain ⟨x4, e4, H1⟩ := bS H1
   obtain ⟨x5, e5, H1⟩ := bS H1
   refine kq (cw_block (cq (rdt g_mixed (rn 0 9) ⟨[], [], []⟩ (dM J (dM J (dD J (stp_indexAddr u23 ts3 (by decide) J J J (Rdb.ro hr0_0) e4) (dD J (stp_load1 ts3 J (Cells.el (Rdb.ro hr0_0) (by decide) e4 0 1 J)) (dM J (dM J (dD J (stp_indexAddr u23 ts3 (by decide) J J J (Rdb.ro hr1_0) e5) (dD J (stp_load1 ts3 J (Cells.el (Rdb.ro hr1_0) (by decide) e5 0 1 J)) ?_)))))))))))
   refine dNe J (dn (kw_nx (cH J H1 (fun H1 => ?_) (fun H1 => ?_))))
   ·refine sr (sr1 J (kw_bl_ret (kR (ar (kw_bl_ret (xr (kR ?_)))))))
    obtain rfl := sI H1
    obtain rfl := sI H0
    exact kr results12 (rT J) [] ⟨J, J⟩
   obtain ⟨x7, e7, H1⟩ := bS H1
   exact cw_skip (kb (cR (oM J (oP e7 J (oS J (ow_nil (ka ⟨_, H1, J, J⟩)))))))
  refine cw_exit (kw_nx_exit (ax (kw_bl ?_)))
  obtain rfl := sI H1
  exact kx ⟨_, J, J, J⟩
 rintro _ _ ⟨v2, rfl, rfl, rfl⟩
 refine kw_nx (sr (sn J (cw_ret ?_)))
 obtain rfl := sI H0
 exact kr results12 (rT J) [] ⟨J, J⟩

theorem c_l_FnUsePages (fl : Nat) (w : World) (a0 : (List UInt8)) (hn0_0 : n0_0 = (a0).length) (hr0_0 : RO w [] (RdL p0_0 c0_0 a0)) (hg : RO w [] (fun w' => w'.rangeAt 0 0 [.bool false, I 0, I 0, I 0, I (-1)])) (r : Bool) (H0 : l_FnUsePages fl a0 = some r) :
  Ct prog 4 [.slice p0_0 n0_0 c0_0] w [] (fun rv h' => rv = .bool r ∧ h' = []) := by
 subst hn0_0
 unfold l_FnUsePages at H0
 refine ct_of_cw func4 J ntmps4 J (Sat.refl _ _) ?_
 refine sr (sq J (oM J (oD (stp_len u22 J) J (oJ J (nn (cH J H0 (fun H0 => ?_) (fun H0 => ?_)))))))
 ·refine sr (sr1 J (kR ?_))
  obtain rfl := sI H0
  exact kr results4 (rT J) [] ⟨J, J⟩
 obtain ⟨x2, e2, H0⟩ := bS H0
 refine ks (oM J (oE (uC 0 cf8 (fun w hw => c_s_DrawUsePages fl w a0 J (rp hr0_0 hw) x2 e2) (yA J)) J ?_))
 rintro _ _ ⟨_, ⟨p3, _, c5, C6, rfl, o6, p7, _, c9, C10, rfl, o10, p11, _, c13, C14, rfl, o14, p15, _, c17, C18, rfl, o18, p19, _, c21, C22, rfl, o22, p23, _, c25, C26, rfl, o26, rfl, rfl⟩, rfl⟩
 refine oMTT J J J (oE (stpU_alloc 6 tz37 J) J ?_)
 rintro _ _ ⟨b27, rfl, rfl⟩
 obtain ⟨x28, e28, H0⟩ := bS H0
 refine oC11 6 ts37 J J (ss J (oB11 6 ts37 J (oM J (oE (uC 7 cf9 (fun w hw => c_i_UsePages fl w x2.1 x2.2 J (owp 0 J o6 hw) J (owp 1 J o10 hw) J (owp 2 J o14 hw) J (owp 3 J o18 hw) J (owp 4 J o22 hw) J (owp 5 J o26 hw) (rp hg hw) x28 e28) (yB J J)) J ?_))))
 rintro _ _ ⟨_, ⟨p29, _, c31, C32, rfl, o32, p33, _, c35, C36, rfl, o36, p37, _, c39, C40, rfl, o40, p41, _, c43, C44, rfl, o44, p45, _, c47, C48, rfl, o48, p49, _, c51, C52, rfl, o52, rfl, rfl⟩, rfl⟩
 refine oMTT J J J (oT J (oE (stpU_alloc 13 tz37 J) J ?_))
 rintro _ _ ⟨b53, rfl, rfl⟩
 obtain ⟨x54, e54, H0⟩ := bS H0
 refine oC11 13 ts37 J J (oS J (ss J (oB11 6 ts37 J (oM J (oE (uC 14 cf10 (fun w hw => c_s_UsePages fl w x2.1 x2.2 J (owp 0 J o6 hw) J (owp 1 J o10 hw) J (owp 2 J o14 hw) J (owp 3 J o18 hw) J (owp 4 J o22 hw) J (owp 5 J o26 hw) x54 e54) (yB J J)) J ?_)))))
 rintro _ _ ⟨_, ⟨p55, _, c57, C58, rfl, o58, p59, _, c61, C62, rfl, o62, p63, _, c65, C66, rfl, o66, p67, _, c69, C70, rfl, o70, p71, _, c73, C74, rfl, o74, p75, _, c77, C78, rfl, o78, rfl, rfl⟩, rfl⟩
 refine oMTT J J J (oT J (oE (stpU_alloc 20 tz37 J) J ?_))
 rintro _ _ ⟨b79, rfl, rfl⟩
 obtain ⟨x80, e80, H0⟩ := bS H0
 refine oC11 20 ts37 J J (oS J (sq J (oB11 13 ts37 J (oB11 20 ts37 J (oE (uC 21 cf11 (fun w hw => c_i_MemorySame fl w x28.1 x54.1 J (owp 7 J o32 hw) J (owp 8 J o36 hw) J (owp 9 J o40 hw) J (owp 10 J o44 hw) J (owp 11 J o48 hw) J (owp 14 J o58 hw) J (owp 15 J o62 hw) J (owp 16 J o66 hw) J (owp 17 J o70 hw) J (owp 18 J o74 hw) x80 e80) (yB J J)) J ?_)))))
 rintro _ _ ⟨_, ⟨rfl, rfl⟩, rfl⟩
 obtain ⟨y81, ey81, H0⟩ := bS H0
 refine oK J (oM J (ow_cutY 5 51 y81 ?_ ?_))
 ·rcases Bool.eq_false_or_eq_true (!x80) with hy81 | hy81
  ·have ey81 := cond_t ey81 hy81
   refine oO J hy81 J (oO J hy81 J (oO J hy81 J (oO J hy81 J (oD (stp_pick_t J hy81 J) J ?_))))
   obtain rfl := sI ey81
   exact ow_nil (jy 5 0)
  have ey81 := cond_f ey81 hy81
  obtain ⟨x82, e82, ey81⟩ := bS ey81
  refine oG J hy81 (mv J) J (oG J hy81 (mv J) J (ow_eff (.some J hy81) (uC 21 cf12 (fun w hw => c_l_ipInts fl w x28.2.1 x54.2.1 J (owp 12 J o52 hw) J (owp 19 J o78 hw) x82 e82) (yB J J)) J ?_))
  rintro _ _ ⟨_, ⟨rfl, rfl⟩, rfl⟩
  refine oG J hy81 (stp_not J) J (oD (stp_pick_f J hy81 J) J ?_)
  obtain rfl := sI ey81
  exact ow_nil (jy 5 0)
 obtain ⟨y83, ey83, H0⟩ := bS H0
 refine oM J (ow_cutY 4 56 y83 ?_ ?_)
 ·rcases Bool.eq_false_or_eq_true y81 with hy83 | hy83
  ·have ey83 := cond_t ey83 hy83
   refine oO J hy83 J (oO J hy83 J (oO J hy83 J (oD (stp_pick_t J hy83 J) J ?_)))
   obtain rfl := sI ey83
   exact ow_nil (jy 4 0)
  have ey83 := cond_f ey83 hy83
  refine oG J hy83 (mv J) J (oG J hy83 (mv J) J (oG J hy83 (stp_neqB u4 J J) J (oD (stp_pick_f J hy83 J) J ?_)))
  obtain rfl := sI ey83
  exact ow_nil (jy 4 0)
 obtain ⟨y84, ey84, H0⟩ := bS H0
 refine oM J (ow_cutY 3 60 y84 ?_ ?_)
 ·rcases Bool.eq_false_or_eq_true y83 with hy84 | hy84
  ·have ey84 := cond_t ey84 hy84
   refine oO J hy84 J (oO J hy84 J (oD (stp_pick_t J hy84 J) J ?_))
   obtain rfl := sI ey84
   exact ow_nil (jy 3 0)
  have ey84 := cond_f ey84 hy84
  refine oG J hy84 (mv J) J (oG J hy84 (stp_not J) J (oD (stp_pick_f J hy84 J) J ?_))
  obtain rfl := sI ey84
  exact ow_nil (jy 3 0)
 refine ow_nil (kw_nx (cH J H0 (fun H0 => ?_) (fun H0 => ?_)))
 ·refine sr (oB11 13 ts37 J (oB11 20 ts37 J (oE (uC 21 cf11 (fun w hw => c_i_MemorySame fl w x28.1 x54.1 J (owp 7 J o32 hw) J (owp 8 J o36 hw) J (owp 9 J o40 hw) J (owp 10 J o44 hw) J (owp 11 J o48 hw) J (owp 14 J o58 hw) J (owp 15 J o62 hw) J (owp 16 J o66 hw) J (owp 17 J o70 hw) J (owp 18 J o74 hw) x80 e80) (yB J J)) J ?_)))
  rintro _ _ ⟨_, ⟨rfl, rfl⟩, rfl⟩
  obtain ⟨y86, ey86, H0⟩ := bS H0
  refine oM J (ow_cutY 4 68 y86 ?_ ?_)
  ·rcases Bool.eq_false_or_eq_true x80 with hy86 | hy86
   ·have ey86 := cond_t ey86 hy86
    obtain ⟨x87, e87, ey86⟩ := bS ey86
    refine oG J hy86 (mv J) J (oG J hy86 (mv J) J (ow_eff (.some J hy86) (uC 21 cf12 (fun w hw => c_l_ipInts fl w x28.2.1 x54.2.1 J (owp 12 J o52 hw) J (owp 19 J o78 hw) x87 e87) (yB J J)) J ?_))
    rintro _ _ ⟨_, ⟨rfl, rfl⟩, rfl⟩
    refine oD (stp_pick_t J hy86 J) J ?_
    obtain rfl := sI ey86
    exact ow_nil (jy 4 0)
   have ey86 := cond_f ey86 hy86
   refine oO J hy86 J (oO J hy86 J (oO J hy86 J (oD (stp_pick_f J hy86 J) J ?_)))
   obtain rfl := sI ey86
   exact ow_nil (jy 4 0)
  obtain ⟨y88, ey88, H0⟩ := bS H0
  refine oM J (ow_cutY 4 73 y88 ?_ ?_)
  ·rcases Bool.eq_false_or_eq_true y86 with hy88 | hy88
   ·have ey88 := cond_t ey88 hy88
    refine oG J hy88 (mv J) J (oG J hy88 (mv J) J (oG J hy88 (stp_eqlB u4 J J) J (oD (stp_pick_t J hy88 J) J ?_)))
    obtain rfl := sI ey88
    exact ow_nil (jy 4 0)
   have ey88 := cond_f ey88 hy88
   refine oO J hy88 J (oO J hy88 J (oO J hy88 J (oD (stp_pick_f J hy88 J) J ?_)))
   obtain rfl := sI ey88
   exact ow_nil (jy 4 0)
  refine sr1 J (kR ?_)
  obtain rfl := sI H0
  exact kr results4 (rT J) [] ⟨J, J⟩
 obtain ⟨o0_0, eo0_0, H0⟩ := bS H0
 refine ks (sq J (sn J (lp (fun f a b => l_FnUsePages_L0 fl x28 f a b = some o0_0) (fun a b => o0_0 = .out (a, b)) (fun R s h => ∃ v89 v90, R v89 v90 ∧ s = [(3, .pointer (some ⟨b27, 0, none⟩)), (4, .slice p23 ((x2.2).length) c25), (5, .pointer (some ⟨b53, 0, none⟩)), (6, .slice p49 ((x28.2.1).length) c51), (11, I v89), (12, I v90)] ∧ h = [(0, C6), (1, C10), (2, C14), (3, C18), (4, C22), (5, C26), (6, [(b27, .cells #[.slice p3 ((x2.1.m.t.b).length) c5, .slice p7 ((x2.1.m.t.f).length) c9, .slice p11 ((x2.1.m.c.l).length) c13, I x2.1.m.c.h, I x2.1.m.g.c, I x2.1.m.g.n, I x2.1.m.g.r, .slice p15 ((x2.1.m.g.o).length) c17, I x2.1.m.s, .slice p19 ((x2.1.k).length) c21, I x2.1.h] 37 (0, 0))]), (7, C32), (8, C36), (9, C40), (10, C44), (11, C48), (12, C52), (13, [(b53, .cells #[.slice p29 ((x28.1.m.t.b).length) c31, .slice p33 ((x28.1.m.t.f).length) c35, .slice p37 ((x28.1.m.c.l).length) c39, I x28.1.m.c.h, I x28.1.m.g.c, I x28.1.m.g.n, I x28.1.m.g.r, .slice p41 ((x28.1.m.g.o).length) c43, I x28.1.m.s, .slice p45 ((x28.1.k).length) c47, I x28.1.h] 37 (0, 0))])]) ⟨_, _, eo0_0, J, J⟩ ?_ ?_)))
 ·rintro fuel _ _ ⟨v89, v90, H1, rfl, rfl⟩
  rcases fuel with _ | fuel
  ·rw [l_FnUsePages_L0.eq_1] at H1; cases H1
  rw [l_FnUsePages_L0.eq_2] at H1
  refine csr (oM J (oM J (oD (stp_len u23 J) J (oW J (nn (cH J H1 (fun H1 => ?_) (fun H1 => ?_)))))))
  ·obtain ⟨x92, e92, H1⟩ := bS H1
   obtain ⟨x93, e93, H1⟩ := bS H1
   refine kq (cw_block (cR (oM J (oM J (oM J (oD (stp_indexAddr u23 ts3 (by decide) J J J (Rdb.own (id := 12) J o52) e92) J (oD (stp_load1 ts3 J (Cells.el (Rdb.own (id := 12) J o52) (by decide) e92 0 1 J)) J (oP e93 J (oS J (ow_nil (kw_bl_normal ?_)))))))))))
   obtain ⟨x94, e94, H1⟩ := bS H1
   exact kw_nx (cR (oM J (oP e94 J (oS J (ow_nil (ka ⟨_, _, H1, J, J⟩))))))
  refine cw_exit (kw_nx_exit (ax (kw_bl ?_)))
  obtain rfl := sI H1
  exact kx ⟨_, _, J, J, J⟩
 rintro _ _ ⟨v89, v90, rfl, rfl, rfl⟩
 obtain ⟨x95, e95, H0⟩ := bS H0
 obtain ⟨x96, e96, H0⟩ := bS H0
 obtain ⟨x97, e97, H0⟩ := bS H0
 refine kw_nx (sr (oM J (oD (stp_len u23 J) J (oD (stp_quo J J e95) J (sn J (cq (rdt g_mixed [.n 0, .n 1, .n 2, .n 3, .d 4, .d 9, .o 4, .n 5, .n 6, .n 7, .n 8, .o 9, .n 10, .n 11, .n 12] ⟨[[6],[],[],[5],[0,1,2,3,4,5],[],[],[],[],[],[27]], [[],[],[],[],[21,22,23,24,25,26],[],[],[],[],[27],[27]], [4,9]⟩ (dB11 6 ts37 J (dM J (dM J (dD J (stp_take u23 ts3 J J J (Rdb.own (id := 5) J o26) e96) (dq J (fun hh => uC 21 cf9 (fun w hw => c_i_UsePages fl w x2.1 x96 J (owp 0 (hh _ _ J) o6 hw) J (owp 1 (hh _ _ J) o10 hw) J (owp 2 (hh _ _ J) o14 hw) J (owp 3 (hh _ _ J) o18 hw) J (owp 4 (hh _ _ J) o22 hw) J (RO.take (owp 5 (hh _ _ J) o26 hw) e96) (rp hg hw) x97 e97) (yB J J)) (by rintro _ _ ⟨_, ⟨_, _, _, _, _, _, _, _, _, _, _, _, _, _, _, _, _, _, _, _, _, _, _, _, _, _, _, _, _, _, _, _, _, _, _, _, rfl, rfl⟩, rfl⟩; rfl) ?_))))))))))))
 refine dq J (fun hh => stpU_alloc 27 tz37 J) (by rintro _ _ ⟨_, rfl, rfl⟩; rfl) (dp J ?_)
 rintro _ _ ⟨_, ⟨p98, _, c100, C101, rfl, o101, p102, _, c104, C105, rfl, o105, p106, _, c108, C109, rfl, o109, p110, _, c112, C113, rfl, o113, p114, _, c116, C117, rfl, o117, p118, _, c120, C121, rfl, o121, rfl, rfl⟩, rfl⟩
 refine dM J (dT J (dT J (dT J (dp J ?_))))
 rintro _ _ ⟨b122, rfl, rfl⟩
 obtain ⟨x123, e123, H0⟩ := bS H0
 obtain ⟨x124, e124, H0⟩ := bS H0
 refine dC11 27 ts37 J J J (dS J (dS J (dn (kw_nx (cq (rdt g_mixed [.n 0, .n 1, .n 2, .n 3, .d 4, .d 9, .o 4, .n 5, .n 6, .n 7, .n 8, .o 9, .n 10, .n 11, .n 12] ⟨[[27],[],[],[5],[5,21,22,23,24,25],[],[],[],[],[],[34]], [[],[],[],[],[28,29,30,31,32,33],[],[],[],[],[34],[34]], [4,9]⟩ (dB11 27 ts37 J (dM J (dM J (dD J (stp_drop u23 ts3 J J J (Rdb.own (id := 5) J o26) e123) (dq J (fun hh => uC 28 cf9 (fun w hw => c_i_UsePages fl w x97.1 x123 J (owp 21 (hh _ _ J) o101 hw) J (owp 22 (hh _ _ J) o105 hw) J (owp 23 (hh _ _ J) o109 hw) J (owp 24 (hh _ _ J) o113 hw) J (owp 25 (hh _ _ J) o117 hw) J (RO.drop (owp 5 (hh _ _ J) o26 hw) e123) (rp hg hw) x124 e124) (yB J J)) (by rintro _ _ ⟨_, ⟨_, _, _, _, _, _, _, _, _, _, _, _, _, _, _, _, _, _, _, _, _, _, _, _, _, _, _, _, _, _, _, _, _, _, _, _, rfl, rfl⟩, rfl⟩; rfl) ?_)))))))))))
 refine dq J (fun hh => stpU_alloc 34 tz37 J) (by rintro _ _ ⟨_, rfl, rfl⟩; rfl) (dp J ?_)
 rintro _ _ ⟨_, ⟨p125, _, c127, C128, rfl, o128, p129, _, c131, C132, rfl, o132, p133, _, c135, C136, rfl, o136, p137, _, c139, C140, rfl, o140, p141, _, c143, C144, rfl, o144, p145, _, c147, C148, rfl, o148, rfl, rfl⟩, rfl⟩
 refine dM J (dT J (dT J (dT J (dp J ?_))))
 rintro _ _ ⟨b149, rfl, rfl⟩
 obtain ⟨x150, e150, H0⟩ := bS H0
 refine dC11 34 ts37 J J J (dS J (dS J (dn (kw_nx (sr (oB11 13 ts37 J (oE (uC 35 cf14 (fun w hw => c_i_MemoryValid fl w x28.1 J (owp 7 J o32 hw) J (owp 8 J o36 hw) J (owp 9 J o40 hw) J (owp 10 J o44 hw) J (owp 11 J o48 hw) (rp hg hw) x150 e150) (yA J)) J ?_)))))))
 rintro _ _ ⟨_, ⟨rfl, rfl⟩, rfl⟩
 obtain ⟨y151, ey151, H0⟩ := bS H0
 refine oM J (ow_cutY 5 114 y151 ?_ ?_)
 ·rcases Bool.eq_false_or_eq_true x150 with hy151 | hy151
  ·have ey151 := cond_t ey151 hy151
   refine oG J hy151 (mv J) J (oG J hy151 (mv J) J (oG J hy151 (stp_len u23 J) J (oG J hy151 (stp_eql J J) J (oD (stp_pick_t J hy151 J) J ?_))))
   obtain rfl := sI ey151
   exact ow_nil (jy 5 0)
  have ey151 := cond_f ey151 hy151
  refine oO J hy151 J (oO J hy151 J (oO J hy151 J (oO J hy151 J (oD (stp_pick_f J hy151 J) J ?_))))
  obtain rfl := sI ey151
  exact ow_nil (jy 5 0)
 obtain ⟨y152, ey152, H0⟩ := bS H0
 refine oM J (ow_cutY 4 119 y152 ?_ ?_)
 ·rcases Bool.eq_false_or_eq_true y151 with hy152 | hy152
  ·have ey152 := cond_t ey152 hy152
   refine oG J hy152 (mv J) J (oG J hy152 (stp_len u23 J) J (oG J hy152 (stp_eql J J) J (oD (stp_pick_t J hy152 J) J ?_)))
   obtain rfl := sI ey152
   exact ow_nil (jy 4 0)
  have ey152 := cond_f ey152 hy152
  refine oO J hy152 J (oO J hy152 J (oO J hy152 J (oD (stp_pick_f J hy152 J) J ?_)))
  obtain rfl := sI ey152
  exact ow_nil (jy 4 0)
 obtain ⟨y153, ey153, H0⟩ := bS H0
 refine oM J (ow_cutY 5 125 y153 ?_ ?_)
 ·rcases Bool.eq_false_or_eq_true y152 with hy153 | hy153
  ·have ey153 := cond_t ey153 hy153
   obtain ⟨x154, e154, ey153⟩ := bS ey153
   refine oG J hy153 (mv J) J (oG J hy153 (stp_indexAddr u23 ts3 (by decide) J J J (Rdb.own (id := 12) J o52) e154) J (oG J hy153 (stp_load1 ts3 J (Cells.el (Rdb.own (id := 12) J o52) (by decide) e154 0 1 J)) J (oG J hy153 (stp_eql J J) J (oD (stp_pick_t J hy153 J) J ?_))))
   obtain rfl := sI ey153
   exact ow_nil (jy 5 0)
  have ey153 := cond_f ey153 hy153
  refine oO J hy153 J (oO J hy153 J (oO J hy153 J (oO J hy153 J (oD (stp_pick_f J hy153 J) J ?_))))
  obtain rfl := sI ey153
  exact ow_nil (jy 5 0)
 obtain ⟨y155, ey155, H0⟩ := bS H0
 refine oM J (ow_cutY 2 128 y155 ?_ ?_)
 ·rcases Bool.eq_false_or_eq_true y153 with hy155 | hy155
  ·have ey155 := cond_t ey155 hy155
   refine oG J hy155 (mv J) J (oD (stp_pick_t J hy155 J) J ?_)
   obtain rfl := sI ey155
   exact ow_nil (jy 2 0)
  have ey155 := cond_f ey155 hy155
  refine oO J hy155 J (oD (stp_pick_f J hy155 J) J ?_)
  obtain rfl := sI ey155
  exact ow_nil (jy 2 0)
 obtain ⟨y156, ey156, H0⟩ := bS H0
 refine oM J (ow_cutY 2 131 y156 ?_ ?_)
 ·rcases Bool.eq_false_or_eq_true y155 with hy156 | hy156
  ·have ey156 := cond_t ey156 hy156
   refine oG J hy156 (mv J) J (oD (stp_pick_t J hy156 J) J ?_)
   obtain rfl := sI ey156
   exact ow_nil (jy 2 0)
  have ey156 := cond_f ey156 hy156
  refine oO J hy156 J (oD (stp_pick_f J hy156 J) J ?_)
  obtain rfl := sI ey156
  exact ow_nil (jy 2 0)
 obtain ⟨y157, ey157, H0⟩ := bS H0
 refine oM J (ow_cutY 4 136 y157 ?_ ?_)
 ·rcases Bool.eq_false_or_eq_true y156 with hy157 | hy157
  ·have ey157 := cond_t ey157 hy157
   obtain ⟨x158, e158, ey157⟩ := bS ey157
   refine oG J hy157 (stp_loadN (us := [_, _, _, _, _, _, _, _, _, _, _]) ts37 J (Cells.box (id := 34) J 11 J)) J (oG J hy157 (stp_loadN (us := [_, _, _, _, _, _, _, _, _, _, _]) ts37 J (Cells.box (id := 13) J 11 J)) J (ow_eff (.some J hy157) (uC 35 cf11 (fun w hw => c_i_MemorySame fl w x124.1 x28.1 J (owp 28 J o128 hw) J (owp 29 J o132 hw) J (owp 30 J o136 hw) J (owp 31 J o140 hw) J (owp 32 J o144 hw) J (owp 7 J o32 hw) J (owp 8 J o36 hw) J (owp 9 J o40 hw) J (owp 10 J o44 hw) J (owp 11 J o48 hw) x158 e158) (yB J J)) J ?_))
   rintro _ _ ⟨_, ⟨rfl, rfl⟩, rfl⟩
   refine oD (stp_pick_t J hy157 J) J ?_
   obtain rfl := sI ey157
   exact ow_nil (jy 4 0)
  have ey157 := cond_f ey157 hy157
  refine oO J hy157 J (oO J hy157 J (oO J hy157 J (oD (stp_pick_f J hy157 J) J ?_)))
  obtain rfl := sI ey157
  exact ow_nil (jy 4 0)
 refine sn J (cw_ret ?_)
 obtain rfl := sI H0
 exact kr results4 (rT J) [] ⟨J, J⟩
end Go.Proofs.YtbfbfkpcabkchaaGreatDoor
