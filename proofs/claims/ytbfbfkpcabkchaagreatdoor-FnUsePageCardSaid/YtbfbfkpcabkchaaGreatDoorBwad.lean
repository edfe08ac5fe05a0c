/- The walks: functions of the program return what their pure functions say. Printed by a program (gen.py). -/
import Derived.Test.YtbfbfkpcabkchaaGreatDoorBp
import Derived.Test.YtbfbfkpcabkchaaGreatDoorBt
import Derived.Test.YtbfbfkpcabkchaaGreatDoorMan
import Derived.Test.YtbfbfkpcabkchaaGreatDoorMap
import Derived.Test.YtbfbfkpcabkchaaGreatDoorCpy
import Derived.Test.YtbfbfkpcabkchaaGreatDoorBe
import Derived.Test.YtbfbfkpcabkchaaGreatDoorBwab
import Derived.Test.YtbfbfkpcabkchaaGreatDoorBwac
import Derived.Test.YtbfbfkpcabkchaaGreatDoorBws
set_option linter.unusedSimpArgs false
set_option linter.unusedVariables false
set_option linter.unusedSectionVars false
namespace Go.Proofs.YtbfbfkpcabkchaaGreatDoor
open Go.RowKit
open Tryz
set_option maxHeartbeats 4000000
set_option maxRecDepth 20000
variable {p0_0 p0_1 p0_2 p0_3 p0_4 p1_0 p1_1 p1_2 p1_3 p1_4 : Option Addr} {n0_0 n0_1 n0_2 n0_3 n0_4 n1_0 n1_1 n1_2 n1_3 n1_4 : Nat} {c0_0 c0_1 c0_2 c0_3 c0_4 c1_0 c1_1 c1_2 c1_3 c1_4 : Nat}
theorem c_i_UsePage (fl : Nat) (w : World) (a0 : Mm) (a1 : Int) (a2 : Int) (a3 : Int) (hn0_0 : n0_0 = (a0.m.t.b).length) (hr0_0 : RO w [] (RdL p0_0 c0_0 a0.m.t.b)) (hn0_1 : n0_1 = (a0.m.t.f).length) (hr0_1 : RO w [] (RdL p0_1 c0_1 a0.m.t.f)) (hn0_2 : n0_2 = (a0.m.c.l).length) (hr0_2 : RO w [] (RdL p0_2 c0_2 a0.m.c.l)) (hn0_3 : n0_3 = (a0.m.g.o).length) (hr0_3 : RO w [] (RdL p0_3 c0_3 a0.m.g.o)) (hn0_4 : n0_4 = (a0.k).length) (hr0_4 : RO w [] (RdL p0_4 c0_4 a0.k)) (hg : RO w [] (fun w' => w'.rangeAt 0 0 [.bool false, I 0, I 0, I 0, I (-1)])) (r : Mm × Int × Int × Bool) (H0 : i_UsePage fl a0 a1 a2 a3 = some r) :
  Ct prog 18 [.agg #[.slice p0_0 n0_0 c0_0, .slice p0_1 n0_1 c0_1, .slice p0_2 n0_2 c0_2, I a0.m.c.h, I a0.m.g.c, I a0.m.g.n, I a0.m.g.r, .slice p0_3 n0_3 c0_3, I a0.m.s, .slice p0_4 n0_4 c0_4, I a0.h], I a1, I a2, I a3] w [] (fun rv h' => SL 3 r.1.m.t.b fun x0 y0 z0 C0 => SL 57 r.1.m.t.f fun x1 y1 z1 C1 => SL 104 r.1.m.c.l fun x2 y2 z2 C2 => SL 70 r.1.m.g.o fun x3 y3 z3 C3 => SL 4 r.1.k fun x4 y4 z4 C4 => rv = .tuple #[.agg #[.slice x0 y0 z0, .slice x1 y1 z1, .slice x2 y2 z2, I r.1.m.c.h, I r.1.m.g.c, I r.1.m.g.n, I r.1.m.g.r, .slice x3 y3 z3, I r.1.m.s, .slice x4 y4 z4, I r.1.h], I r.2.1, I r.2.2.1, .bool r.2.2.2] ∧ h' = [(0, C0), (1, C1), (2, C2), (3, C3), (4, C4)]) := by
 subst hn0_0 hn0_1 hn0_2 hn0_3 hn0_4
 unfold i_UsePage at H0
 refine ct_of_cw func18 J ntmps18 J (Sat.refl _ _) ?_
 refine sr (oE (stpU_box 0 J J) J ?_)
 rintro _ _ ⟨b1, rfl, rfl⟩
 refine oE (stpU_alloc 1 tz37 J) J ?_
 rintro _ _ ⟨b2, rfl, rfl⟩
 obtain ⟨x3, e3, H0⟩ := bS H0
 refine oS J (oS J (sq J (oB11 0 ts37 J (oE (uC 2 cf14 (fun w hw => c_i_MemoryValid fl w a0 J (rp hr0_0 hw) J (rp hr0_1 hw) J (rp hr0_2 hw) J (rp hr0_3 hw) J (rp hr0_4 hw) (rp hg hw) x3 e3) (yA J)) J ?_))))
 rintro _ _ ⟨_, ⟨rfl, rfl⟩, rfl⟩
 obtain ⟨y4, ey4, H0⟩ := bS H0
 refine oK J (oM J (ow_cutY 4 35 y4 ?_ ?_))
 ·rcases Bool.eq_false_or_eq_true (!x3) with hy4 | hy4
  ·have ey4 := cond_t ey4 hy4
   refine oO J hy4 J (oO J hy4 J (oO J hy4 J (oD (stp_pick_t J hy4 J) J ?_)))
   obtain rfl := sI ey4
   exact ow_nil (jy 4 0)
  have ey4 := cond_f ey4 hy4
  obtain ⟨x5, e5, ey4⟩ := bS ey4
  refine oG J hy4 (mv J) J (ow_eff (.some J hy4) (uC 2 cf32 (fun w hw => c_i_within fl w a1 256 x5 e5) (yB J J)) J ?_)
  rintro _ _ ⟨_, ⟨rfl, rfl⟩, rfl⟩
  refine oG J hy4 (stp_not J) J (oD (stp_pick_f J hy4 J) J ?_)
  obtain rfl := sI ey4
  exact ow_nil (jy 4 0)
 obtain ⟨y6, ey6, H0⟩ := bS H0
 refine oM J (ow_cutY 4 40 y6 ?_ ?_)
 ·rcases Bool.eq_false_or_eq_true y4 with hy6 | hy6
  ·have ey6 := cond_t ey6 hy6
   refine oO J hy6 J (oO J hy6 J (oO J hy6 J (oD (stp_pick_t J hy6 J) J ?_)))
   obtain rfl := sI ey6
   exact ow_nil (jy 4 0)
  have ey6 := cond_f ey6 hy6
  obtain ⟨x7, e7, ey6⟩ := bS ey6
  refine oG J hy6 (mv J) J (ow_eff (.some J hy6) (uC 2 cf37 (fun w hw => c_i_RightsValid fl w a2 x7 e7) (yA J)) J ?_)
  rintro _ _ ⟨_, ⟨rfl, rfl⟩, rfl⟩
  refine oG J hy6 (stp_not J) J (oD (stp_pick_f J hy6 J) J ?_)
  obtain rfl := sI ey6
  exact ow_nil (jy 4 0)
 obtain ⟨y8, ey8, H0⟩ := bS H0
 refine oM J (ow_cutY 4 45 y8 ?_ ?_)
 ·rcases Bool.eq_false_or_eq_true y6 with hy8 | hy8
  ·have ey8 := cond_t ey8 hy8
   refine oO J hy8 J (oO J hy8 J (oO J hy8 J (oD (stp_pick_t J hy8 J) J ?_)))
   obtain rfl := sI ey8
   exact ow_nil (jy 4 0)
  have ey8 := cond_f ey8 hy8
  obtain ⟨x9, e9, ey8⟩ := bS ey8
  refine oG J hy8 (mv J) J (ow_eff (.some J hy8) (uC 2 cf37 (fun w hw => c_i_RightsValid fl w a3 x9 e9) (yA J)) J ?_)
  rintro _ _ ⟨_, ⟨rfl, rfl⟩, rfl⟩
  refine oG J hy8 (stp_not J) J (oD (stp_pick_f J hy8 J) J ?_)
  obtain rfl := sI ey8
  exact ow_nil (jy 4 0)
 refine ow_nil (kw_nx (cH J H0 (fun H0 => ?_) (fun H0 => ?_)))
 ·refine sr (oD (stp_build (cs := #[sN, sN, sN, I 0, I 0, I 0, I 0, sN, I 0, sN, I 0]) sE bt37_19) J (oC11 1 ts37 J J (oS J (oS J (sR J (kA 2 (kA 3 (kA 4 (kA 5 (kA 6 ?_))))))))))
  obtain rfl := sI H0
  exact kr results18 (.cons (.cellN (us := [_, _, _, _, _, _, _, _, _, _, _]) ts37 J (Cells.box (id := 1) J 11 J)) (.cons (.tmp J) (.cons (.tmp J) (rT J)))) [2, 3, 4, 5, 6] (sl J oN0 (sl J oN0 (sl J oN0 (sl J oN0 (sl J oN0 ⟨J, J⟩)))))
 obtain ⟨x11, e11, H0⟩ := bS H0
 refine ks (oB11 0 ts37 J (oE (uC 7 cf25 (fun w hw => c_i_Memory_clone fl w a0 J (rp hr0_0 hw) J (rp hr0_1 hw) J (rp hr0_2 hw) J (rp hr0_3 hw) J (rp hr0_4 hw) x11 e11) (yA J)) J ?_))
 rintro _ _ ⟨_, ⟨p12, _, c14, C15, rfl, o15, p16, _, c18, C19, rfl, o19, p20, _, c22, C23, rfl, o23, p24, _, c26, C27, rfl, o27, p28, _, c30, C31, rfl, o31, rfl, rfl⟩, rfl⟩
 refine oE (stpU_alloc 12 tz37 J) J ?_
 rintro _ _ ⟨b32, rfl, rfl⟩
 obtain ⟨x33, e33, H0⟩ := bS H0
 refine oC11 12 ts37 J J (ns (oA 0 u37 J ts34 J (oAL 8 u34 J ts3 J 0 J (oM J (oE (uC 13 cf16 (fun w hw => c_i_KeyFor fl w a0.m.s a1 x33 e33) (yB J J)) J ?_)))))
 rintro _ _ ⟨_, ⟨rfl, rfl⟩, rfl⟩
 refine oE (stpU_alloc 13 tz50 J) J ?_
 rintro _ _ ⟨b34, rfl, rfl⟩
 obtain ⟨x35, e35, H0⟩ := bS H0
 refine oC2 13 ts50 J J (ns (oA 0 u37 J ts34 J (oA 0 u34 J ts26 J (oB2 0 ts26 J (oB2 13 ts50 J (oE (uC 14 cf38 (fun w hw => c_i_Table_find fl w a0.m.t x33 J (rp hr0_0 hw) J (rp hr0_1 hw) x35 e35) (yB J J)) J ?_))))))
 rintro _ _ ⟨_, ⟨rfl, rfl⟩, rfl⟩
 refine oW J (sq J (oM J (nn (cH J H0 (fun H0 => ?_) (fun H0 => ?_)))))
 ·obtain ⟨x37, e37, H0⟩ := bS H0
  refine sr (oB11 12 ts37 J (oE (uC 14 cf39 (fun w hw => c_i_FreeFrame fl w x11 J (owp 7 J o15 hw) J (owp 8 J o19 hw) J (owp 9 J o23 hw) J (owp 10 J o27 hw) J (owp 11 J o31 hw) (rp hg hw) x37 e37) (yA J)) J ?_))
  rintro _ _ ⟨_, ⟨rfl, rfl⟩, rfl⟩
  refine oMTT J J J (oS J (sq J (oM J (oK J (nn (cH J H0 (fun H0 => ?_) (fun H0 => ?_)))))))
  ·obtain ⟨x39, e39, H0⟩ := bS H0
   refine sr (oB11 12 ts37 J (oE (uC 14 cf40 (fun w hw => c_i_FrameVictim fl w x11 J (owp 7 J o15 hw) J (owp 8 J o19 hw) J (owp 9 J o23 hw) J (owp 10 J o27 hw) J (owp 11 J o31 hw) (rp hg hw) x39 e39) (yA J)) J ?_))
   rintro _ _ ⟨_, ⟨p40, _, c42, C43, rfl, o43, p44, _, c46, C47, rfl, o47, p48, _, c50, C51, rfl, o51, p52, _, c54, C55, rfl, o55, p56, _, c58, C59, rfl, o59, rfl, rfl⟩, rfl⟩
   refine oMTT J J J (oT J (oE (stpU_alloc 19 tz37 J) J ?_))
   rintro _ _ ⟨b60, rfl, rfl⟩
   refine oC11 19 ts37 J J (oS J (sq J (oM J (oK J (nn (cH J H0 (fun H0 => ?_) (fun H0 => ?_)))))))
   ·refine sr (oD (stp_build (cs := #[sN, sN, sN, I 0, I 0, I 0, I 0, sN, I 0, sN, I 0]) sE bt37_19) J (oC11 1 ts37 J J (oS J (oS J (sR J (kR (kR (kA 20 (kA 21 (kA 22 ?_))))))))))
    refine kA 23 (kA 24 ?_)
    obtain rfl := sI H0
    exact kr results18 (.cons (.cellN (us := [_, _, _, _, _, _, _, _, _, _, _]) ts37 J (Cells.box (id := 1) J 11 J)) (.cons (.tmp J) (.cons (.tmp J) (rT J)))) [20, 21, 22, 23, 24] (sl J oN0 (sl J oN0 (sl J oN0 (sl J oN0 (sl J oN0 ⟨J, J⟩)))))
   refine ks (oB11 19 ts37 J (oM J (oC11 12 ts37 J J (sn J (cq (rdt g_mixed [.n 0, .n 1, .n 2, .n 3, .n 4, .n 5, .n 6, .n 7, .n 8, .n 9, .d 10, .d 14, .o 10, .n 11, .n 12, .n 13, .o 14, .n 15, .n 16] ⟨[[],[12],[],[],[],[12],[],[15],[],[15],[14,15,16,17],[],[],[],[],[29]], [[],[],[],[],[],[],[],[],[],[],[25,26,27,28],[],[],[],[29],[29]], [10,14]⟩ (dA 0 J u37 J ts34 J (dB9 12 ts34 J (dA 0 J u37 J ts34 J (dA 0 J u34 J ts26 J ?_))))))))))
   obtain ⟨x62, e62, H0⟩ := bS H0
   obtain ⟨x63, e63, H0⟩ := bS H0
   refine dA 1 J u26 J ts24 J (dL 12 ts24 J (dM J (dD J (stp_indexAddr u24 ts57 (by decide) J J J (Rdb.own (id := 15) J o47) e62) (dA 1 J u57 J ts50 J (dD J (stp_loadN (us := [_, _]) ts50 J (Cells.el (Rdb.own (id := 15) J o47) (by decide) e62 1 2 J)) (dq J (fun hh => uC 25 cf41 (fun w hw => c_i_TakePage fl w x39.1.m x62.k J (owp 14 (hh _ _ J) o43 hw) J (owp 15 (hh _ _ J) o47 hw) J (owp 16 (hh _ _ J) o51 hw) J (owp 17 (hh _ _ J) o55 hw) (rp hg hw) x63 e63) (yB J J)) (by rintro _ _ ⟨_, ⟨_, _, _, _, _, _, _, _, _, _, _, _, _, _, _, _, _, _, _, _, _, _, _, _, rfl, rfl⟩, rfl⟩; rfl) (dq J (fun hh => stpU_alloc 29 tz34 J) (by rintro _ _ ⟨_, rfl, rfl⟩; rfl) (dp J ?_))))))))
   rintro _ _ ⟨_, ⟨p64, _, c66, C67, rfl, o67, p68, _, c70, C71, rfl, o71, p72, _, c74, C75, rfl, o75, p76, _, c78, C79, rfl, o79, rfl, rfl⟩, rfl⟩
   refine dM J (dT J (dT J (dp J ?_)))
   rintro _ _ ⟨b80, rfl, rfl⟩
   refine dC9 29 ts34 J J J (dS J (dn (kw_nx (csr (oM J (oK J (nn (cH J H0 (fun H0 => ?_) (fun H0 => ?_)))))))))
   ·refine sr (oD (stp_build (cs := #[sN, sN, sN, I 0, I 0, I 0, I 0, sN, I 0, sN, I 0]) sE bt37_19) J (oC11 1 ts37 J J (oS J (oS J (sR J (kR (kR (kA 30 (kA 31 (kA 32 ?_))))))))))
    refine kA 33 (kA 34 ?_)
    obtain rfl := sI H0
    exact kr results18 (.cons (.cellN (us := [_, _, _, _, _, _, _, _, _, _, _]) ts37 J (Cells.box (id := 1) J 11 J)) (.cons (.tmp J) (.cons (.tmp J) (rT J)))) [30, 31, 32, 33, 34] (sl J oN0 (sl J oN0 (sl J oN0 (sl J oN0 (sl J oN0 ⟨J, J⟩)))))
   obtain ⟨x82, e82, H0⟩ := bS H0
   refine kz (cR (oB9 29 ts34 J (oA 0 u37 J ts34 J (oC11 12 ts34 J J (ns (oA 0 u37 J ts34 J (oB9 12 ts34 J (oB2 13 ts50 J (oM J (oM J (oE (uC 35 cf42 (fun w hw => c_i_PutPage fl w x63.1 x33 x39.2.1 a3 J (owp 25 J o67 hw) J (owp 26 J o71 hw) J (owp 27 J o75 hw) J (owp 28 J o79 hw) (rp hg hw) x82 e82) (yD J J J J)) J ?_)))))))))))
   rintro _ _ ⟨_, ⟨p83, _, c85, C86, rfl, o86, p87, _, c89, C90, rfl, o90, p91, _, c93, C94, rfl, o94, p95, _, c97, C98, rfl, o98, rfl, rfl⟩, rfl⟩
   refine oMTT J J J (oE (stpU_alloc 39 tz34 J) J ?_)
   rintro _ _ ⟨b99, rfl, rfl⟩
   refine oC9 39 ts34 J J (sq J (oM J (oK J (nn (cH J H0 (fun H0 => ?_) (fun H0 => ?_))))))
   ·refine sr (oD (stp_build (cs := #[sN, sN, sN, I 0, I 0, I 0, I 0, sN, I 0, sN, I 0]) sE bt37_19) J (oC11 1 ts37 J J (oS J (oS J (sR J (kR (kA 40 (kA 41 (kA 42 (kA 43 ?_))))))))))
    refine kA 44 ?_
    obtain rfl := sI H0
    exact kr results18 (.cons (.cellN (us := [_, _, _, _, _, _, _, _, _, _, _]) ts37 J (Cells.box (id := 1) J 11 J)) (.cons (.tmp J) (.cons (.tmp J) (rT J)))) [40, 41, 42, 43, 44] (sl J oN0 (sl J oN0 (sl J oN0 (sl J oN0 (sl J oN0 ⟨J, J⟩)))))
   obtain ⟨x101, e101, H0⟩ := bS H0
   refine kz (cR (oB9 39 ts34 J (oA 0 u37 J ts34 J (oC11 12 ts34 J J (ns (oA 0 u37 J ts34 J (oB9 12 ts34 J (oM J (oM J (oE (uC 45 cf43 (fun w hw => c_i_TouchPage fl w x82.1 a1 a2 J (owp 35 J o86 hw) J (owp 36 J o90 hw) J (owp 37 J o94 hw) J (owp 38 J o98 hw) (rp hg hw) x101 e101) (yC J J J)) J ?_))))))))))
   rintro _ _ ⟨_, ⟨p102, _, c104, C105, rfl, o105, p106, _, c108, C109, rfl, o109, p110, _, c112, C113, rfl, o113, p114, _, c116, C117, rfl, o117, rfl, rfl⟩, rfl⟩
   refine oMTT J J J (oT J (oT J (oE (stpU_alloc 49 tz34 J) J ?_)))
   rintro _ _ ⟨b118, rfl, rfl⟩
   refine oC9 49 ts34 J J (oS J (oS J (sq J (oM J (oK J (nn (cH J H0 (fun H0 => ?_) (fun H0 => ?_))))))))
   ·refine sr (oD (stp_build (cs := #[sN, sN, sN, I 0, I 0, I 0, I 0, sN, I 0, sN, I 0]) sE bt37_19) J (oC11 1 ts37 J J (oS J (oS J (sR J (kA 50 (kA 51 (kA 52 (kA 53 (kA 54 ?_))))))))))
    obtain rfl := sI H0
    exact kr results18 (.cons (.cellN (us := [_, _, _, _, _, _, _, _, _, _, _]) ts37 J (Cells.box (id := 1) J 11 J)) (.cons (.tmp J) (.cons (.tmp J) (rT J)))) [50, 51, 52, 53, 54] (sl J oN0 (sl J oN0 (sl J oN0 (sl J oN0 (sl J oN0 ⟨J, J⟩)))))
   obtain ⟨x120, e120, H0⟩ := bS H0
   refine ks (oB9 49 ts34 J (oA 0 u37 J ts34 J (oC11 12 ts34 J J (ns (oAL 9 u37 J ts35 J 12 J (oM J (oD (stp_indexAddr u35 ts4 (by decide) J J J (Rdb.own (id := 18) J o59) e120) J (oF (stpU_storeEl (id := 18) (i := 0) true (by decide) ts4 J J J o59 e120 J J J J) ?_))))))))
   rintro _ _ ⟨C121, rfl, o121⟩
   obtain ⟨y122, ey122, H0⟩ := bS H0
   refine nq (oM J (oM J (ow_cutY 3 135 y122 ?_ ?_)))
   ·rcases Bool.eq_false_or_eq_true (decide (x35 < 0)) with hy122 | hy122
    ·have ey122 := cond_t ey122 hy122
     refine oG J hy122 (mv J) J (oG J hy122 (stp_eql J J) J (oD (stp_pick_t J hy122 J) J ?_))
     obtain rfl := sI ey122
     exact ow_nil (jy 3 0)
    have ey122 := cond_f ey122 hy122
    refine oO J hy122 J (oO J hy122 J (oD (stp_pick_f J hy122 J) J ?_))
    obtain rfl := sI ey122
    exact ow_nil (jy 3 0)
   refine ow_nil (kw_nx (cH J H0 (fun H0 => ?_) (fun H0 => ?_)))
   ·refine cR (ss J (oB11 12 ts37 J (oM J (oM J (oC11 1 ts37 J J (oS J (oS J (sn J (cw_ret ?_)))))))))
    obtain rfl := sI H0
    exact kr results18 (.cons (.cellN (us := [_, _, _, _, _, _, _, _, _, _, _]) ts37 J (Cells.box (id := 1) J 11 J)) (.cons (.tmp J) (.cons (.tmp J) (rT J)))) [45, 46, 47, 48, 18] (sl J o105 (sl J o109 (sl J o113 (sl J o117 (sl (by simp) o121 ⟨J, J⟩)))))
   refine ks (oB11 12 ts37 J (oM J (oM J (oC11 1 ts37 J J (oS J (oS J (sn J (cw_ret ?_))))))))
   obtain rfl := sI H0
   exact kr results18 (.cons (.cellN (us := [_, _, _, _, _, _, _, _, _, _, _]) ts37 J (Cells.box (id := 1) J 11 J)) (.cons (.tmp J) (.cons (.tmp J) (rT J)))) [45, 46, 47, 48, 18] (sl J o105 (sl J o109 (sl J o113 (sl J o117 (sl (by simp) o121 ⟨J, J⟩)))))
  obtain ⟨x124, e124, H0⟩ := bS H0
  refine ks (oA 0 u37 J ts34 J (oB9 12 ts34 J (oB2 13 ts50 J (oM J (oM J (oE (uC 55 cf42 (fun w hw => c_i_PutPage fl w x11.m x33 x37.1 a3 J (owp 7 J o15 hw) J (owp 8 J o19 hw) J (owp 9 J o23 hw) J (owp 10 J o27 hw) (rp hg hw) x124 e124) (yD J J J J)) J ?_))))))
  rintro _ _ ⟨_, ⟨p125, _, c127, C128, rfl, o128, p129, _, c131, C132, rfl, o132, p133, _, c135, C136, rfl, o136, p137, _, c139, C140, rfl, o140, rfl, rfl⟩, rfl⟩
  refine oMTT J J J (oE (stpU_alloc 59 tz34 J) J ?_)
  rintro _ _ ⟨b141, rfl, rfl⟩
  refine oC9 59 ts34 J J (sq J (oM J (oK J (nn (cH J H0 (fun H0 => ?_) (fun H0 => ?_))))))
  ·refine sr (oD (stp_build (cs := #[sN, sN, sN, I 0, I 0, I 0, I 0, sN, I 0, sN, I 0]) sE bt37_19) J (oC11 1 ts37 J J (oS J (oS J (sR J (kR (kA 60 (kA 61 (kA 62 (kA 63 ?_))))))))))
   refine kA 64 ?_
   obtain rfl := sI H0
   exact kr results18 (.cons (.cellN (us := [_, _, _, _, _, _, _, _, _, _, _]) ts37 J (Cells.box (id := 1) J 11 J)) (.cons (.tmp J) (.cons (.tmp J) (rT J)))) [60, 61, 62, 63, 64] (sl J oN0 (sl J oN0 (sl J oN0 (sl J oN0 (sl J oN0 ⟨J, J⟩)))))
  obtain ⟨x143, e143, H0⟩ := bS H0
  refine kz (cR (oB9 59 ts34 J (oA 0 u37 J ts34 J (oC11 12 ts34 J J (ns (oA 0 u37 J ts34 J (oB9 12 ts34 J (oM J (oM J (oE (uC 65 cf43 (fun w hw => c_i_TouchPage fl w x124.1 a1 a2 J (owp 55 J o128 hw) J (owp 56 J o132 hw) J (owp 57 J o136 hw) J (owp 58 J o140 hw) (rp hg hw) x143 e143) (yC J J J)) J ?_))))))))))
  rintro _ _ ⟨_, ⟨p144, _, c146, C147, rfl, o147, p148, _, c150, C151, rfl, o151, p152, _, c154, C155, rfl, o155, p156, _, c158, C159, rfl, o159, rfl, rfl⟩, rfl⟩
  refine oMTT J J J (oT J (oT J (oE (stpU_alloc 69 tz34 J) J ?_)))
  rintro _ _ ⟨b160, rfl, rfl⟩
  refine oC9 69 ts34 J J (oS J (oS J (sq J (oM J (oK J (nn (cH J H0 (fun H0 => ?_) (fun H0 => ?_))))))))
  ·refine sr (oD (stp_build (cs := #[sN, sN, sN, I 0, I 0, I 0, I 0, sN, I 0, sN, I 0]) sE bt37_19) J (oC11 1 ts37 J J (oS J (oS J (sR J (kA 70 (kA 71 (kA 72 (kA 73 (kA 74 ?_))))))))))
   obtain rfl := sI H0
   exact kr results18 (.cons (.cellN (us := [_, _, _, _, _, _, _, _, _, _, _]) ts37 J (Cells.box (id := 1) J 11 J)) (.cons (.tmp J) (.cons (.tmp J) (rT J)))) [70, 71, 72, 73, 74] (sl J oN0 (sl J oN0 (sl J oN0 (sl J oN0 (sl J oN0 ⟨J, J⟩)))))
  obtain ⟨x162, e162, H0⟩ := bS H0
  refine ks (oB9 69 ts34 J (oA 0 u37 J ts34 J (oC11 12 ts34 J J (ns (oAL 9 u37 J ts35 J 12 J (oM J (oD (stp_indexAddr u35 ts4 (by decide) J J J (Rdb.own (id := 11) J o31) e162) J (oF (stpU_storeEl (id := 11) (i := 0) true (by decide) ts4 J J J o31 e162 J J J J) ?_))))))))
  rintro _ _ ⟨C163, rfl, o163⟩
  obtain ⟨y164, ey164, H0⟩ := bS H0
  refine nq (oM J (oM J (ow_cutY 3 135 y164 ?_ ?_)))
  ·rcases Bool.eq_false_or_eq_true (decide (x35 < 0)) with hy164 | hy164
   ·have ey164 := cond_t ey164 hy164
    refine oG J hy164 (mv J) J (oG J hy164 (stp_eql J J) J (oD (stp_pick_t J hy164 J) J ?_))
    obtain rfl := sI ey164
    exact ow_nil (jy 3 0)
   have ey164 := cond_f ey164 hy164
   refine oO J hy164 J (oO J hy164 J (oD (stp_pick_f J hy164 J) J ?_))
   obtain rfl := sI ey164
   exact ow_nil (jy 3 0)
  refine ow_nil (kw_nx (cH J H0 (fun H0 => ?_) (fun H0 => ?_)))
  ·refine cR (ss J (oB11 12 ts37 J (oM J (oM J (oC11 1 ts37 J J (oS J (oS J (sn J (cw_ret ?_)))))))))
   obtain rfl := sI H0
   exact kr results18 (.cons (.cellN (us := [_, _, _, _, _, _, _, _, _, _, _]) ts37 J (Cells.box (id := 1) J 11 J)) (.cons (.tmp J) (.cons (.tmp J) (rT J)))) [65, 66, 67, 68, 11] (sl J o147 (sl J o151 (sl J o155 (sl J o159 (sl (by simp) o163 ⟨J, J⟩)))))
  refine ks (oB11 12 ts37 J (oM J (oM J (oC11 1 ts37 J J (oS J (oS J (sn J (cw_ret ?_))))))))
  obtain rfl := sI H0
  exact kr results18 (.cons (.cellN (us := [_, _, _, _, _, _, _, _, _, _, _]) ts37 J (Cells.box (id := 1) J 11 J)) (.cons (.tmp J) (.cons (.tmp J) (rT J)))) [65, 66, 67, 68, 11] (sl J o147 (sl J o151 (sl J o155 (sl J o159 (sl (by simp) o163 ⟨J, J⟩)))))
 obtain ⟨x166, e166, H0⟩ := bS H0
 refine ks (oA 0 u37 J ts34 J (oB9 12 ts34 J (oM J (oM J (oE (uC 75 cf43 (fun w hw => c_i_TouchPage fl w x11.m a1 a2 J (owp 7 J o15 hw) J (owp 8 J o19 hw) J (owp 9 J o23 hw) J (owp 10 J o27 hw) (rp hg hw) x166 e166) (yC J J J)) J ?_)))))
 rintro _ _ ⟨_, ⟨p167, _, c169, C170, rfl, o170, p171, _, c173, C174, rfl, o174, p175, _, c177, C178, rfl, o178, p179, _, c181, C182, rfl, o182, rfl, rfl⟩, rfl⟩
 refine oMTT J J J (oT J (oT J (oE (stpU_alloc 79 tz34 J) J ?_)))
 rintro _ _ ⟨b183, rfl, rfl⟩
 refine oC9 79 ts34 J J (oS J (oS J (sq J (oM J (oK J (nn (cH J H0 (fun H0 => ?_) (fun H0 => ?_))))))))
 ·refine sr (oD (stp_build (cs := #[sN, sN, sN, I 0, I 0, I 0, I 0, sN, I 0, sN, I 0]) sE bt37_19) J (oC11 1 ts37 J J (oS J (oS J (sR J (kA 80 (kA 81 (kA 82 (kA 83 (kA 84 ?_))))))))))
  obtain rfl := sI H0
  exact kr results18 (.cons (.cellN (us := [_, _, _, _, _, _, _, _, _, _, _]) ts37 J (Cells.box (id := 1) J 11 J)) (.cons (.tmp J) (.cons (.tmp J) (rT J)))) [80, 81, 82, 83, 84] (sl J oN0 (sl J oN0 (sl J oN0 (sl J oN0 (sl J oN0 ⟨J, J⟩)))))
 obtain ⟨x185, e185, H0⟩ := bS H0
 refine ks (oB9 79 ts34 J (oA 0 u37 J ts34 J (oC11 12 ts34 J J (ns (oAL 9 u37 J ts35 J 12 J (oM J (oD (stp_indexAddr u35 ts4 (by decide) J J J (Rdb.own (id := 11) J o31) e185) J (oF (stpU_storeEl (id := 11) (i := 0) true (by decide) ts4 J J J o31 e185 J J J J) ?_))))))))
 rintro _ _ ⟨C186, rfl, o186⟩
 obtain ⟨y187, ey187, H0⟩ := bS H0
 refine nq (oM J (oM J (ow_cutY 3 135 y187 ?_ ?_)))
 ·rcases Bool.eq_false_or_eq_true (decide (x35 < 0)) with hy187 | hy187
  ·have ey187 := cond_t ey187 hy187
   refine oG J hy187 (mv J) J (oG J hy187 (stp_eql J J) J (oD (stp_pick_t J hy187 J) J ?_))
   obtain rfl := sI ey187
   exact ow_nil (jy 3 0)
  have ey187 := cond_f ey187 hy187
  refine oO J hy187 J (oO J hy187 J (oD (stp_pick_f J hy187 J) J ?_))
  obtain rfl := sI ey187
  exact ow_nil (jy 3 0)
 refine ow_nil (kw_nx (cH J H0 (fun H0 => ?_) (fun H0 => ?_)))
 ·refine cR (ss J (oB11 12 ts37 J (oM J (oM J (oC11 1 ts37 J J (oS J (oS J (sn J (cw_ret ?_)))))))))
  obtain rfl := sI H0
  exact kr results18 (.cons (.cellN (us := [_, _, _, _, _, _, _, _, _, _, _]) ts37 J (Cells.box (id := 1) J 11 J)) (.cons (.tmp J) (.cons (.tmp J) (rT J)))) [75, 76, 77, 78, 11] (sl J o170 (sl J o174 (sl J o178 (sl J o182 (sl (by simp) o186 ⟨J, J⟩)))))
 refine ks (oB11 12 ts37 J (oM J (oM J (oC11 1 ts37 J J (oS J (oS J (sn J (cw_ret ?_))))))))
 obtain rfl := sI H0
 exact kr results18 (.cons (.cellN (us := [_, _, _, _, _, _, _, _, _, _, _]) ts37 J (Cells.box (id := 1) J 11 J)) (.cons (.tmp J) (.cons (.tmp J) (rT J)))) [75, 76, 77, 78, 11] (sl J o170 (sl J o174 (sl J o178 (sl J o182 (sl (by simp) o186 ⟨J, J⟩)))))

theorem c_slices_Equal_Int (fl : Nat) (w : World) (a0 : (List Int)) (a1 : (List Int)) (hn0_0 : n0_0 = (a0).length) (hr0_0 : RO w [] (RdL p0_0 c0_0 a0)) (hn1_0 : n1_0 = (a1).length) (hr1_0 : RO w [] (RdL p1_0 c1_0 a1)) (r : Bool) (H0 : slices_Equal_Int fl a0 a1 = some r) :
  Ct prog 103 [.slice p0_0 n0_0 c0_0, .slice p1_0 n1_0 c1_0] w [] (fun rv h' => rv = .bool r ∧ h' = []) := by
 subst hn0_0 hn1_0
 unfold slices_Equal_Int at H0
 refine ct_of_cw func103 J ntmps103 J (Sat.refl _ _) ?_
 refine sr (sq J (oM J (oD (stp_len u23 J) J (oM J (oD (stp_len u23 J) J (oU J (nn (cH J H0 (fun H0 => ?_) (fun H0 => ?_)))))))))
 ·refine sr (sr1 J (kR ?_))
  obtain rfl := sI H0
  exact kr results103 (rT J) [] ⟨J, J⟩
 obtain ⟨o0_0, eo0_0, H0⟩ := bS H0
 refine kq (sr (oM J (oD (stp_len u23 J) J (oM J (nn (lp (fun f a => slices_Equal_Int_L0 fl a0 a1 f a = some o0_0) (fun a => o0_0 = .out a) (fun R s h => ∃ v2, R v2 ∧ s = [(0, .slice p0_0 ((a0).length) c0_0), (1, .slice p1_0 ((a1).length) c1_0), (12, I ((a0).length : Int)), (13, I v2)] ∧ h = []) ⟨_, eo0_0, J, J⟩ ?_ ?_))))))
 ·rintro fuel _ _ ⟨v2, H1, rfl, rfl⟩
  rcases fuel with _ | fuel
  ·rw [slices_Equal_Int_L0.eq_1] at H1; cases H1
  rw [slices_Equal_Int_L0.eq_2] at H1
  refine sr (oW J (nn (cq (cH J H1 (fun H1 => ?_) (fun H1 => ?_)))))
  ·obtain ⟨x4, e4, H1⟩ := bS H1
   refine kq (cw_block (sr (oM J (sn J (cq (rdt g_mixed (rn 0 9) ⟨[], [], []⟩ (dM J (dM J (dD J (stp_indexAddr u23 ts3 (by decide) J J J (Rdb.ro hr0_0) e4) (dD J (stp_load1 ts3 J (Cells.el (Rdb.ro hr0_0) (by decide) e4 0 1 J)) ?_))))))))))
   obtain ⟨x5, e5, H1⟩ := bS H1
   refine dM J (dM J (dD J (stp_indexAddr u23 ts3 (by decide) J J J (Rdb.ro hr1_0) e5) (dD J (stp_load1 ts3 J (Cells.el (Rdb.ro hr1_0) (by decide) e5 0 1 J)) (dNe J (dn (kw_nx (cH J H1 (fun H1 => ?_) (fun H1 => ?_))))))))
   ·refine sr (sr1 J (kw_bl_ret (kR (ar (kw_bl_ret (xr (kR ?_)))))))
    obtain rfl := sI H1
    obtain rfl := sI H0
    exact kr results103 (rT J) [] ⟨J, J⟩
   obtain ⟨x7, e7, H1⟩ := bS H1
   exact cw_skip (kb (cR (oP e7 J (oM J (ow_nil (ka ⟨_, H1, J, J⟩))))))
  refine cw_exit (kw_nx_exit (ax (kw_bl ?_)))
  obtain rfl := sI H1
  exact kx ⟨_, J, J, J⟩
 rintro _ _ ⟨v2, rfl, rfl, rfl⟩
 refine kw_nx (sr (sn J (cw_ret ?_)))
 obtain rfl := sI H0
 exact kr results103 (rT J) [] ⟨J, J⟩

theorem c_slices_Equal_Frame (fl : Nat) (w : World) (a0 : (List F)) (a1 : (List F)) (hn0_0 : n0_0 = (a0).length) (hr0_0 : RO w [] (RdL p0_0 c0_0 a0)) (hn1_0 : n1_0 = (a1).length) (hr1_0 : RO w [] (RdL p1_0 c1_0 a1)) (r : Bool) (H0 : slices_Equal_Frame fl a0 a1 = some r) :
  Ct prog 104 [.slice p0_0 n0_0 c0_0, .slice p1_0 n1_0 c1_0] w [] (fun rv h' => rv = .bool r ∧ h' = []) := by
 subst hn0_0 hn1_0
 unfold slices_Equal_Frame at H0
 refine ct_of_cw func104 J ntmps104 J (Sat.refl _ _) ?_
 refine sr (sq J (oM J (oD (stp_len u24 J) J (oM J (oD (stp_len u24 J) J (oU J (nn (cH J H0 (fun H0 => ?_) (fun H0 => ?_)))))))))
 ·refine sr (sr1 J (kR ?_))
  obtain rfl := sI H0
  exact kr results104 (rT J) [] ⟨J, J⟩
 obtain ⟨o0_0, eo0_0, H0⟩ := bS H0
 refine kq (sr (oM J (oD (stp_len u24 J) J (oM J (nn (lp (fun f a => slices_Equal_Frame_L0 fl a0 a1 f a = some o0_0) (fun a => o0_0 = .out a) (fun R s h => ∃ v2, R v2 ∧ s = [(0, .slice p0_0 ((a0).length) c0_0), (1, .slice p1_0 ((a1).length) c1_0), (12, I ((a0).length : Int)), (13, I v2)] ∧ h = []) ⟨_, eo0_0, J, J⟩ ?_ ?_))))))
 ·rintro fuel _ _ ⟨v2, H1, rfl, rfl⟩
  rcases fuel with _ | fuel
  ·rw [slices_Equal_Frame_L0.eq_1] at H1; cases H1
  rw [slices_Equal_Frame_L0.eq_2] at H1
  refine sr (oW J (nn (cq (cH J H1 (fun H1 => ?_) (fun H1 => ?_)))))
  ·obtain ⟨x4, e4, H1⟩ := bS H1
   refine kq (cw_block (sr (oM J (sn J (cq (rdt g_mixed (rn 0 9) ⟨[], [], []⟩ (dM J (dM J (dD J (stp_indexAddr u24 ts57 (by decide) J J J (Rdb.ro hr0_0) e4) (dD J (stp_loadN (us := [_, _, _, _, _]) ts57 J (Cells.el (Rdb.ro hr0_0) (by decide) e4 0 5 J)) ?_))))))))))
   obtain ⟨x5, e5, H1⟩ := bS H1
   refine dM J (dM J (dD J (stp_indexAddr u24 ts57 (by decide) J J J (Rdb.ro hr1_0) e5) (dD J (stp_loadN (us := [_, _, _, _, _]) ts57 J (Cells.el (Rdb.ro hr1_0) (by decide) e5 0 5 J)) (dD J (stp_neqS te57 x4 x5 J J) (dn (kw_nx (cH J H1 (fun H1 => ?_) (fun H1 => ?_))))))))
   ·refine sr (sr1 J (kw_bl_ret (kR (ar (kw_bl_ret (xr (kR ?_)))))))
    obtain rfl := sI H1
    obtain rfl := sI H0
    exact kr results104 (rT J) [] ⟨J, J⟩
   obtain ⟨x7, e7, H1⟩ := bS H1
   exact cw_skip (kb (cR (oP e7 J (oM J (ow_nil (ka ⟨_, H1, J, J⟩))))))
  refine cw_exit (kw_nx_exit (ax (kw_bl ?_)))
  obtain rfl := sI H1
  exact kx ⟨_, J, J, J⟩
 rintro _ _ ⟨v2, rfl, rfl, rfl⟩
 refine kw_nx (sr (sn J (cw_ret ?_)))
 obtain rfl := sI H0
 exact kr results104 (rT J) [] ⟨J, J⟩

theorem c_i_TableSame (fl : Nat) (w : World) (a0 : T) (a1 : T) (hn0_0 : n0_0 = (a0.b).length) (hr0_0 : RO w [] (RdL p0_0 c0_0 a0.b)) (hn0_1 : n0_1 = (a0.f).length) (hr0_1 : RO w [] (RdL p0_1 c0_1 a0.f)) (hn1_0 : n1_0 = (a1.b).length) (hr1_0 : RO w [] (RdL p1_0 c1_0 a1.b)) (hn1_1 : n1_1 = (a1.f).length) (hr1_1 : RO w [] (RdL p1_1 c1_1 a1.f)) (r : Bool) (H0 : i_TableSame fl a0 a1 = some r) :
  Ct prog 57 [.agg #[.slice p0_0 n0_0 c0_0, .slice p0_1 n0_1 c0_1], .agg #[.slice p1_0 n1_0 c1_0, .slice p1_1 n1_1 c1_1]] w [] (fun rv h' => rv = .bool r ∧ h' = []) := by
 subst hn0_0 hn0_1 hn1_0 hn1_1
 unfold i_TableSame at H0
 refine ct_of_cw func57 J ntmps57 J (Sat.refl _ _) ?_
 refine sr (oE (stpU_box 0 J J) J ?_)
 rintro _ _ ⟨b1, rfl, rfl⟩
 refine oE (stpU_box 1 J J) J ?_
 rintro _ _ ⟨b2, rfl, rfl⟩
 obtain ⟨x3, e3, H0⟩ := bS H0
 refine ss J (oAL 0 u26 J ts23 J 0 J (oAL 0 u26 J ts23 J 1 J (oE (uC 2 cf103 (fun w hw => c_slices_Equal_Int fl w a0.b a1.b J (rp hr0_0 hw) J (rp hr1_0 hw) x3 e3) (yB J J)) J ?_)))
 rintro _ _ ⟨_, ⟨rfl, rfl⟩, rfl⟩
 obtain ⟨y4, ey4, H0⟩ := bS H0
 refine oM J (ow_cutY 6 16 y4 ?_ ?_)
 ·rcases Bool.eq_false_or_eq_true x3 with hy4 | hy4
  ·have ey4 := cond_t ey4 hy4
   obtain ⟨x5, e5, ey4⟩ := bS ey4
   refine oG J hy4 (fA 1 u26 J ts24 J J J) J (oG J hy4 (lB 0 ts24 J J J) J (oG J hy4 (fA 1 u26 J ts24 J J J) J (oG J hy4 (lB 1 ts24 J J J) J (ow_eff (.some J hy4) (uC 2 cf104 (fun w hw => c_slices_Equal_Frame fl w a0.f a1.f J (rp hr0_1 hw) J (rp hr1_1 hw) x5 e5) (yB J J)) J ?_))))
   rintro _ _ ⟨_, ⟨rfl, rfl⟩, rfl⟩
   refine oD (stp_pick_t J hy4 J) J ?_
   obtain rfl := sI ey4
   exact ow_nil (jy 6 0)
  have ey4 := cond_f ey4 hy4
  refine oO J hy4 J (oO J hy4 J (oO J hy4 J (oO J hy4 J (oO J hy4 J (oD (stp_pick_f J hy4 J) J ?_)))))
  obtain rfl := sI ey4
  exact ow_nil (jy 6 0)
 refine sn J (cw_ret ?_)
 obtain rfl := sI H0
 exact kr results57 (rT J) [] ⟨J, J⟩

theorem c_slices_Equal_Line (fl : Nat) (w : World) (a0 : (List Ln)) (a1 : (List Ln)) (hn0_0 : n0_0 = (a0).length) (hr0_0 : RO w [] (RdL p0_0 c0_0 a0)) (hn1_0 : n1_0 = (a1).length) (hr1_0 : RO w [] (RdL p1_0 c1_0 a1)) (r : Bool) (H0 : slices_Equal_Line fl a0 a1 = some r) :
  Ct prog 105 [.slice p0_0 n0_0 c0_0, .slice p1_0 n1_0 c1_0] w [] (fun rv h' => rv = .bool r ∧ h' = []) := by
 subst hn0_0 hn1_0
 unfold slices_Equal_Line at H0
 refine ct_of_cw func105 J ntmps105 J (Sat.refl _ _) ?_
 refine sr (sq J (oM J (oD (stp_len u27 J) J (oM J (oD (stp_len u27 J) J (oU J (nn (cH J H0 (fun H0 => ?_) (fun H0 => ?_)))))))))
 ·refine sr (sr1 J (kR ?_))
  obtain rfl := sI H0
  exact kr results105 (rT J) [] ⟨J, J⟩
 obtain ⟨o0_0, eo0_0, H0⟩ := bS H0
 refine kq (sr (oM J (oD (stp_len u27 J) J (oM J (nn (lp (fun f a => slices_Equal_Line_L0 fl a0 a1 f a = some o0_0) (fun a => o0_0 = .out a) (fun R s h => ∃ v2, R v2 ∧ s = [(0, .slice p0_0 ((a0).length) c0_0), (1, .slice p1_0 ((a1).length) c1_0), (12, I ((a0).length : Int)), (13, I v2)] ∧ h = []) ⟨_, eo0_0, J, J⟩ ?_ ?_))))))
 ·rintro fuel _ _ ⟨v2, H1, rfl, rfl⟩
  rcases fuel with _ | fuel
  ·rw [slices_Equal_Line_L0.eq_1] at H1; cases H1
  rw [slices_Equal_Line_L0.eq_2] at H1
  refine sr (oW J (nn (cq (cH J H1 (fun H1 => ?_) (fun H1 => ?_)))))
  ·obtain ⟨x4, e4, H1⟩ := bS H1
   refine kq (cw_block (sr (oM J (sn J (cq (rdt g_mixed (rn 0 9) ⟨[], [], []⟩ (dM J (dM J (dD J (stp_indexAddr u27 ts104 (by decide) J J J (Rdb.ro hr0_0) e4) (dD J (stp_loadN (us := [_, _, _, _, _, _]) ts104 J (Cells.el (Rdb.ro hr0_0) (by decide) e4 0 6 J)) ?_))))))))))
   obtain ⟨x5, e5, H1⟩ := bS H1
   refine dM J (dM J (dD J (stp_indexAddr u27 ts104 (by decide) J J J (Rdb.ro hr1_0) e5) (dD J (stp_loadN (us := [_, _, _, _, _, _]) ts104 J (Cells.el (Rdb.ro hr1_0) (by decide) e5 0 6 J)) (dD J (stp_neqS te104 x4 x5 J J) (dn (kw_nx (cH J H1 (fun H1 => ?_) (fun H1 => ?_))))))))
   ·refine sr (sr1 J (kw_bl_ret (kR (ar (kw_bl_ret (xr (kR ?_)))))))
    obtain rfl := sI H1
    obtain rfl := sI H0
    exact kr results105 (rT J) [] ⟨J, J⟩
   obtain ⟨x7, e7, H1⟩ := bS H1
   exact cw_skip (kb (cR (oP e7 J (oM J (ow_nil (ka ⟨_, H1, J, J⟩))))))
  refine cw_exit (kw_nx_exit (ax (kw_bl ?_)))
  obtain rfl := sI H1
  exact kx ⟨_, J, J, J⟩
 rintro _ _ ⟨v2, rfl, rfl, rfl⟩
 refine kw_nx (sr (sn J (cw_ret ?_)))
 obtain rfl := sI H0
 exact kr results105 (rT J) [] ⟨J, J⟩

theorem c_i_CacheSame (fl : Nat) (w : World) (a0 : Ca) (a1 : Ca) (hn0_0 : n0_0 = (a0.l).length) (hr0_0 : RO w [] (RdL p0_0 c0_0 a0.l)) (hn1_0 : n1_0 = (a1.l).length) (hr1_0 : RO w [] (RdL p1_0 c1_0 a1.l)) (r : Bool) (H0 : i_CacheSame fl a0 a1 = some r) :
  Ct prog 58 [.agg #[.slice p0_0 n0_0 c0_0, I a0.h], .agg #[.slice p1_0 n1_0 c1_0, I a1.h]] w [] (fun rv h' => rv = .bool r ∧ h' = []) := by
 subst hn0_0 hn1_0
 unfold i_CacheSame at H0
 refine ct_of_cw func58 J ntmps58 J (Sat.refl _ _) ?_
 refine sr (oE (stpU_box 0 J J) J ?_)
 rintro _ _ ⟨b1, rfl, rfl⟩
 refine oE (stpU_box 1 J J) J ?_
 rintro _ _ ⟨b2, rfl, rfl⟩
 obtain ⟨y3, ey3, H0⟩ := bS H0
 refine ss J (oAL 1 u29 J ts3 J 0 J (oAL 1 u29 J ts3 J 1 J (oQ J (oM J (ow_cutY 6 16 y3 ?_ ?_)))))
 ·rcases Bool.eq_false_or_eq_true (a0.h == a1.h) with hy3 | hy3
  ·have ey3 := cond_t ey3 hy3
   obtain ⟨x4, e4, ey3⟩ := bS ey3
   refine oG J hy3 (fA 0 u29 J ts27 J J J) J (oG J hy3 (lB 0 ts27 J J J) J (oG J hy3 (fA 0 u29 J ts27 J J J) J (oG J hy3 (lB 1 ts27 J J J) J (ow_eff (.some J hy3) (uC 2 cf105 (fun w hw => c_slices_Equal_Line fl w a0.l a1.l J (rp hr0_0 hw) J (rp hr1_0 hw) x4 e4) (yB J J)) J ?_))))
   rintro _ _ ⟨_, ⟨rfl, rfl⟩, rfl⟩
   refine oD (stp_pick_t J hy3 J) J ?_
   obtain rfl := sI ey3
   exact ow_nil (jy 6 0)
  have ey3 := cond_f ey3 hy3
  refine oO J hy3 J (oO J hy3 J (oO J hy3 J (oO J hy3 J (oO J hy3 J (oD (stp_pick_f J hy3 J) J ?_)))))
  obtain rfl := sI ey3
  exact ow_nil (jy 6 0)
 refine sn J (cw_ret ?_)
 obtain rfl := sI H0
 exact kr results58 (rT J) [] ⟨J, J⟩

theorem c_slices_Equal_Own (fl : Nat) (w : World) (a0 : (List Ow)) (a1 : (List Ow)) (hn0_0 : n0_0 = (a0).length) (hr0_0 : RO w [] (RdL p0_0 c0_0 a0)) (hn1_0 : n1_0 = (a1).length) (hr1_0 : RO w [] (RdL p1_0 c1_0 a1)) (r : Bool) (H0 : slices_Equal_Own fl a0 a1 = some r) :
  Ct prog 30 [.slice p0_0 n0_0 c0_0, .slice p1_0 n1_0 c1_0] w [] (fun rv h' => rv = .bool r ∧ h' = []) := by
 subst hn0_0 hn1_0
 unfold slices_Equal_Own at H0
 refine ct_of_cw func30 J ntmps30 J (Sat.refl _ _) ?_
 refine sr (sq J (oM J (oD (stp_len u30 J) J (oM J (oD (stp_len u30 J) J (oU J (nn (cH J H0 (fun H0 => ?_) (fun H0 => ?_)))))))))
 ·refine sr (sr1 J (kR ?_))
  obtain rfl := sI H0
  exact kr results30 (rT J) [] ⟨J, J⟩
 obtain ⟨o0_0, eo0_0, H0⟩ := bS H0
 refine kq (sr (oM J (oD (stp_len u30 J) J (oM J (nn (lp (fun f a => slices_Equal_Own_L0 fl a0 a1 f a = some o0_0) (fun a => o0_0 = .out a) (fun R s h => ∃ v2, R v2 ∧ s = [(0, .slice p0_0 ((a0).length) c0_0), (1, .slice p1_0 ((a1).length) c1_0), (12, I ((a0).length : Int)), (13, I v2)] ∧ h = []) ⟨_, eo0_0, J, J⟩ ?_ ?_))))))
 ·rintro fuel _ _ ⟨v2, H1, rfl, rfl⟩
  rcases fuel with _ | fuel
  ·rw [slices_Equal_Own_L0.eq_1] at H1; cases H1
  rw [slices_Equal_Own_L0.eq_2] at H1
  refine sr (oW J (nn (cq (cH J H1 (fun H1 => ?_) (fun H1 => ?_)))))
  ·obtain ⟨x4, e4, H1⟩ := bS H1
   refine kq (cw_block (sr (oM J (sn J (cq (rdt g_mixed (rn 0 9) ⟨[], [], []⟩ (dM J (dM J (dD J (stp_indexAddr u30 ts70 (by decide) J J J (Rdb.ro hr0_0) e4) (dD J (stp_loadN (us := [_, _]) ts70 J (Cells.el (Rdb.ro hr0_0) (by decide) e4 0 2 J)) ?_))))))))))
   obtain ⟨x5, e5, H1⟩ := bS H1
   refine dM J (dM J (dD J (stp_indexAddr u30 ts70 (by decide) J J J (Rdb.ro hr1_0) e5) (dD J (stp_loadN (us := [_, _]) ts70 J (Cells.el (Rdb.ro hr1_0) (by decide) e5 0 2 J)) (dD J (stp_neqS te70 x4 x5 J J) (dn (kw_nx (cH J H1 (fun H1 => ?_) (fun H1 => ?_))))))))
   ·refine sr (sr1 J (kw_bl_ret (kR (ar (kw_bl_ret (xr (kR ?_)))))))
    obtain rfl := sI H1
    obtain rfl := sI H0
    exact kr results30 (rT J) [] ⟨J, J⟩
   obtain ⟨x7, e7, H1⟩ := bS H1
   exact cw_skip (kb (cR (oP e7 J (oM J (ow_nil (ka ⟨_, H1, J, J⟩))))))
  refine cw_exit (kw_nx_exit (ax (kw_bl ?_)))
  obtain rfl := sI H1
  exact kx ⟨_, J, J, J⟩
 rintro _ _ ⟨v2, rfl, rfl, rfl⟩
 refine kw_nx (sr (sn J (cw_ret ?_)))
 obtain rfl := sI H0
 exact kr results30 (rT J) [] ⟨J, J⟩

theorem c_i_TagsSame (fl : Nat) (w : World) (a0 : Tg) (a1 : Tg) (hn0_0 : n0_0 = (a0.o).length) (hr0_0 : RO w [] (RdL p0_0 c0_0 a0.o)) (hn1_0 : n1_0 = (a1.o).length) (hr1_0 : RO w [] (RdL p1_0 c1_0 a1.o)) (r : Bool) (H0 : i_TagsSame fl a0 a1 = some r) :
  Ct prog 13 [.agg #[I a0.c, I a0.n, I a0.r, .slice p0_0 n0_0 c0_0], .agg #[I a1.c, I a1.n, I a1.r, .slice p1_0 n1_0 c1_0]] w [] (fun rv h' => rv = .bool r ∧ h' = []) := by
 subst hn0_0 hn1_0
 unfold i_TagsSame at H0
 refine ct_of_cw func13 J ntmps13 J (Sat.refl _ _) ?_
 refine sr (oE (stpU_box 0 J J) J ?_)
 rintro _ _ ⟨b1, rfl, rfl⟩
 refine oE (stpU_box 1 J J) J ?_
 rintro _ _ ⟨b2, rfl, rfl⟩
 obtain ⟨y3, ey3, H0⟩ := bS H0
 refine ss J (oAL 0 u32 J ts3 J 0 J (oAL 0 u32 J ts3 J 1 J (oQ J (oM J (ow_cutY 6 16 y3 ?_ ?_)))))
 ·rcases Bool.eq_false_or_eq_true (a0.c == a1.c) with hy3 | hy3
  ·have ey3 := cond_t ey3 hy3
   refine oG J hy3 (fA 1 u32 J ts3 J J J) J (oG J hy3 (lB 0 ts3 J J J) J (oG J hy3 (fA 1 u32 J ts3 J J J) J (oG J hy3 (lB 1 ts3 J J J) J (oG J hy3 (stp_eql J J) J (oD (stp_pick_t J hy3 J) J ?_)))))
   obtain rfl := sI ey3
   exact ow_nil (jy 6 0)
  have ey3 := cond_f ey3 hy3
  refine oO J hy3 J (oO J hy3 J (oO J hy3 J (oO J hy3 J (oO J hy3 J (oD (stp_pick_f J hy3 J) J ?_)))))
  obtain rfl := sI ey3
  exact ow_nil (jy 6 0)
 obtain ⟨y4, ey4, H0⟩ := bS H0
 refine oM J (ow_cutY 6 23 y4 ?_ ?_)
 ·rcases Bool.eq_false_or_eq_true y3 with hy4 | hy4
  ·have ey4 := cond_t ey4 hy4
   refine oG J hy4 (fA 2 u32 J ts3 J J J) J (oG J hy4 (lB 0 ts3 J J J) J (oG J hy4 (fA 2 u32 J ts3 J J J) J (oG J hy4 (lB 1 ts3 J J J) J (oG J hy4 (stp_eql J J) J (oD (stp_pick_t J hy4 J) J ?_)))))
   obtain rfl := sI ey4
   exact ow_nil (jy 6 0)
  have ey4 := cond_f ey4 hy4
  refine oO J hy4 J (oO J hy4 J (oO J hy4 J (oO J hy4 J (oO J hy4 J (oD (stp_pick_f J hy4 J) J ?_)))))
  obtain rfl := sI ey4
  exact ow_nil (jy 6 0)
 obtain ⟨y5, ey5, H0⟩ := bS H0
 refine oM J (ow_cutY 6 30 y5 ?_ ?_)
 ·rcases Bool.eq_false_or_eq_true y4 with hy5 | hy5
  ·have ey5 := cond_t ey5 hy5
   obtain ⟨x6, e6, ey5⟩ := bS ey5
   refine oG J hy5 (fA 3 u32 J ts30 J J J) J (oG J hy5 (lB 0 ts30 J J J) J (oG J hy5 (fA 3 u32 J ts30 J J J) J (oG J hy5 (lB 1 ts30 J J J) J (ow_eff (.some J hy5) (uC 2 cf30 (fun w hw => c_slices_Equal_Own fl w a0.o a1.o J (rp hr0_0 hw) J (rp hr1_0 hw) x6 e6) (yB J J)) J ?_))))
   rintro _ _ ⟨_, ⟨rfl, rfl⟩, rfl⟩
   refine oD (stp_pick_t J hy5 J) J ?_
   obtain rfl := sI ey5
   exact ow_nil (jy 6 0)
  have ey5 := cond_f ey5 hy5
  refine oO J hy5 J (oO J hy5 J (oO J hy5 J (oO J hy5 J (oO J hy5 J (oD (stp_pick_f J hy5 J) J ?_)))))
  obtain rfl := sI ey5
  exact ow_nil (jy 6 0)
 refine sn J (cw_ret ?_)
 obtain rfl := sI H0
 exact kr results13 (rT J) [] ⟨J, J⟩

theorem c_i_MachineSame (fl : Nat) (w : World) (a0 : Mc) (a1 : Mc) (hn0_0 : n0_0 = (a0.t.b).length) (hr0_0 : RO w [] (RdL p0_0 c0_0 a0.t.b)) (hn0_1 : n0_1 = (a0.t.f).length) (hr0_1 : RO w [] (RdL p0_1 c0_1 a0.t.f)) (hn0_2 : n0_2 = (a0.c.l).length) (hr0_2 : RO w [] (RdL p0_2 c0_2 a0.c.l)) (hn0_3 : n0_3 = (a0.g.o).length) (hr0_3 : RO w [] (RdL p0_3 c0_3 a0.g.o)) (hn1_0 : n1_0 = (a1.t.b).length) (hr1_0 : RO w [] (RdL p1_0 c1_0 a1.t.b)) (hn1_1 : n1_1 = (a1.t.f).length) (hr1_1 : RO w [] (RdL p1_1 c1_1 a1.t.f)) (hn1_2 : n1_2 = (a1.c.l).length) (hr1_2 : RO w [] (RdL p1_2 c1_2 a1.c.l)) (hn1_3 : n1_3 = (a1.g.o).length) (hr1_3 : RO w [] (RdL p1_3 c1_3 a1.g.o)) (r : Bool) (H0 : i_MachineSame fl a0 a1 = some r) :
  Ct prog 28 [.agg #[.slice p0_0 n0_0 c0_0, .slice p0_1 n0_1 c0_1, .slice p0_2 n0_2 c0_2, I a0.c.h, I a0.g.c, I a0.g.n, I a0.g.r, .slice p0_3 n0_3 c0_3, I a0.s], .agg #[.slice p1_0 n1_0 c1_0, .slice p1_1 n1_1 c1_1, .slice p1_2 n1_2 c1_2, I a1.c.h, I a1.g.c, I a1.g.n, I a1.g.r, .slice p1_3 n1_3 c1_3, I a1.s]] w [] (fun rv h' => rv = .bool r ∧ h' = []) := by
 subst hn0_0 hn0_1 hn0_2 hn0_3 hn1_0 hn1_1 hn1_2 hn1_3
 unfold i_MachineSame at H0
 refine ct_of_cw func28 J ntmps28 J (Sat.refl _ _) ?_
 refine sr (oE (stpU_box 0 J J) J ?_)
 rintro _ _ ⟨b1, rfl, rfl⟩
 refine oE (stpU_box 1 J J) J ?_
 rintro _ _ ⟨b2, rfl, rfl⟩
 obtain ⟨x3, e3, H0⟩ := bS H0
 refine ss J (oA 0 u34 J ts26 J (oB2 0 ts26 J (oA 0 u34 J ts26 J (oB2 1 ts26 J (oE (uC 2 cf57 (fun w hw => c_i_TableSame fl w a0.t a1.t J (rp hr0_0 hw) J (rp hr0_1 hw) J (rp hr1_0 hw) J (rp hr1_1 hw) x3 e3) (yB J J)) J ?_)))))
 rintro _ _ ⟨_, ⟨rfl, rfl⟩, rfl⟩
 obtain ⟨y4, ey4, H0⟩ := bS H0
 refine oM J (ow_cutY 6 16 y4 ?_ ?_)
 ·rcases Bool.eq_false_or_eq_true x3 with hy4 | hy4
  ·have ey4 := cond_t ey4 hy4
   obtain ⟨x5, e5, ey4⟩ := bS ey4
   refine oG J hy4 (fA 2 u34 J ts29 J J J) J (oG J hy4 (stp_loadN (us := [_, _]) ts29 J (Cells.box (id := 0) J 2 J)) J (oG J hy4 (fA 2 u34 J ts29 J J J) J (oG J hy4 (stp_loadN (us := [_, _]) ts29 J (Cells.box (id := 1) J 2 J)) J (ow_eff (.some J hy4) (uC 2 cf58 (fun w hw => c_i_CacheSame fl w a0.c a1.c J (rp hr0_2 hw) J (rp hr1_2 hw) x5 e5) (yB J J)) J ?_))))
   rintro _ _ ⟨_, ⟨rfl, rfl⟩, rfl⟩
   refine oD (stp_pick_t J hy4 J) J ?_
   obtain rfl := sI ey4
   exact ow_nil (jy 6 0)
  have ey4 := cond_f ey4 hy4
  refine oO J hy4 J (oO J hy4 J (oO J hy4 J (oO J hy4 J (oO J hy4 J (oD (stp_pick_f J hy4 J) J ?_)))))
  obtain rfl := sI ey4
  exact ow_nil (jy 6 0)
 obtain ⟨y6, ey6, H0⟩ := bS H0
 refine oM J (ow_cutY 6 23 y6 ?_ ?_)
 ·rcases Bool.eq_false_or_eq_true y4 with hy6 | hy6
  ·have ey6 := cond_t ey6 hy6
   obtain ⟨x7, e7, ey6⟩ := bS ey6
   refine oG J hy6 (fA 4 u34 J ts32 J J J) J (oG J hy6 (stp_loadN (us := [_, _, _, _]) ts32 J (Cells.box (id := 0) J 4 J)) J (oG J hy6 (fA 4 u34 J ts32 J J J) J (oG J hy6 (stp_loadN (us := [_, _, _, _]) ts32 J (Cells.box (id := 1) J 4 J)) J (ow_eff (.some J hy6) (uC 2 cf13 (fun w hw => c_i_TagsSame fl w a0.g a1.g J (rp hr0_3 hw) J (rp hr1_3 hw) x7 e7) (yB J J)) J ?_))))
   rintro _ _ ⟨_, ⟨rfl, rfl⟩, rfl⟩
   refine oD (stp_pick_t J hy6 J) J ?_
   obtain rfl := sI ey6
   exact ow_nil (jy 6 0)
  have ey6 := cond_f ey6 hy6
  refine oO J hy6 J (oO J hy6 J (oO J hy6 J (oO J hy6 J (oO J hy6 J (oD (stp_pick_f J hy6 J) J ?_)))))
  obtain rfl := sI ey6
  exact ow_nil (jy 6 0)
 obtain ⟨y8, ey8, H0⟩ := bS H0
 refine oM J (ow_cutY 6 30 y8 ?_ ?_)
 ·rcases Bool.eq_false_or_eq_true y6 with hy8 | hy8
  ·have ey8 := cond_t ey8 hy8
   refine oG J hy8 (fA 8 u34 J ts3 J J J) J (oG J hy8 (lB 0 ts3 J J J) J (oG J hy8 (fA 8 u34 J ts3 J J J) J (oG J hy8 (lB 1 ts3 J J J) J (oG J hy8 (stp_eql J J) J (oD (stp_pick_t J hy8 J) J ?_)))))
   obtain rfl := sI ey8
   exact ow_nil (jy 6 0)
  have ey8 := cond_f ey8 hy8
  refine oO J hy8 J (oO J hy8 J (oO J hy8 J (oO J hy8 J (oO J hy8 J (oD (stp_pick_f J hy8 J) J ?_)))))
  obtain rfl := sI ey8
  exact ow_nil (jy 6 0)
 refine sn J (cw_ret ?_)
 obtain rfl := sI H0
 exact kr results28 (rT J) [] ⟨J, J⟩

theorem c_slices_Equal_Bool (fl : Nat) (w : World) (a0 : (List Bool)) (a1 : (List Bool)) (hn0_0 : n0_0 = (a0).length) (hr0_0 : RO w [] (RdL p0_0 c0_0 a0)) (hn1_0 : n1_0 = (a1).length) (hr1_0 : RO w [] (RdL p1_0 c1_0 a1)) (r : Bool) (H0 : slices_Equal_Bool fl a0 a1 = some r) :
  Ct prog 29 [.slice p0_0 n0_0 c0_0, .slice p1_0 n1_0 c1_0] w [] (fun rv h' => rv = .bool r ∧ h' = []) := by
 subst hn0_0 hn1_0
 unfold slices_Equal_Bool at H0
 refine ct_of_cw func29 J ntmps29 J (Sat.refl _ _) ?_
 refine sr (sq J (oM J (oD (stp_len u35 J) J (oM J (oD (stp_len u35 J) J (oU J (nn (cH J H0 (fun H0 => ?_) (fun H0 => ?_)))))))))
 ·refine sr (sr1 J (kR ?_))
  obtain rfl := sI H0
  exact kr results29 (rT J) [] ⟨J, J⟩
 obtain ⟨o0_0, eo0_0, H0⟩ := bS H0
 refine kq (sr (oM J (oD (stp_len u35 J) J (oM J (nn (lp (fun f a => slices_Equal_Bool_L0 fl a0 a1 f a = some o0_0) (fun a => o0_0 = .out a) (fun R s h => ∃ v2, R v2 ∧ s = [(0, .slice p0_0 ((a0).length) c0_0), (1, .slice p1_0 ((a1).length) c1_0), (12, I ((a0).length : Int)), (13, I v2)] ∧ h = []) ⟨_, eo0_0, J, J⟩ ?_ ?_))))))
 ·rintro fuel _ _ ⟨v2, H1, rfl, rfl⟩
  rcases fuel with _ | fuel
  ·rw [slices_Equal_Bool_L0.eq_1] at H1; cases H1
  rw [slices_Equal_Bool_L0.eq_2] at H1
  refine sr (oW J (nn (cq (cH J H1 (fun H1 => ?_) (fun H1 => ?_)))))
  ·obtain ⟨x4, e4, H1⟩ := bS H1
   refine kq (cw_block (sr (oM J (sn J (cq (rdt g_mixed (rn 0 9) ⟨[], [], []⟩ (dM J (dM J (dD J (stp_indexAddr u35 ts4 (by decide) J J J (Rdb.ro hr0_0) e4) (dD J (stp_load1 ts4 J (Cells.el (Rdb.ro hr0_0) (by decide) e4 0 1 J)) ?_))))))))))
   obtain ⟨x5, e5, H1⟩ := bS H1
   refine dM J (dM J (dD J (stp_indexAddr u35 ts4 (by decide) J J J (Rdb.ro hr1_0) e5) (dD J (stp_load1 ts4 J (Cells.el (Rdb.ro hr1_0) (by decide) e5 0 1 J)) (dD J (stp_neqB u4 J J) (dn (kw_nx (cH J H1 (fun H1 => ?_) (fun H1 => ?_))))))))
   ·refine sr (sr1 J (kw_bl_ret (kR (ar (kw_bl_ret (xr (kR ?_)))))))
    obtain rfl := sI H1
    obtain rfl := sI H0
    exact kr results29 (rT J) [] ⟨J, J⟩
   obtain ⟨x7, e7, H1⟩ := bS H1
   exact cw_skip (kb (cR (oP e7 J (oM J (ow_nil (ka ⟨_, H1, J, J⟩))))))
  refine cw_exit (kw_nx_exit (ax (kw_bl ?_)))
  obtain rfl := sI H1
  exact kx ⟨_, J, J, J⟩
 rintro _ _ ⟨v2, rfl, rfl, rfl⟩
 refine kw_nx (sr (sn J (cw_ret ?_)))
 obtain rfl := sI H0
 exact kr results29 (rT J) [] ⟨J, J⟩

theorem c_i_MemorySame (fl : Nat) (w : World) (a0 : Mm) (a1 : Mm) (hn0_0 : n0_0 = (a0.m.t.b).length) (hr0_0 : RO w [] (RdL p0_0 c0_0 a0.m.t.b)) (hn0_1 : n0_1 = (a0.m.t.f).length) (hr0_1 : RO w [] (RdL p0_1 c0_1 a0.m.t.f)) (hn0_2 : n0_2 = (a0.m.c.l).length) (hr0_2 : RO w [] (RdL p0_2 c0_2 a0.m.c.l)) (hn0_3 : n0_3 = (a0.m.g.o).length) (hr0_3 : RO w [] (RdL p0_3 c0_3 a0.m.g.o)) (hn0_4 : n0_4 = (a0.k).length) (hr0_4 : RO w [] (RdL p0_4 c0_4 a0.k)) (hn1_0 : n1_0 = (a1.m.t.b).length) (hr1_0 : RO w [] (RdL p1_0 c1_0 a1.m.t.b)) (hn1_1 : n1_1 = (a1.m.t.f).length) (hr1_1 : RO w [] (RdL p1_1 c1_1 a1.m.t.f)) (hn1_2 : n1_2 = (a1.m.c.l).length) (hr1_2 : RO w [] (RdL p1_2 c1_2 a1.m.c.l)) (hn1_3 : n1_3 = (a1.m.g.o).length) (hr1_3 : RO w [] (RdL p1_3 c1_3 a1.m.g.o)) (hn1_4 : n1_4 = (a1.k).length) (hr1_4 : RO w [] (RdL p1_4 c1_4 a1.k)) (r : Bool) (H0 : i_MemorySame fl a0 a1 = some r) :
  Ct prog 11 [.agg #[.slice p0_0 n0_0 c0_0, .slice p0_1 n0_1 c0_1, .slice p0_2 n0_2 c0_2, I a0.m.c.h, I a0.m.g.c, I a0.m.g.n, I a0.m.g.r, .slice p0_3 n0_3 c0_3, I a0.m.s, .slice p0_4 n0_4 c0_4, I a0.h], .agg #[.slice p1_0 n1_0 c1_0, .slice p1_1 n1_1 c1_1, .slice p1_2 n1_2 c1_2, I a1.m.c.h, I a1.m.g.c, I a1.m.g.n, I a1.m.g.r, .slice p1_3 n1_3 c1_3, I a1.m.s, .slice p1_4 n1_4 c1_4, I a1.h]] w [] (fun rv h' => rv = .bool r ∧ h' = []) := by
 subst hn0_0 hn0_1 hn0_2 hn0_3 hn0_4 hn1_0 hn1_1 hn1_2 hn1_3 hn1_4
 unfold i_MemorySame at H0
 refine ct_of_cw func11 J ntmps11 J (Sat.refl _ _) ?_
 refine sr (oE (stpU_box 0 J J) J ?_)
 rintro _ _ ⟨b1, rfl, rfl⟩
 refine oE (stpU_box 1 J J) J ?_
 rintro _ _ ⟨b2, rfl, rfl⟩
 obtain ⟨x3, e3, H0⟩ := bS H0
 refine ss J (oA 0 u37 J ts34 J (oB9 0 ts34 J (oA 0 u37 J ts34 J (oB9 1 ts34 J (oE (uC 2 cf28 (fun w hw => c_i_MachineSame fl w a0.m a1.m J (rp hr0_0 hw) J (rp hr0_1 hw) J (rp hr0_2 hw) J (rp hr0_3 hw) J (rp hr1_0 hw) J (rp hr1_1 hw) J (rp hr1_2 hw) J (rp hr1_3 hw) x3 e3) (yB J J)) J ?_)))))
 rintro _ _ ⟨_, ⟨rfl, rfl⟩, rfl⟩
 obtain ⟨y4, ey4, H0⟩ := bS H0
 refine oM J (ow_cutY 6 16 y4 ?_ ?_)
 ·rcases Bool.eq_false_or_eq_true x3 with hy4 | hy4
  ·have ey4 := cond_t ey4 hy4
   obtain ⟨x5, e5, ey4⟩ := bS ey4
   refine oG J hy4 (fA 9 u37 J ts35 J J J) J (oG J hy4 (lB 0 ts35 J J J) J (oG J hy4 (fA 9 u37 J ts35 J J J) J (oG J hy4 (lB 1 ts35 J J J) J (ow_eff (.some J hy4) (uC 2 cf29 (fun w hw => c_slices_Equal_Bool fl w a0.k a1.k J (rp hr0_4 hw) J (rp hr1_4 hw) x5 e5) (yB J J)) J ?_))))
   rintro _ _ ⟨_, ⟨rfl, rfl⟩, rfl⟩
   refine oD (stp_pick_t J hy4 J) J ?_
   obtain rfl := sI ey4
   exact ow_nil (jy 6 0)
  have ey4 := cond_f ey4 hy4
  refine oO J hy4 J (oO J hy4 J (oO J hy4 J (oO J hy4 J (oO J hy4 J (oD (stp_pick_f J hy4 J) J ?_)))))
  obtain rfl := sI ey4
  exact ow_nil (jy 6 0)
 obtain ⟨y6, ey6, H0⟩ := bS H0
 refine oM J (ow_cutY 6 23 y6 ?_ ?_)
 ·rcases Bool.eq_false_or_eq_true y4 with hy6 | hy6
  ·have ey6 := cond_t ey6 hy6
   refine oG J hy6 (fA 10 u37 J ts3 J J J) J (oG J hy6 (lB 0 ts3 J J J) J (oG J hy6 (fA 10 u37 J ts3 J J J) J (oG J hy6 (lB 1 ts3 J J J) J (oG J hy6 (stp_eql J J) J (oD (stp_pick_t J hy6 J) J ?_)))))
   obtain rfl := sI ey6
   exact ow_nil (jy 6 0)
  have ey6 := cond_f ey6 hy6
  refine oO J hy6 J (oO J hy6 J (oO J hy6 J (oO J hy6 J (oO J hy6 J (oD (stp_pick_f J hy6 J) J ?_)))))
  obtain rfl := sI ey6
  exact ow_nil (jy 6 0)
 refine sn J (cw_ret ?_)
 obtain rfl := sI H0
 exact kr results11 (rT J) [] ⟨J, J⟩

theorem c_i_Table_chain (fl : Nat) (w : World) (a0 : T) (a1 : Int) (hn0_0 : n0_0 = (a0.b).length) (hr0_0 : RO w [] (RdL p0_0 c0_0 a0.b)) (hn0_1 : n0_1 = (a0.f).length) (hr0_1 : RO w [] (RdL p0_1 c0_1 a0.f)) (r : (List Int)) (H0 : i_Table_chain fl a0 a1 = some r) :
  Ct prog 35 [.agg #[.slice p0_0 n0_0 c0_0, .slice p0_1 n0_1 c0_1], I a1] w [] (fun rv h' => SL 3 r fun x0 y0 z0 C0 => rv = .slice x0 y0 z0 ∧ h' = [(0, C0)]) := by
 subst hn0_0 hn0_1
 unfold i_Table_chain at H0
 refine ct_of_cw func35 J ntmps35 J (Sat.refl _ _) ?_
 refine sr (oE (stpU_box 0 J J) J ?_)
 rintro _ _ ⟨b1, rfl, rfl⟩
 obtain ⟨x2, e2, H0⟩ := bS H0
 refine ss J (sq J (oAL 0 u26 J ts23 J 0 J (oM J (oD (stp_indexAddr u23 ts3 (by decide) J J J (Rdb.ro hr0_0) e2) J (oD (stp_load1 ts3 J (Cells.el (Rdb.ro hr0_0) (by decide) e2 0 1 J)) J (oS J (nn ?_)))))))
 obtain ⟨o0_0, eo0_0, H0⟩ := bS H0
 refine cw_addNil 1 (lpS (fun f a b => i_Table_chain_L0 fl a0 f a b = some o0_0) (fun a b => o0_0 = .out (a, b)) (fun R s h => ∃ v3 v8 p4 n5 c6 C7, R v3 v8 ∧ s = [(2, .pointer (some ⟨b1, 0, none⟩)), (5, .slice p4 n5 c6), (6, I v8)] ∧ h = [(0, [(b1, .cells #[.slice p0_0 ((a0.b).length) c0_0, .slice p0_1 ((a0.f).length) c0_1] 26 (0, 0))]), (1001, C7)] ∧ n5 = (v3).length ∧ OwnC 3 p4 c6 v3 C7) [0, 1] ⟨_, _, none, 0, 0, [], eo0_0, J, J, J, oN0⟩ ?_ ?_)
 ·rintro fuel _ _ ⟨v3, v8, p4, _, c6, C7, H1, rfl, rfl, rfl, o7⟩
  rcases fuel with _ | fuel
  ·rw [i_Table_chain_L0.eq_1] at H1; cases H1
  rw [i_Table_chain_L0.eq_2] at H1
  refine csr (oM J (oU J (nn (cH J H1 (fun H1 => ?_) (fun H1 => ?_)))))
  ·refine kq (cw_block (cR (oM J (oM J (oE (stpU_lit (sz := 1) (l := [v8]) [I v8] sl23 2 (sP J sE) J J J J J J J J J) J ?_)))))
   rintro _ _ ⟨p10, C11, rfl, rfl, o11⟩
   obtain ⟨x12, e12, H1⟩ := bS H1
   refine oE (stpU_append sl23 J (id := 1001) J J J (by simp) J o7 (Rdb.own (id := 2) J o11) e12) J ?_
   rintro _ _ ⟨p13, c14, C15, rfl, rfl, o15⟩
   obtain ⟨x16, e16, H1⟩ := bS H1
   exact oS J (ow_nil (kb (cR (oAL 1 u26 J ts24 J 0 J (oM J (oD (stp_indexAddr u24 ts57 (by decide) J J J (Rdb.ro hr0_1) e16) J (oA 4 u57 J ts3 J (oD (stp_load1 ts3 J (Cells.el (Rdb.ro hr0_1) (by decide) e16 4 1 J)) J (oS J (ow_nil (ka ⟨_, _, p13, ((x12).length), c14, C15, H1, J, J, J, o15⟩)))))))))))
  refine cw_exit (kw_nx_exit (ax (kw_bl ?_)))
  obtain rfl := sI H1
  exact kx ⟨_, _, p4, ((v3).length), c6, C7, J, J, J, J, o7⟩
 rintro _ _ ⟨v3, v8, p4, _, c6, C7, rfl, rfl, rfl, rfl, o7⟩
 refine kw_nx (sr (oM J (oE (stpU_call (fun i => i) cf64 (fun w hw => c_clip64 w p4 ((v3).length) c6 (OwnC.len o7).1) (yA J)) J ?_)))
 rintro _ _ ⟨_, ⟨rfl, rfl⟩, rfl⟩
 refine sn J (cw_ret ?_)
 obtain rfl := sI H0
 exact kr results35 (rT J) [1001] (sl J (OwnC.clip o7) ⟨J, J⟩)

theorem c_i_FindPage (fl : Nat) (w : World) (a0 : T) (a1 : K) (hn0_0 : n0_0 = (a0.b).length) (hr0_0 : RO w [] (RdL p0_0 c0_0 a0.b)) (hn0_1 : n0_1 = (a0.f).length) (hr0_1 : RO w [] (RdL p0_1 c0_1 a0.f)) (hg : RO w [] (fun w' => w'.rangeAt 0 0 [.bool false, I 0, I 0, I 0, I (-1)])) (r : Int × Int × Bool) (H0 : i_FindPage fl a0 a1 = some r) :
  Ct prog 15 [.agg #[.slice p0_0 n0_0 c0_0, .slice p0_1 n0_1 c0_1], .agg #[I a1.s, I a1.p]] w [] (fun rv h' => rv = .tuple #[I r.1, I r.2.1, .bool r.2.2] ∧ h' = []) := by
 subst hn0_0 hn0_1
 unfold i_FindPage at H0
 refine ct_of_cw func15 J ntmps15 J (Sat.refl _ _) ?_
 refine sr (oE (stpU_box 0 J J) J ?_)
 rintro _ _ ⟨b1, rfl, rfl⟩
 refine oE (stpU_box 1 J J) J ?_
 rintro _ _ ⟨b2, rfl, rfl⟩
 obtain ⟨x3, e3, H0⟩ := bS H0
 refine oS J (oS J (sq J (oB2 0 ts26 J (oE (uC 2 cf33 (fun w hw => c_i_TableValid fl w a0 J (rp hr0_0 hw) J (rp hr0_1 hw) (rp hg hw) x3 e3) (yA J)) J ?_))))
 rintro _ _ ⟨_, ⟨rfl, rfl⟩, rfl⟩
 obtain ⟨y4, ey4, H0⟩ := bS H0
 refine oK J (oM J (ow_cutY 4 17 y4 ?_ ?_))
 ·rcases Bool.eq_false_or_eq_true (!x3) with hy4 | hy4
  ·have ey4 := cond_t ey4 hy4
   refine oO J hy4 J (oO J hy4 J (oO J hy4 J (oD (stp_pick_t J hy4 J) J ?_)))
   obtain rfl := sI ey4
   exact ow_nil (jy 4 0)
  have ey4 := cond_f ey4 hy4
  obtain ⟨x5, e5, ey4⟩ := bS ey4
  refine oG J hy4 (stp_loadN (us := [_, _]) ts50 J (Cells.box (id := 1) J 2 J)) J (ow_eff (.some J hy4) (uC 2 cf34 (fun w hw => c_i_KeyValid fl w a1 x5 e5) (yA J)) J ?_)
  rintro _ _ ⟨_, ⟨rfl, rfl⟩, rfl⟩
  refine oG J hy4 (stp_not J) J (oD (stp_pick_f J hy4 J) J ?_)
  obtain rfl := sI ey4
  exact ow_nil (jy 4 0)
 refine ow_nil (kw_nx (cH J H0 (fun H0 => ?_) (fun H0 => ?_)))
 ·refine sr (oS J (oS J (sr1 J (kR ?_))))
  obtain rfl := sI H0
  exact kr results15 (.cons (.tmp J) (.cons (.tmp J) (rT J))) [] ⟨J, J⟩
 obtain ⟨x7, e7, H0⟩ := bS H0
 obtain ⟨x8, e8, H0⟩ := bS H0
 refine kq (rdt g_mixed (rn 0 8) ⟨[[0],[1],[],[0]], [[],[],[],[],[],[],[2]], [6]⟩ (dB2 0 ts26 J (dB2 1 ts50 J (dA 0 J u26 J ts23 J (dL 0 ts23 J (dD J (stp_len u23 J) (dV J (fun hh => uC 2 cf36 (fun w hw => c_i_hash fl w a1 ((a0.b).length : Int) x7 e7) (yB J J)) J (dE J (fun hh => uC 2 cf35 (fun w hw => c_i_Table_chain fl w a0 x7 J (rp hr0_0 hw) J (rp hr0_1 hw) x8 e8) (yB J J)) ?_))))))))
 rintro _ _ ⟨_, ⟨p9, _, c11, C12, rfl, o12, rfl, rfl⟩, rfl⟩
 obtain ⟨o0_0, eo0_0, H0⟩ := bS H0
 refine dk J (dS J (dn (kw_nx (csr (oM J (oD (stp_len u23 J) J (oM J (nn (lp (fun f a => i_FindPage_L0 fl a0 a1 x8 f a = some o0_0) (fun a => o0_0 = .out a) (fun R s h => ∃ v13, R v13 ∧ s = [(2, .pointer (some ⟨b1, 0, none⟩)), (3, .pointer (some ⟨b2, 0, none⟩)), (7, .slice p9 ((x8).length) c11), (25, .slice p9 ((x8).length) c11), (26, I ((x8).length : Int)), (27, I v13)] ∧ h = [(0, [(b1, .cells #[.slice p0_0 ((a0.b).length) c0_0, .slice p0_1 ((a0.f).length) c0_1] 26 (0, 0))]), (1, [(b2, .cells #[I a1.s, I a1.p] 50 (0, 0))]), (2, C12)]) ⟨_, eo0_0, J, J⟩ ?_ ?_)))))))))
 ·rintro fuel _ _ ⟨v13, H1, rfl, rfl⟩
  rcases fuel with _ | fuel
  ·rw [i_FindPage_L0.eq_1] at H1; cases H1
  rw [i_FindPage_L0.eq_2] at H1
  refine sr (oW J (nn (cq (cH J H1 (fun H1 => ?_) (fun H1 => ?_)))))
  ·obtain ⟨x15, e15, H1⟩ := bS H1
   refine kq (cw_block (sr (oM J (oD (stp_indexAddr u23 ts3 (by decide) J J J (Rdb.own (id := 2) J o12) e15) J (oD (stp_load1 ts3 J (Cells.el (Rdb.own (id := 2) J o12) (by decide) e15 0 1 J)) J (oS J (sn J (cq (rdt g_mixed (rn 0 8) ⟨[[],[0],[],[],[],[],[1]], [], []⟩ (dA 1 J u26 J ts24 J ?_))))))))))
   obtain ⟨x16, e16, H1⟩ := bS H1
   refine dL 0 ts24 J (dM J (dD J (stp_indexAddr u24 ts57 (by decide) J J J (Rdb.ro hr0_1) e16) (dA 1 J u57 J ts50 J (dD J (stp_loadN (us := [_, _]) ts50 J (Cells.el (Rdb.ro hr0_1) (by decide) e16 1 2 J)) (dB2 1 ts50 J (dD J (stp_eqlS te50 x16.k a1 J J) (dn (kw_nx (cH J H1 (fun H1 => ?_) (fun H1 => ?_))))))))))
   ·obtain ⟨x18, e18, H1⟩ := bS H1
    refine sr (oM J (oM J (oP e18 J (oS J (oS J (sr1 J (kw_bl_ret (kR (ar (kw_bl_ret (xr ?_)))))))))))
    refine kR ?_
    obtain rfl := sI H1
    obtain rfl := sI H0
    exact kr results15 (.cons (.tmp J) (.cons (.tmp J) (rT J))) [] ⟨J, J⟩
   obtain ⟨x19, e19, H1⟩ := bS H1
   exact cw_skip (kb (cR (oP e19 J (oM J (ow_nil (ka ⟨_, H1, J, J⟩))))))
  refine cw_exit (kw_nx_exit (ax (kw_bl ?_)))
  obtain rfl := sI H1
  exact kx ⟨_, J, J, J⟩
 rintro _ _ ⟨v13, rfl, rfl, rfl⟩
 refine kw_nx (sr (oM J (oD (stp_len u23 J) J (oS J (oS J (sn J (cw_ret ?_)))))))
 obtain rfl := sI H0
 exact kr results15 (.cons (.tmp J) (.cons (.tmp J) (rT J))) [] ⟨J, J⟩

theorem c_l_FnUsePage (fl : Nat) (w : World) (a0 : (List UInt8)) (hn0_0 : n0_0 = (a0).length) (hr0_0 : RO w [] (RdL p0_0 c0_0 a0)) (hg : RO w [] (fun w' => w'.rangeAt 0 0 [.bool false, I 0, I 0, I 0, I (-1)])) (r : Bool) (H0 : l_FnUsePage fl a0 = some r) :
  Ct prog 6 [.slice p0_0 n0_0 c0_0] w [] (fun rv h' => rv = .bool r ∧ h' = []) := by
 subst hn0_0
 unfold l_FnUsePage at H0
 refine ct_of_cw func6 J ntmps6 J (Sat.refl _ _) ?_
 refine sr (sq J (oM J (oD (stp_len u22 J) J (oJ J (nn (cH J H0 (fun H0 => ?_) (fun H0 => ?_)))))))
 ·refine sr (sr1 J (kR ?_))
  obtain rfl := sI H0
  exact kr results6 (rT J) [] ⟨J, J⟩
 obtain ⟨x2, e2, H0⟩ := bS H0
 refine ks (oM J (oE (uC 0 cf17 (fun w hw => c_s_DrawUsePage fl w a0 J (rp hr0_0 hw) x2 e2) (yA J)) J ?_))
 rintro _ _ ⟨_, ⟨p3, _, c5, C6, rfl, o6, p7, _, c9, C10, rfl, o10, p11, _, c13, C14, rfl, o14, p15, _, c17, C18, rfl, o18, p19, _, c21, C22, rfl, o22, rfl, rfl⟩, rfl⟩
 refine oMTT J J J (oT J (oT J (oE (stpU_alloc 5 tz37 J) J ?_)))
 rintro _ _ ⟨b23, rfl, rfl⟩
 obtain ⟨x24, e24, H0⟩ := bS H0
 refine oC11 5 ts37 J J (oS J (oS J (ss J (oB11 5 ts37 J (oM J (oM J (oM J (oE (uC 6 cf18 (fun w hw => c_i_UsePage fl w x2.1 x2.2.1 x2.2.2.1 x2.2.2.2 J (owp 0 J o6 hw) J (owp 1 J o10 hw) J (owp 2 J o14 hw) J (owp 3 J o18 hw) J (owp 4 J o22 hw) (rp hg hw) x24 e24) (yD J J J J)) J ?_))))))))
 rintro _ _ ⟨_, ⟨p25, _, c27, C28, rfl, o28, p29, _, c31, C32, rfl, o32, p33, _, c35, C36, rfl, o36, p37, _, c39, C40, rfl, o40, p41, _, c43, C44, rfl, o44, rfl, rfl⟩, rfl⟩
 refine oMTT J J J (oT J (oT J (oE (stpU_alloc 11 tz37 J) J ?_)))
 rintro _ _ ⟨b45, rfl, rfl⟩
 obtain ⟨x46, e46, H0⟩ := bS H0
 refine oC11 11 ts37 J J (oS J (oS J (ss J (oB11 5 ts37 J (oM J (oM J (oM J (oE (uC 12 cf19 (fun w hw => c_s_UsePage fl w x2.1 x2.2.1 x2.2.2.1 x2.2.2.2 J (owp 0 J o6 hw) J (owp 1 J o10 hw) J (owp 2 J o14 hw) J (owp 3 J o18 hw) J (owp 4 J o22 hw) x46 e46) (yD J J J J)) J ?_))))))))
 rintro _ _ ⟨_, ⟨p47, _, c49, C50, rfl, o50, p51, _, c53, C54, rfl, o54, p55, _, c57, C58, rfl, o58, p59, _, c61, C62, rfl, o62, p63, _, c65, C66, rfl, o66, rfl, rfl⟩, rfl⟩
 refine oMTT J J J (oT J (oT J (oE (stpU_alloc 17 tz37 J) J ?_)))
 rintro _ _ ⟨b67, rfl, rfl⟩
 obtain ⟨x68, e68, H0⟩ := bS H0
 refine oC11 17 ts37 J J (oS J (oS J (sq J (oB11 11 ts37 J (oB11 17 ts37 J (oE (uC 18 cf11 (fun w hw => c_i_MemorySame fl w x24.1 x46.1 J (owp 6 J o28 hw) J (owp 7 J o32 hw) J (owp 8 J o36 hw) J (owp 9 J o40 hw) J (owp 10 J o44 hw) J (owp 12 J o50 hw) J (owp 13 J o54 hw) J (owp 14 J o58 hw) J (owp 15 J o62 hw) J (owp 16 J o66 hw) x68 e68) (yB J J)) J ?_))))))
 rintro _ _ ⟨_, ⟨rfl, rfl⟩, rfl⟩
 obtain ⟨y69, ey69, H0⟩ := bS H0
 refine oK J (oM J (ow_cutY 4 60 y69 ?_ ?_))
 ·rcases Bool.eq_false_or_eq_true (!x68) with hy69 | hy69
  ·have ey69 := cond_t ey69 hy69
   refine oO J hy69 J (oO J hy69 J (oO J hy69 J (oD (stp_pick_t J hy69 J) J ?_)))
   obtain rfl := sI ey69
   exact ow_nil (jy 4 0)
  have ey69 := cond_f ey69 hy69
  refine oG J hy69 (mv J) J (oG J hy69 (mv J) J (oG J hy69 (stp_neq J J) J (oD (stp_pick_f J hy69 J) J ?_)))
  obtain rfl := sI ey69
  exact ow_nil (jy 4 0)
 obtain ⟨y70, ey70, H0⟩ := bS H0
 refine oM J (ow_cutY 4 65 y70 ?_ ?_)
 ·rcases Bool.eq_false_or_eq_true y69 with hy70 | hy70
  ·have ey70 := cond_t ey70 hy70
   refine oO J hy70 J (oO J hy70 J (oO J hy70 J (oD (stp_pick_t J hy70 J) J ?_)))
   obtain rfl := sI ey70
   exact ow_nil (jy 4 0)
  have ey70 := cond_f ey70 hy70
  refine oG J hy70 (mv J) J (oG J hy70 (mv J) J (oG J hy70 (stp_neq J J) J (oD (stp_pick_f J hy70 J) J ?_)))
  obtain rfl := sI ey70
  exact ow_nil (jy 4 0)
 obtain ⟨y71, ey71, H0⟩ := bS H0
 refine oM J (ow_cutY 4 70 y71 ?_ ?_)
 ·rcases Bool.eq_false_or_eq_true y70 with hy71 | hy71
  ·have ey71 := cond_t ey71 hy71
   refine oO J hy71 J (oO J hy71 J (oO J hy71 J (oD (stp_pick_t J hy71 J) J ?_)))
   obtain rfl := sI ey71
   exact ow_nil (jy 4 0)
  have ey71 := cond_f ey71 hy71
  refine oG J hy71 (mv J) J (oG J hy71 (mv J) J (oG J hy71 (stp_neqB u4 J J) J (oD (stp_pick_f J hy71 J) J ?_)))
  obtain rfl := sI ey71
  exact ow_nil (jy 4 0)
 obtain ⟨y72, ey72, H0⟩ := bS H0
 refine oM J (ow_cutY 3 74 y72 ?_ ?_)
 ·rcases Bool.eq_false_or_eq_true y71 with hy72 | hy72
  ·have ey72 := cond_t ey72 hy72
   refine oO J hy72 J (oO J hy72 J (oD (stp_pick_t J hy72 J) J ?_))
   obtain rfl := sI ey72
   exact ow_nil (jy 3 0)
  have ey72 := cond_f ey72 hy72
  refine oG J hy72 (mv J) J (oG J hy72 (stp_not J) J (oD (stp_pick_f J hy72 J) J ?_))
  obtain rfl := sI ey72
  exact ow_nil (jy 3 0)
 refine ow_nil (kw_nx (cH J H0 (fun H0 => ?_) (fun H0 => ?_)))
 ·refine sr (oB11 11 ts37 J (oB11 17 ts37 J (oE (uC 18 cf11 (fun w hw => c_i_MemorySame fl w x24.1 x46.1 J (owp 6 J o28 hw) J (owp 7 J o32 hw) J (owp 8 J o36 hw) J (owp 9 J o40 hw) J (owp 10 J o44 hw) J (owp 12 J o50 hw) J (owp 13 J o54 hw) J (owp 14 J o58 hw) J (owp 15 J o62 hw) J (owp 16 J o66 hw) x68 e68) (yB J J)) J ?_)))
  rintro _ _ ⟨_, ⟨rfl, rfl⟩, rfl⟩
  obtain ⟨y74, ey74, H0⟩ := bS H0
  refine oM J (ow_cutY 4 82 y74 ?_ ?_)
  ·rcases Bool.eq_false_or_eq_true x68 with hy74 | hy74
   ·have ey74 := cond_t ey74 hy74
    refine oG J hy74 (mv J) J (oG J hy74 (mv J) J (oG J hy74 (stp_eql J J) J (oD (stp_pick_t J hy74 J) J ?_)))
    obtain rfl := sI ey74
    exact ow_nil (jy 4 0)
   have ey74 := cond_f ey74 hy74
   refine oO J hy74 J (oO J hy74 J (oO J hy74 J (oD (stp_pick_f J hy74 J) J ?_)))
   obtain rfl := sI ey74
   exact ow_nil (jy 4 0)
  obtain ⟨y75, ey75, H0⟩ := bS H0
  refine oM J (ow_cutY 4 87 y75 ?_ ?_)
  ·rcases Bool.eq_false_or_eq_true y74 with hy75 | hy75
   ·have ey75 := cond_t ey75 hy75
    refine oG J hy75 (mv J) J (oG J hy75 (mv J) J (oG J hy75 (stp_eql J J) J (oD (stp_pick_t J hy75 J) J ?_)))
    obtain rfl := sI ey75
    exact ow_nil (jy 4 0)
   have ey75 := cond_f ey75 hy75
   refine oO J hy75 J (oO J hy75 J (oO J hy75 J (oD (stp_pick_f J hy75 J) J ?_)))
   obtain rfl := sI ey75
   exact ow_nil (jy 4 0)
  obtain ⟨y76, ey76, H0⟩ := bS H0
  refine oM J (ow_cutY 4 92 y76 ?_ ?_)
  ·rcases Bool.eq_false_or_eq_true y75 with hy76 | hy76
   ·have ey76 := cond_t ey76 hy76
    refine oG J hy76 (mv J) J (oG J hy76 (mv J) J (oG J hy76 (stp_eqlB u4 J J) J (oD (stp_pick_t J hy76 J) J ?_)))
    obtain rfl := sI ey76
    exact ow_nil (jy 4 0)
   have ey76 := cond_f ey76 hy76
   refine oO J hy76 J (oO J hy76 J (oO J hy76 J (oD (stp_pick_f J hy76 J) J ?_)))
   obtain rfl := sI ey76
   exact ow_nil (jy 4 0)
  refine sr1 J (kR ?_)
  obtain rfl := sI H0
  exact kr results6 (rT J) [] ⟨J, J⟩
 obtain ⟨x77, e77, H0⟩ := bS H0
 obtain ⟨x78, e78, H0⟩ := bS H0
 refine kq (rdt g_mixed (rn 0 16) ⟨[[],[],[11],[],[],[5],[],[],[6,7]], [], []⟩ (dA 0 J u37 J ts34 J (dA 0 J u34 J ts26 J (dB2 11 ts26 J (dA 0 J u37 J ts34 J (dA 8 J u34 J ts3 J (dL 5 ts3 J (dM J (dV J (fun hh => uC 18 cf16 (fun w hw => c_i_KeyFor fl w x2.1.m.s x2.2.1 x77 e77) (yB J J)) J (dV J (fun hh => uC 18 cf15 (fun w hw => c_i_FindPage fl w x24.1.m.t x77 J (owp 6 (hh _ _ J) o28 hw) J (owp 7 (hh _ _ J) o32 hw) (rp hg hw) x78 e78) (yB J J)) J (dM J ?_)))))))))))
 obtain ⟨x79, e79, H0⟩ := bS H0
 refine dT J (dT J (dT J (dS J (dS J (dS J (dn (kw_nx (sr (oB11 11 ts37 J (oM J (oM J (oM J (oE (uC 18 cf18 (fun w hw => c_i_UsePage fl w x24.1 x2.2.1 x2.2.2.1 x2.2.2.2 J (owp 6 J o28 hw) J (owp 7 J o32 hw) J (owp 8 J o36 hw) J (owp 9 J o40 hw) J (owp 10 J o44 hw) (rp hg hw) x79 e79) (yD J J J J)) J ?_)))))))))))))
 rintro _ _ ⟨_, ⟨p80, _, c82, C83, rfl, o83, p84, _, c86, C87, rfl, o87, p88, _, c90, C91, rfl, o91, p92, _, c94, C95, rfl, o95, p96, _, c98, C99, rfl, o99, rfl, rfl⟩, rfl⟩
 refine oMTT J J J (oT J (oT J (oE (stpU_alloc 23 tz37 J) J ?_)))
 rintro _ _ ⟨b100, rfl, rfl⟩
 obtain ⟨x101, e101, H0⟩ := bS H0
 refine oC11 23 ts37 J J (oS J (oS J (ss J (oB11 11 ts37 J (oE (uC 24 cf14 (fun w hw => c_i_MemoryValid fl w x24.1 J (owp 6 J o28 hw) J (owp 7 J o32 hw) J (owp 8 J o36 hw) J (owp 9 J o40 hw) J (owp 10 J o44 hw) (rp hg hw) x101 e101) (yA J)) J ?_)))))
 rintro _ _ ⟨_, ⟨rfl, rfl⟩, rfl⟩
 obtain ⟨y102, ey102, H0⟩ := bS H0
 refine oM J (ow_cutY 2 120 y102 ?_ ?_)
 ·rcases Bool.eq_false_or_eq_true x101 with hy102 | hy102
  ·have ey102 := cond_t ey102 hy102
   refine oG J hy102 (mv J) J (oD (stp_pick_t J hy102 J) J ?_)
   obtain rfl := sI ey102
   exact ow_nil (jy 2 0)
  have ey102 := cond_f ey102 hy102
  refine oO J hy102 J (oD (stp_pick_f J hy102 J) J ?_)
  obtain rfl := sI ey102
  exact ow_nil (jy 2 0)
 obtain ⟨y103, ey103, H0⟩ := bS H0
 refine oM J (ow_cutY 4 125 y103 ?_ ?_)
 ·rcases Bool.eq_false_or_eq_true y102 with hy103 | hy103
  ·have ey103 := cond_t ey103 hy103
   refine oG J hy103 (mv J) J (oG J hy103 (mv J) J (oG J hy103 (stp_eql J J) J (oD (stp_pick_t J hy103 J) J ?_)))
   obtain rfl := sI ey103
   exact ow_nil (jy 4 0)
  have ey103 := cond_f ey103 hy103
  refine oO J hy103 J (oO J hy103 J (oO J hy103 J (oD (stp_pick_f J hy103 J) J ?_)))
  obtain rfl := sI ey103
  exact ow_nil (jy 4 0)
 obtain ⟨y104, ey104, H0⟩ := bS H0
 refine oM J (ow_cutY 6 132 y104 ?_ ?_)
 ·rcases Bool.eq_false_or_eq_true y103 with hy104 | hy104
  ·have ey104 := cond_t ey104 hy104
   obtain ⟨x105, e105, ey104⟩ := bS ey104
   refine oG J hy104 (fA 9 u37 J ts35 J J J) J (oG J hy104 (lB 11 ts35 J J J) J (oG J hy104 (mv J) J (oG J hy104 (stp_indexAddr u35 ts4 (by decide) J J J (Rdb.own (id := 10) J o44) e105) J (oG J hy104 (stp_load1 ts4 J (Cells.el (Rdb.own (id := 10) J o44) (by decide) e105 0 1 J)) J (oD (stp_pick_t J hy104 J) J ?_)))))
   obtain rfl := sI ey104
   exact ow_nil (jy 6 0)
  have ey104 := cond_f ey104 hy104
  refine oO J hy104 J (oO J hy104 J (oO J hy104 J (oO J hy104 J (oO J hy104 J (oD (stp_pick_f J hy104 J) J ?_)))))
  obtain rfl := sI ey104
  exact ow_nil (jy 6 0)
 obtain ⟨y106, ey106, H0⟩ := bS H0
 refine oM J (ow_cutY 2 135 y106 ?_ ?_)
 ·rcases Bool.eq_false_or_eq_true y104 with hy106 | hy106
  ·have ey106 := cond_t ey106 hy106
   refine oG J hy106 (mv J) J (oD (stp_pick_t J hy106 J) J ?_)
   obtain rfl := sI ey106
   exact ow_nil (jy 2 0)
  have ey106 := cond_f ey106 hy106
  refine oO J hy106 J (oD (stp_pick_f J hy106 J) J ?_)
  obtain rfl := sI ey106
  exact ow_nil (jy 2 0)
 obtain ⟨y107, ey107, H0⟩ := bS H0
 refine oM J (ow_cutY 4 140 y107 ?_ ?_)
 ·rcases Bool.eq_false_or_eq_true y106 with hy107 | hy107
  ·have ey107 := cond_t ey107 hy107
   refine oG J hy107 (mv J) J (oG J hy107 (mv J) J (oG J hy107 (stp_eql J J) J (oD (stp_pick_t J hy107 J) J ?_)))
   obtain rfl := sI ey107
   exact ow_nil (jy 4 0)
  have ey107 := cond_f ey107 hy107
  refine oO J hy107 J (oO J hy107 J (oO J hy107 J (oD (stp_pick_f J hy107 J) J ?_)))
  obtain rfl := sI ey107
  exact ow_nil (jy 4 0)
 obtain ⟨y108, ey108, H0⟩ := bS H0
 refine oM J (ow_cutY 3 144 y108 ?_ ?_)
 ·rcases Bool.eq_false_or_eq_true y107 with hy108 | hy108
  ·have ey108 := cond_t ey108 hy108
   refine oG J hy108 (mv J) J (oG J hy108 (stp_neq J J) J (oD (stp_pick_t J hy108 J) J ?_))
   obtain rfl := sI ey108
   exact ow_nil (jy 3 0)
  have ey108 := cond_f ey108 hy108
  refine oO J hy108 J (oO J hy108 J (oD (stp_pick_f J hy108 J) J ?_))
  obtain rfl := sI ey108
  exact ow_nil (jy 3 0)
 obtain ⟨y109, ey109, H0⟩ := bS H0
 refine oM J (ow_cutY 4 149 y109 ?_ ?_)
 ·rcases Bool.eq_false_or_eq_true y108 with hy109 | hy109
  ·have ey109 := cond_t ey109 hy109
   obtain ⟨x110, e110, ey109⟩ := bS ey109
   refine oG J hy109 (stp_loadN (us := [_, _, _, _, _, _, _, _, _, _, _]) ts37 J (Cells.box (id := 23) J 11 J)) J (oG J hy109 (stp_loadN (us := [_, _, _, _, _, _, _, _, _, _, _]) ts37 J (Cells.box (id := 11) J 11 J)) J (ow_eff (.some J hy109) (uC 24 cf11 (fun w hw => c_i_MemorySame fl w x79.1 x24.1 J (owp 18 J o83 hw) J (owp 19 J o87 hw) J (owp 20 J o91 hw) J (owp 21 J o95 hw) J (owp 22 J o99 hw) J (owp 6 J o28 hw) J (owp 7 J o32 hw) J (owp 8 J o36 hw) J (owp 9 J o40 hw) J (owp 10 J o44 hw) x110 e110) (yB J J)) J ?_))
   rintro _ _ ⟨_, ⟨rfl, rfl⟩, rfl⟩
   refine oD (stp_pick_t J hy109 J) J ?_
   obtain rfl := sI ey109
   exact ow_nil (jy 4 0)
  have ey109 := cond_f ey109 hy109
  refine oO J hy109 J (oO J hy109 J (oO J hy109 J (oD (stp_pick_f J hy109 J) J ?_)))
  obtain rfl := sI ey109
  exact ow_nil (jy 4 0)
 refine sn J (cw_ret ?_)
 obtain rfl := sI H0
 exact kr results6 (rT J) [] ⟨J, J⟩
end Go.Proofs.YtbfbfkpcabkchaaGreatDoor
