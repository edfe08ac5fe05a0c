/- The walks: functions of the program return what their pure functions say. Printed by a program (gen.py). -/
import Derived.Test.YtbfbfkpcabkchaaGreatDoorVp
import Derived.Test.YtbfbfkpcabkchaaGreatDoorVt
import Derived.Test.YtbfbfkpcabkchaaGreatDoorMan
import Derived.Test.YtbfbfkpcabkchaaGreatDoorMap
import Derived.Test.YtbfbfkpcabkchaaGreatDoorCpy
import Derived.Test.YtbfbfkpcabkchaaGreatDoorVe
import Derived.Test.YtbfbfkpcabkchaaGreatDoorVwaa
import Derived.Test.YtbfbfkpcabkchaaGreatDoorVwab
import Derived.Test.YtbfbfkpcabkchaaGreatDoorVwac
import Derived.Test.YtbfbfkpcabkchaaGreatDoorVwad
import Derived.Test.YtbfbfkpcabkchaaGreatDoorVwaf
import Derived.Test.YtbfbfkpcabkchaaGreatDoorVws
set_option linter.unusedSimpArgs false
set_option linter.unusedVariables false
set_option linter.unusedSectionVars false
namespace Go.Proofs.YtbfbfkpcabkchaaGreatDoor
open Go.RowKit
open Tryz
set_option maxHeartbeats 4000000
set_option maxRecDepth 20000
variable {p0_0 : Option Addr} {n0_0 : Nat} {c0_0 : Nat}
theorem c_s_DrawUsePage (fl : Nat) (w : World) (a0 : (List UInt8)) (hn0_0 : n0_0 = (a0).length) (hr0_0 : RO w [] (RdL p0_0 c0_0 a0)) (r : Mm × Int × Int × Int) (H0 : s_DrawUsePage fl a0 = some r) :
  Ct prog 17 [.slice p0_0 n0_0 c0_0] w [] (fun rv h' => SL 3 r.1.m.t.b fun x0 y0 z0 C0 => SL 57 r.1.m.t.f fun x1 y1 z1 C1 => SL 104 r.1.m.c.l fun x2 y2 z2 C2 => SL 70 r.1.m.g.o fun x3 y3 z3 C3 => SL 4 r.1.k fun x4 y4 z4 C4 => rv = .tuple #[.agg #[.slice x0 y0 z0, .slice x1 y1 z1, .slice x2 y2 z2, I r.1.m.c.h, I r.1.m.g.c, I r.1.m.g.n, I r.1.m.g.r, .slice x3 y3 z3, I r.1.m.s, .slice x4 y4 z4, I r.1.h], I r.2.1, I r.2.2.1, I r.2.2.2] ∧ h' = [(0, C0), (1, C1), (2, C2), (3, C3), (4, C4)]) := by
 subst hn0_0
 unfold s_DrawUsePage at H0
 refine ct_of_cw func17 J ntmps17 J (Sat.refl _ _) ?_
 refine sr (oE (stpU_alloc 0 tz37 J) J ?_)
 rintro _ _ ⟨b1, rfl, rfl⟩
 obtain ⟨x2, e2, H0⟩ := bS H0
 refine oS J (oS J (ss J (oM J (oE (uC 1 cf20 (fun w hw => c_s_l7Case fl w a0 J (rp hr0_0 hw) x2 e2) (yA J)) J ?_))))
 rintro _ _ ⟨_, ⟨p3, _, c5, C6, rfl, o6, p7, _, c9, C10, rfl, o10, p11, _, c13, C14, rfl, o14, p15, _, c17, C18, rfl, o18, p19, _, c21, C22, rfl, o22, rfl, rfl⟩, rfl⟩
 refine oE (stpU_alloc 6 tz37 J) J ?_
 rintro _ _ ⟨b23, rfl, rfl⟩
 refine oC11 6 ts37 J J (ns (oM J (oE (uC 7 cf21 (fun w hw => c_open21 w a0 p0_0 ((a0).length) c0_0 J (RO.cap hr0_0).1) (yA J)) J ?_)))
 rintro _ _ ⟨_, ⟨b24, rfl, rfl⟩, rfl⟩
 refine sn J (cq (rdt g_mixed [.n 0, .n 1, .n 4, .n 7, .d 2, .d 5, .d 8, .o 2, .n 3, .o 5, .n 6, .o 8, .n 9, .n 10, .n 11, .n 12, .n 13] ⟨[[6],[],[],[7,8],[],[],[7,9],[],[],[7,10],[0]], [[],[],[8],[7],[],[9],[7],[],[10],[7],[0]], [2,5,8]⟩ (dB11 6 ts37 J (dM J (dM J (dM J (dq J (fun hh => stpU_lit (sz := 1) (l := [1, 2, 3, 9, 10, 200, 202, 256]) [I 1, I 2, I 3, I 9, I 10, I 200, I 202, I 256] sl23 8 (sP J (sP J (sP J (sP J (sP J (sP J (sP J (sP J sE)))))))) J J J J J J J J J) (by rintro _ _ ⟨_, _, rfl, rfl, _⟩; rfl) (dq J (fun hh => stpU_lit (sz := 1) (l := [1, 0, 2, 8]) [I 1, I 0, I 2, I 8] sl23 9 (sP J (sP J (sP J (sP J sE)))) J J J J J J J J J) (by rintro _ _ ⟨_, _, rfl, rfl, _⟩; rfl) (dq J (fun hh => stpU_lit (sz := 1) (l := [3, 1, 7, 8]) [I 3, I 1, I 7, I 8] sl23 10 (sP J (sP J (sP J (sP J sE)))) J J J J J J J J J) (by rintro _ _ ⟨_, _, rfl, rfl, _⟩; rfl) ?_)))))))))
 refine dp J ?_
 rintro _ _ ⟨p25, C26, rfl, rfl, o26⟩
 obtain ⟨x31, e31, H0⟩ := bS H0
 refine dV J (fun hh => uM (fun i => bif Nat.beq i 0 then 7 else 11 + i) cf24 (fun w hw hb => c_s_l12Rd_num fl w b24 (a0.take 2000) 0 ([1, 2, 3, 9, 10, 200, 202, 256]) J (RO.passM (RO.takeN 2000 hr0_0) hw hb) (by simp) (OwnC.passM (id := 8) (hh _ _ J) o26 hw hb ⟨J, trivial⟩) (hw.pass (js := [7]) ⟨7, [], J, (hh _ _ J), trivial⟩ (by decide)) x31 e31) (yB J J) ⟨(hh _ _ J), (pI (fun _ _ h => h.2) J), trivial⟩) J (dp J ?_)
 rintro _ _ ⟨p27, C28, rfl, rfl, o28⟩
 obtain ⟨x32, e32, H0⟩ := bS H0
 refine dV J (fun hh => uM (fun i => bif Nat.beq i 0 then 7 else 12 + i) cf24 (fun w hw hb => c_s_l12Rd_num fl w b24 (a0.take 2000) x31.2 ([1, 0, 2, 8]) J (RO.passM (RO.takeN 2000 hr0_0) hw hb) (by simp) (OwnC.passM (id := 9) (hh _ _ J) o28 hw hb ⟨J, trivial⟩) (hw.pass (js := [7]) ⟨7, [], J, (hh _ _ J), trivial⟩ (by decide)) x32 e32) (yB J J) ⟨(hh _ _ J), (pI (fun _ _ h => h.2) J), trivial⟩) J (dp J ?_)
 rintro _ _ ⟨p29, C30, rfl, rfl, o30⟩
 obtain ⟨x33, e33, H0⟩ := bS H0
 refine dV J (fun hh => uM (fun i => bif Nat.beq i 0 then 7 else 13 + i) cf24 (fun w hw hb => c_s_l12Rd_num fl w b24 (a0.take 2000) x32.2 ([3, 1, 7, 8]) J (RO.passM (RO.takeN 2000 hr0_0) hw hb) (by simp) (OwnC.passM (id := 10) (hh _ _ J) o30 hw hb ⟨J, trivial⟩) (hw.pass (js := [7]) ⟨7, [], J, (hh _ _ J), trivial⟩ (by decide)) x33 e33) (yB J J) ⟨(hh _ _ J), (pI (fun _ _ h => h.2) J), trivial⟩) J (dC11 0 ts37 J J J (dS J (dS J (dS J (dn (kw_nx (cw_ret ?_)))))))
 obtain rfl := sI H0
 exact kr results17 (.cons (.cellN (us := [_, _, _, _, _, _, _, _, _, _, _]) ts37 J (Cells.box (id := 0) J 11 J)) (.cons (.tmp J) (.cons (.tmp J) (rT J)))) [1, 2, 3, 4, 5] (sl J o6 (sl J o10 (sl J o14 (sl J o18 (sl J o22 ⟨J, J⟩)))))

theorem c_l_FnUseRights (fl : Nat) (w : World) (a0 : (List UInt8)) (hn0_0 : n0_0 = (a0).length) (hr0_0 : RO w [] (RdL p0_0 c0_0 a0)) (hg : RO w [] (fun w' => w'.rangeAt 0 0 [.bool false, I 0, I 0, I 0, I (-1)])) (r : Bool) (H0 : l_FnUseRights fl a0 = some r) :
  Ct prog 7 [.slice p0_0 n0_0 c0_0] w [] (fun rv h' => rv = .bool r ∧ h' = []) := by
 subst hn0_0
 unfold l_FnUseRights at H0
 refine ct_of_cw func7 J ntmps7 J (Sat.refl _ _) ?_
 refine sr (sq J (oM J (oD (stp_len u22 J) J (oJ J (nn (cH J H0 (fun H0 => ?_) (fun H0 => ?_)))))))
 ·refine sr (sr1 J (kR ?_))
  obtain rfl := sI H0
  exact kr results7 (rT J) [] ⟨J, J⟩
 obtain ⟨x2, e2, H0⟩ := bS H0
 refine ks (oM J (oE (uC 0 cf17 (fun w hw => c_s_DrawUsePage fl w a0 J (rp hr0_0 hw) x2 e2) (yA J)) J ?_))
 rintro _ _ ⟨_, ⟨p3, _, c5, C6, rfl, o6, p7, _, c9, C10, rfl, o10, p11, _, c13, C14, rfl, o14, p15, _, c17, C18, rfl, o18, p19, _, c21, C22, rfl, o22, rfl, rfl⟩, rfl⟩
 refine oMTT J J J (oT J (oT J (oE (stpU_alloc 5 tz37 J) J ?_)))
 rintro _ _ ⟨b23, rfl, rfl⟩
 obtain ⟨x24, e24, H0⟩ := bS H0
 refine oC11 5 ts37 J J (oS J (oS J (ss J (oB11 5 ts37 J (oM J (oM J (oM J (oE (uC 6 cf18 (fun w hw => c_i_UsePage fl w x2.1 x2.2.1 x2.2.2.1 x2.2.2.2 J (owp 0 J o6 hw) J (owp 1 J o10 hw) J (owp 2 J o14 hw) J (owp 3 J o18 hw) J (owp 4 J o22 hw) (rp hg hw) x24 e24) (yD J J J J)) J ?_))))))))
 rintro _ _ ⟨_, ⟨p25, _, c27, C28, rfl, o28, p29, _, c31, C32, rfl, o32, p33, _, c35, C36, rfl, o36, p37, _, c39, C40, rfl, o40, p41, _, c43, C44, rfl, o44, rfl, rfl⟩, rfl⟩
 refine oMTT J J J (oT J (oT J (oE (stpU_alloc 11 tz37 J) J ?_)))
 rintro _ _ ⟨b45, rfl, rfl⟩
 obtain ⟨x46, e46, H0⟩ := bS H0
 refine oC11 11 ts37 J J (oS J (oS J (ss J (oB11 5 ts37 J (oM J (oM J (oM J (oE (uC 12 cf19 (fun w hw => c_s_UsePage fl w x2.1 x2.2.1 x2.2.2.1 x2.2.2.2 J (owp 0 J o6 hw) J (owp 1 J o10 hw) J (owp 2 J o14 hw) J (owp 3 J o18 hw) J (owp 4 J o22 hw) x46 e46) (yD J J J J)) J ?_))))))))
 rintro _ _ ⟨_, ⟨p47, _, c49, C50, rfl, o50, p51, _, c53, C54, rfl, o54, p55, _, c57, C58, rfl, o58, p59, _, c61, C62, rfl, o62, p63, _, c65, C66, rfl, o66, rfl, rfl⟩, rfl⟩
 refine oMTT J J J (oT J (oT J (oE (stpU_alloc 17 tz37 J) J ?_)))
 rintro _ _ ⟨b67, rfl, rfl⟩
 obtain ⟨x68, e68, H0⟩ := bS H0
 refine oC11 17 ts37 J J (oS J (oS J (sq J (oB11 11 ts37 J (oB11 17 ts37 J (oE (uC 18 cf11 (fun w hw => c_i_MemorySame fl w x24.1 x46.1 J (owp 6 J o28 hw) J (owp 7 J o32 hw) J (owp 8 J o36 hw) J (owp 9 J o40 hw) J (owp 10 J o44 hw) J (owp 12 J o50 hw) J (owp 13 J o54 hw) J (owp 14 J o58 hw) J (owp 15 J o62 hw) J (owp 16 J o66 hw) x68 e68) (yB J J)) J ?_))))))
 rintro _ _ ⟨_, ⟨rfl, rfl⟩, rfl⟩
 obtain ⟨y69, ey69, H0⟩ := bS H0
 refine oK J (oM J (ow_cutY 4 57 y69 ?_ ?_))
 ·rcases Bool.eq_false_or_eq_true (!x68) with hy69 | hy69
  ·have ey69 := cond_t ey69 hy69
   refine oO J hy69 J (oO J hy69 J (oO J hy69 J (oD (stp_pick_t J hy69 J) J ?_)))
   obtain rfl := sI ey69
   exact ow_nil (jy 4 0)
  have ey69 := cond_f ey69 hy69
  refine oG J hy69 (mv J) J (oG J hy69 (mv J) J (oG J hy69 (stp_neq J J) J (oD (stp_pick_f J hy69 J) J ?_)))
  obtain rfl := sI ey69
  exact ow_nil (jy 4 0)
 obtain ⟨y70, ey70, H0⟩ := bS H0
 refine oM J (ow_cutY 4 62 y70 ?_ ?_)
 ·rcases Bool.eq_false_or_eq_true y69 with hy70 | hy70
  ·have ey70 := cond_t ey70 hy70
   refine oO J hy70 J (oO J hy70 J (oO J hy70 J (oD (stp_pick_t J hy70 J) J ?_)))
   obtain rfl := sI ey70
   exact ow_nil (jy 4 0)
  have ey70 := cond_f ey70 hy70
  refine oG J hy70 (mv J) J (oG J hy70 (mv J) J (oG J hy70 (stp_neq J J) J (oD (stp_pick_f J hy70 J) J ?_)))
  obtain rfl := sI ey70
  exact ow_nil (jy 4 0)
 obtain ⟨y71, ey71, H0⟩ := bS H0
 refine oM J (ow_cutY 4 67 y71 ?_ ?_)
 ·rcases Bool.eq_false_or_eq_true y70 with hy71 | hy71
  ·have ey71 := cond_t ey71 hy71
   refine oO J hy71 J (oO J hy71 J (oO J hy71 J (oD (stp_pick_t J hy71 J) J ?_)))
   obtain rfl := sI ey71
   exact ow_nil (jy 4 0)
  have ey71 := cond_f ey71 hy71
  refine oG J hy71 (mv J) J (oG J hy71 (mv J) J (oG J hy71 (stp_neqB u4 J J) J (oD (stp_pick_f J hy71 J) J ?_)))
  obtain rfl := sI ey71
  exact ow_nil (jy 4 0)
 obtain ⟨y72, ey72, H0⟩ := bS H0
 refine oM J (ow_cutY 3 71 y72 ?_ ?_)
 ·rcases Bool.eq_false_or_eq_true y71 with hy72 | hy72
  ·have ey72 := cond_t ey72 hy72
   refine oO J hy72 J (oO J hy72 J (oD (stp_pick_t J hy72 J) J ?_))
   obtain rfl := sI ey72
   exact ow_nil (jy 3 0)
  have ey72 := cond_f ey72 hy72
  refine oG J hy72 (mv J) J (oG J hy72 (stp_not J) J (oD (stp_pick_f J hy72 J) J ?_))
  obtain rfl := sI ey72
  exact ow_nil (jy 3 0)
 refine ow_nil (kw_nx (cH J H0 (fun H0 => ?_) (fun H0 => ?_)))
 ·refine sr (oB11 11 ts37 J (oB11 17 ts37 J (oE (uC 18 cf11 (fun w hw => c_i_MemorySame fl w x24.1 x46.1 J (owp 6 J o28 hw) J (owp 7 J o32 hw) J (owp 8 J o36 hw) J (owp 9 J o40 hw) J (owp 10 J o44 hw) J (owp 12 J o50 hw) J (owp 13 J o54 hw) J (owp 14 J o58 hw) J (owp 15 J o62 hw) J (owp 16 J o66 hw) x68 e68) (yB J J)) J ?_)))
  rintro _ _ ⟨_, ⟨rfl, rfl⟩, rfl⟩
  obtain ⟨y74, ey74, H0⟩ := bS H0
  refine oM J (ow_cutY 4 79 y74 ?_ ?_)
  ·rcases Bool.eq_false_or_eq_true x68 with hy74 | hy74
   ·have ey74 := cond_t ey74 hy74
    refine oG J hy74 (mv J) J (oG J hy74 (mv J) J (oG J hy74 (stp_eql J J) J (oD (stp_pick_t J hy74 J) J ?_)))
    obtain rfl := sI ey74
    exact ow_nil (jy 4 0)
   have ey74 := cond_f ey74 hy74
   refine oO J hy74 J (oO J hy74 J (oO J hy74 J (oD (stp_pick_f J hy74 J) J ?_)))
   obtain rfl := sI ey74
   exact ow_nil (jy 4 0)
  obtain ⟨y75, ey75, H0⟩ := bS H0
  refine oM J (ow_cutY 4 84 y75 ?_ ?_)
  ·rcases Bool.eq_false_or_eq_true y74 with hy75 | hy75
   ·have ey75 := cond_t ey75 hy75
    refine oG J hy75 (mv J) J (oG J hy75 (mv J) J (oG J hy75 (stp_eql J J) J (oD (stp_pick_t J hy75 J) J ?_)))
    obtain rfl := sI ey75
    exact ow_nil (jy 4 0)
   have ey75 := cond_f ey75 hy75
   refine oO J hy75 J (oO J hy75 J (oO J hy75 J (oD (stp_pick_f J hy75 J) J ?_)))
   obtain rfl := sI ey75
   exact ow_nil (jy 4 0)
  obtain ⟨y76, ey76, H0⟩ := bS H0
  refine oM J (ow_cutY 4 89 y76 ?_ ?_)
  ·rcases Bool.eq_false_or_eq_true y75 with hy76 | hy76
   ·have ey76 := cond_t ey76 hy76
    refine oG J hy76 (mv J) J (oG J hy76 (mv J) J (oG J hy76 (stp_eqlB u4 J J) J (oD (stp_pick_t J hy76 J) J ?_)))
    obtain rfl := sI ey76
    exact ow_nil (jy 4 0)
   have ey76 := cond_f ey76 hy76
   refine oO J hy76 J (oO J hy76 J (oO J hy76 J (oD (stp_pick_f J hy76 J) J ?_)))
   obtain rfl := sI ey76
   exact ow_nil (jy 4 0)
  refine sr1 J (kR ?_)
  obtain rfl := sI H0
  exact kr results7 (rT J) [] ⟨J, J⟩
 obtain ⟨x77, e77, H0⟩ := bS H0
 obtain ⟨x78, e78, H0⟩ := bS H0
 refine kq (rdt g_mixed (rn 0 16) ⟨[[],[],[5],[],[],[5],[],[],[0,1]], [], []⟩ (dA 0 J u37 J ts34 J (dA 0 J u34 J ts26 J (dB2 5 ts26 J (dA 0 J u37 J ts34 J (dA 8 J u34 J ts3 J (dL 5 ts3 J (dM J (dV J (fun hh => uC 18 cf16 (fun w hw => c_i_KeyFor fl w x2.1.m.s x2.2.1 x77 e77) (yB J J)) J (dV J (fun hh => uC 18 cf15 (fun w hw => c_i_FindPage fl w x2.1.m.t x77 J (owp 0 (hh _ _ J) o6 hw) J (owp 1 (hh _ _ J) o10 hw) (rp hg hw) x78 e78) (yB J J)) J (dM J ?_)))))))))))
 refine dT J (dT J (dT J (dS J (dS J (dS J (dn (kw_nx (sr (oA 0 u37 J ts34 J (oA 0 u34 J ts26 J (oAL 1 u26 J ts24 J 11 J (oM J ?_))))))))))))
 obtain ⟨x79, e79, H0⟩ := bS H0
 obtain ⟨y80, ey80, H0⟩ := bS H0
 refine oD (stp_indexAddr u24 ts57 (by decide) J J J (Rdb.own (id := 7) J o32) e79) J (oA 3 u57 J ts3 J (oD (stp_load1 ts3 J (Cells.el (Rdb.own (id := 7) J o32) (by decide) e79 3 1 J)) J (ss J (oM J (oM J (ow_cutY 11 123 y80 ?_ ?_))))))
 ·rcases Bool.eq_false_or_eq_true x78.2.2 with hy80 | hy80
  ·have ey80 := cond_t ey80 hy80
   obtain ⟨x81, e81, ey80⟩ := bS ey80
   refine oG J hy80 (mv J) J (oG J hy80 (fA 0 u37 J ts34 J J J) J (oG J hy80 (fA 0 u34 J ts26 J J J) J (oG J hy80 (fA 1 u26 J ts24 J J J) J (oG J hy80 (lB 5 ts24 J J J) J (oG J hy80 (mv J) J (oG J hy80 (stp_indexAddr u24 ts57 (by decide) J J J (Rdb.own (id := 1) J o10) e81) J (oG J hy80 (fA 3 u57 J ts3 J J J) J (oG J hy80 (stp_load1 ts3 J (Cells.el (Rdb.own (id := 1) J o10) (by decide) e81 3 1 J)) J (oG J hy80 (stp_eql J J) J (oD (stp_pick_t J hy80 J) J ?_))))))))))
   obtain rfl := sI ey80
   exact ow_nil (jy 11 0)
  have ey80 := cond_f ey80 hy80
  refine oO J hy80 J (oO J hy80 J (oO J hy80 J (oO J hy80 J (oO J hy80 J (oO J hy80 J (oO J hy80 J (oO J hy80 J (oO J hy80 J (oO J hy80 J (oD (stp_pick_f J hy80 J) J ?_))))))))))
  obtain rfl := sI ey80
  exact ow_nil (jy 11 0)
 obtain ⟨y82, ey82, H0⟩ := bS H0
 refine oM J (ow_cutY 16 140 y82 ?_ ?_)
 ·rcases Bool.eq_false_or_eq_true y80 with hy82 | hy82
  ·have ey82 := cond_t ey82 hy82
   refine oO J hy82 J (oO J hy82 J (oO J hy82 J (oX J J J (oX J J J (oX J J J (oO J hy82 J (oO J hy82 J (oX J J J (oX J J J (oX J J J (oX J J J (oX J J J (oX J J J ?_)))))))))))))
   refine oO J hy82 J (oD (stp_pick_t J hy82 J) J ?_)
   obtain rfl := sI ey82
   exact ow_nil (jy 16 0)
  have ey82 := cond_f ey82 hy82
  obtain ⟨y83, ey83, ey82⟩ := bS ey82
  refine oG J hy82 (mv J) J (oG J hy82 (stp_not J) J (oG J hy82 (mv J) J (ow_cutY 4 131 y83 ?_ ?_)))
  ·rcases Bool.eq_false_or_eq_true (!x78.2.2) with hy83 | hy83
   ·have ey83 := cond_t ey83 hy83
    refine oG J hy83 (mv J) J (oG J hy83 (mv J) J (oG J hy83 (stp_eql J J) J (oG J hy82 (stp_pick_t J hy83 J) J ?_)))
    obtain rfl := sI ey83
    exact ow_nil (jy 4 0)
   have ey83 := cond_f ey83 hy83
   refine oO J hy83 J (oO J hy83 J (oO J hy83 J (oG J hy82 (stp_pick_f J hy83 J) J ?_)))
   obtain rfl := sI ey83
   exact ow_nil (jy 4 0)
  obtain ⟨y84, ey84, ey82⟩ := bS ey82
  refine oG J hy82 (mv J) J (ow_cutY 7 139 y84 ?_ ?_)
  ·rcases Bool.eq_false_or_eq_true y83 with hy84 | hy84
   ·have ey84 := cond_t ey84 hy84
    obtain ⟨y85, ey85, ey84⟩ := bS ey84
    refine oG J hy84 (mv J) J (oG J hy84 (stp_eql J J) J (oG J hy84 (mv J) J (ow_cutY 3 138 y85 ?_ ?_)))
    ·rcases Bool.eq_false_or_eq_true (x24.2.2.1 == 3) with hy85 | hy85
     ·have ey85 := cond_t ey85 hy85
      refine oO J hy85 J (oO J hy85 J (oG J hy84 (stp_pick_t J hy85 J) J ?_))
      obtain rfl := sI ey85
      exact ow_nil (jy 3 0)
     have ey85 := cond_f ey85 hy85
     refine oG J hy85 (mv J) J (oG J hy85 (stp_eql J J) J (oG J hy84 (stp_pick_f J hy85 J) J ?_))
     obtain rfl := sI ey85
     exact ow_nil (jy 3 0)
    refine oG J hy82 (stp_pick_t J hy84 J) J ?_
    obtain rfl := sI ey84
    exact ow_nil (jy 5 0)
   have ey84 := cond_f ey84 hy84
   refine oO J hy84 J (oO J hy84 J (oO J hy84 J (oX J J J (oX J J J (oO J hy84 J (oG J hy82 (stp_pick_f J hy84 J) J ?_))))))
   obtain rfl := sI ey84
   exact ow_nil (jy 7 0)
  refine oD (stp_pick_f J hy82 J) J ?_
  obtain rfl := sI ey82
  exact ow_nil (jy 7 0)
 refine sn J (cw_ret ?_)
 obtain rfl := sI H0
 exact kr results7 (rT J) [] ⟨J, J⟩
end Go.Proofs.YtbfbfkpcabkchaaGreatDoor
