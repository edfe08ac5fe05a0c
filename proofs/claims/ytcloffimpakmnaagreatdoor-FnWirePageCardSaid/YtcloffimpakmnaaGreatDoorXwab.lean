/- The walks: functions of the program return what their pure functions say. Printed by a program (gen.py). -/
import Derived.Test.YtcloffimpakmnaaGreatDoorXp
import Derived.Test.YtcloffimpakmnaaGreatDoorXt
import Derived.Test.YtcloffimpakmnaaGreatDoorMan
import Derived.Test.YtcloffimpakmnaaGreatDoorMap
import Derived.Test.YtcloffimpakmnaaGreatDoorCpy
import Derived.Test.YtcloffimpakmnaaGreatDoorXe
import Derived.Test.YtcloffimpakmnaaGreatDoorXwaa
import Derived.Test.YtcloffimpakmnaaGreatDoorXws
set_option linter.unusedSimpArgs false
set_option linter.unusedVariables false
set_option linter.unusedSectionVars false
namespace Go.Proofs.YtcloffimpakmnaaGreatDoor
open Go.RowKit
open Tryz
set_option maxHeartbeats 4000000
set_option maxRecDepth 20000
variable {p0_0 p0_0_0 p0_1 p0_2 p0_3 p1_0 p1_1 p1_2 p1_3 : Option Addr} {n0_0 n0_0_0 n0_1 n0_2 n0_3 n1_0 n1_1 n1_2 n1_3 : Nat} {c0_0 c0_0_0 c0_1 c0_2 c0_3 c1_0 c1_1 c1_2 c1_3 : Nat} {C1_0 C1_1 C1_2 C1_3 : Res}
theorem c_s_l3Unmap (fl : Nat) (w : World) (a0 : T) (a1 : Int) (hn0_0 : n0_0 = (a0.b).length) (hr0_0 : RO w [] (RdL p0_0 c0_0 a0.b)) (hn0_1 : n0_1 = (a0.f).length) (hr0_1 : RO w [] (RdL p0_1 c0_1 a0.f)) (r : T) (H0 : s_l3Unmap fl a0 a1 = some r) :
  Ct prog 129 [.agg #[.slice p0_0 n0_0 c0_0, .slice p0_1 n0_1 c0_1], I a1] w [] (fun rv h' => SL 3 r.b fun x0 y0 z0 C0 => SL 74 r.f fun x1 y1 z1 C1 => rv = .agg #[.slice x0 y0 z0, .slice x1 y1 z1] ∧ h' = [(0, C0), (1, C1)]) := by
 subst hn0_0 hn0_1
 unfold s_l3Unmap at H0
 refine ct_of_cw func129 J ntmps129 J (Sat.refl _ _) ?_
 refine sr (oE (stpU_box 0 J J) J ?_)
 rintro _ _ ⟨b1, rfl, rfl⟩
 refine oE (stpU_alloc 1 tz26 J) J ?_
 rintro _ _ ⟨b2, rfl, rfl⟩
 obtain ⟨x3, e3, H0⟩ := bS H0
 refine ns (oB2 0 ts26 J (oE (uC 2 cf61 (fun w hw => c_s_l3Copy fl w a0 J (rp hr0_0 hw) J (rp hr0_1 hw) x3 e3) (yA J)) J ?_))
 rintro _ _ ⟨_, ⟨p4, _, c6, C7, rfl, o7, p8, _, c10, C11, rfl, o11, rfl, rfl⟩, rfl⟩
 refine oE (stpU_alloc 4 tz26 J) J ?_
 rintro _ _ ⟨b12, rfl, rfl⟩
 obtain ⟨x13, e13, H0⟩ := bS H0
 obtain ⟨x14, e14, H0⟩ := bS H0
 refine oC2 4 ts26 J J (nn (cq (rdt g_mixed (rn 0 11) ⟨[[],[0],[],[],[],[],[],[0]], [], []⟩ (dA 1 J u26 J ts24 J (dL 0 ts24 J (dM J (dD J (stp_indexAddr u24 ts74 (by decide) J J J (Rdb.ro hr0_1) e13) (dA 1 J u74 J ts36 J (dD J (stp_loadN (us := [_, _]) ts36 J (Cells.el (Rdb.ro hr0_1) (by decide) e13 1 2 J)) (dA 0 J u26 J ts23 J (dL 0 ts23 J (dD J (stp_len u23 J) (dV J (fun hh => uC 5 cf105 (fun w hw => c_s_l2Hash fl w x13.k ((a0.b).length : Int) x14 e14) (yB J J)) J ?_)))))))))))))
 refine dS J (dn (kw_nx (sr (oAL 1 u26 J ts24 J 0 J (oM J (oD (stp_indexAddr u24 ts74 (by decide) J J J (Rdb.ro hr0_1) e13) J (oA 4 u74 J ts3 J (oD (stp_load1 ts3 J (Cells.el (Rdb.ro hr0_1) (by decide) e13 4 1 J)) J (ss J (oA 1 u26 J ts24 J ?_))))))))))
 obtain ⟨x15, e15, H0⟩ := bS H0
 refine oL 4 ts24 J (oM J (oD (stp_build (cs := #[.bool false, I 0, I 0, I 0, I (-1)]) (sP J sE) bt74_1) J (oD (stp_indexAddr u24 ts74 (by decide) J J J (Rdb.own (id := 3) J o11) e15) J (oF (stpU_storeEl (id := 3) (i := 0) (⟨false, (⟨0, 0⟩ : K), 0, (-1)⟩ : F) (by decide) ts74 J J J o11 e15 J J J J) ?_))))
 rintro _ _ ⟨C16, rfl, o16⟩
 obtain ⟨x17, e17, H0⟩ := bS H0
 refine nq (oAL 0 u26 J ts23 J 0 J (oM J (oD (stp_indexAddr u23 ts3 (by decide) J J J (Rdb.ro hr0_0) e17) J (oD (stp_load1 ts3 J (Cells.el (Rdb.ro hr0_0) (by decide) e17 0 1 J)) J (oM J (oQ J (nn (cH J H0 (fun H0 => ?_) (fun H0 => ?_)))))))))
 ·obtain ⟨x19, e19, H0⟩ := bS H0
  refine sr (oAL 0 u26 J ts23 J 4 J (oM J (oM J (oD (stp_indexAddr u23 ts3 (by decide) J J J (Rdb.own (id := 2) J o7) e19) J (oF (stpU_storeEl (id := 2) (i := 0) x13.nx (by decide) ts3 J J J o7 e19 J J J J) ?_)))))
  rintro _ _ ⟨C20, rfl, o20⟩
  refine ns (oB2 4 ts26 J (oC2 1 ts26 J J (nr (kR ?_))))
  obtain rfl := sI H0
  exact kr results129 (rC2 1 ts26 J J) [2, 3] (sl (by simp) o20 (sl (by simp) o16 ⟨J, J⟩))
 obtain ⟨o0_0, eo0_0, H0⟩ := bS H0
 refine kq (sr (sn J (lp (fun f a b => s_l3Unmap_L0 fl a0 a1 x13 f a b = some o0_0) (fun a b => o0_0 = .out (a, b)) (fun R s h => ∃ v21 v23 C22, R v21 v23 ∧ s = [(1, I a1), (2, .pointer (some ⟨b1, 0, none⟩)), (4, .pointer (some ⟨b2, 0, none⟩)), (5, .pointer (some ⟨b12, 0, none⟩)), (7, I x13.nx), (8, I v23)] ∧ h = [(0, [(b1, .cells #[.slice p0_0 ((a0.b).length) c0_0, .slice p0_1 ((a0.f).length) c0_1] 26 (0, 0))]), (1, [(b2, .cells #[sN, sN] 26 (0, 0))]), (2, C7), (3, C22), (4, [(b12, .cells #[.slice p4 ((x3.b).length) c6, .slice p8 ((x3.f).length) c10] 26 (0, 0))])] ∧ (x3.f).length = (v21).length ∧ OwnC 74 p8 c10 v21 C22) ⟨_, _, C16, eo0_0, J, J, (by simp), o16⟩ ?_ ?_)))
 ·rintro fuel _ _ ⟨v21, v23, C22, H1, rfl, rfl, hl22, o22⟩
  rcases fuel with _ | fuel
  ·rw [s_l3Unmap_L0.eq_1] at H1; cases H1
  rw [s_l3Unmap_L0.eq_2] at H1
  refine csr (oM J (oAL 1 u26 J ts24 J 0 J (oD (stp_len u24 J) J (oW J (nn (cH J H1 (fun H1 => ?_) (fun H1 => ?_)))))))
  ·obtain ⟨x25, e25, H1⟩ := bS H1
   obtain ⟨y26, ey26, H1⟩ := bS H1
   refine kq (cw_block (sr (oAL 1 u26 J ts24 J 0 J (oM J (oD (stp_indexAddr u24 ts74 (by decide) J J J (Rdb.ro hr0_1) e25) J (oA 0 u74 J ts4 J (oD (stp_load1 ts4 J (Cells.el (Rdb.ro hr0_1) (by decide) e25 0 1 J)) J (oM J (ow_cutY 9 67 y26 ?_ ?_)))))))))
   ·rcases Bool.eq_false_or_eq_true x25.u with hy26 | hy26
    ·have ey26 := cond_t ey26 hy26
     refine oG J hy26 (fA 1 u26 J ts24 J J J) J (oG J hy26 (lB 0 ts24 J J J) J (oG J hy26 (mv J) J (oG J hy26 (stp_indexAddr u24 ts74 (by decide) J J J (Rdb.ro hr0_1) e25) J (oG J hy26 (fA 4 u74 J ts3 J J J) J (oG J hy26 (stp_load1 ts3 J (Cells.el (Rdb.ro hr0_1) (by decide) e25 4 1 J)) J (oG J hy26 (mv J) J (oG J hy26 (stp_eql J J) J (oD (stp_pick_t J hy26 J) J ?_))))))))
     obtain rfl := sI ey26
     exact ow_nil (jy 9 0)
    have ey26 := cond_f ey26 hy26
    refine oO J hy26 J (oO J hy26 J (oO J hy26 J (oO J hy26 J (oO J hy26 J (oO J hy26 J (oO J hy26 J (oO J hy26 J (oD (stp_pick_f J hy26 J) J ?_))))))))
    obtain rfl := sI ey26
    exact ow_nil (jy 9 0)
   refine ow_nil (kw_nx (cH J H1 (fun H1 => ?_) (fun H1 => ?_)))
   ·obtain ⟨x28, e28, H1⟩ := bS H1
    refine cR (oAL 1 u26 J ts24 J 4 J (oM J (oM J (oD (stp_indexAddr u24 ts74 (by decide) J (by simp [hl22]) J (Rdb.own (id := 3) J o22) e28) J (oA 4 u74 J ts3 J (oF (stpU_storeEl (id := 3) (i := 4) (⟨x28.u, x28.k, x28.r, x13.nx⟩ : F) (by decide) ts3 J J J o22 e28 J J J J) ?_))))))
    rintro _ _ ⟨C29, rfl, o29⟩
    obtain ⟨x30, e30, H1⟩ := bS H1
    exact ow_nil (kb (cR (oM J (oP e30 J (oS J (ow_nil (ka ⟨_, _, C29, H1, J, J, (by simp [hl22]), o29⟩)))))))
   obtain ⟨x31, e31, H1⟩ := bS H1
   exact cw_skip (kb (cR (oM J (oP e31 J (oS J (ow_nil (ka ⟨_, _, C22, H1, J, J, (by simp [hl22]), o22⟩)))))))
  refine cw_exit (kw_nx_exit (ax (kw_bl ?_)))
  obtain rfl := sI H1
  exact kx ⟨_, _, C22, J, J, J, (by simp [hl22]), o22⟩
 rintro _ _ ⟨v21, v23, C22, rfl, rfl, rfl, hl22, o22⟩
 refine kw_nx (sr (oB2 4 ts26 J (oC2 1 ts26 J J (nn (cw_ret ?_)))))
 obtain rfl := sI H0
 exact kr results129 (rC2 1 ts26 J J) [2, 3] (sl J o7 (sl (by simp [hl22]) o22 ⟨J, J⟩))

theorem c_s_UnmapPage (fl : Nat) (w : World) (a0 : T) (a1 : K) (hn0_0 : n0_0 = (a0.b).length) (hr0_0 : RO w [] (RdL p0_0 c0_0 a0.b)) (hn0_1 : n0_1 = (a0.f).length) (hr0_1 : RO w [] (RdL p0_1 c0_1 a0.f)) (r : T × Bool) (H0 : s_UnmapPage fl a0 a1 = some r) :
  Ct prog 127 [.agg #[.slice p0_0 n0_0 c0_0, .slice p0_1 n0_1 c0_1], .agg #[I a1.s, I a1.p]] w [] (fun rv h' => SL 3 r.1.b fun x0 y0 z0 C0 => SL 74 r.1.f fun x1 y1 z1 C1 => rv = .tuple #[.agg #[.slice x0 y0 z0, .slice x1 y1 z1], .bool r.2] ∧ h' = [(0, C0), (1, C1)]) := by
 subst hn0_0 hn0_1
 unfold s_UnmapPage at H0
 refine ct_of_cw func127 J ntmps127 J (Sat.refl _ _) ?_
 refine sr (oE (stpU_box 0 J J) J ?_)
 rintro _ _ ⟨b1, rfl, rfl⟩
 refine oE (stpU_box 1 J J) J ?_
 rintro _ _ ⟨b2, rfl, rfl⟩
 refine oE (stpU_alloc 2 tz26 J) J ?_
 rintro _ _ ⟨b3, rfl, rfl⟩
 obtain ⟨x4, e4, H0⟩ := bS H0
 refine ss J (oB2 0 ts26 J (oB2 1 ts36 J (oE (uC 3 cf59 (fun w hw => c_s_FindPage fl w a0 a1 J (rp hr0_0 hw) J (rp hr0_1 hw) x4 e4) (yB J J)) J ?_)))
 rintro _ _ ⟨_, ⟨rfl, rfl⟩, rfl⟩
 refine oMTT J J J (oT J (oS J (oS J (sq J (oM J (oK J (nn (cH J H0 (fun H0 => ?_) (fun H0 => ?_)))))))))
 ·refine sr (oD (stp_build (cs := #[sN, sN]) sE bt26_0) J (oC2 2 ts26 J J (sR J (kA 3 (kA 4 ?_)))))
  obtain rfl := sI H0
  exact kr results127 (.cons (.cellN (us := [_, _]) ts26 J (Cells.box (id := 2) J 2 J)) (rT J)) [3, 4] (sl J oN0 (sl J oN0 ⟨J, J⟩))
 obtain ⟨x6, e6, H0⟩ := bS H0
 refine ks (oB2 0 ts26 J (oM J (oE (uC 5 cf129 (fun w hw => c_s_l3Unmap fl w a0 x4.1 J (rp hr0_0 hw) J (rp hr0_1 hw) x6 e6) (yB J J)) J ?_)))
 rintro _ _ ⟨_, ⟨p7, _, c9, C10, rfl, o10, p11, _, c13, C14, rfl, o14, rfl, rfl⟩, rfl⟩
 refine oC2 2 ts26 J J (sn J (cw_ret ?_))
 obtain rfl := sI H0
 exact kr results127 (.cons (.cellN (us := [_, _]) ts26 J (Cells.box (id := 2) J 2 J)) (rT J)) [5, 6] (sl J o10 (sl J o14 ⟨J, J⟩))

theorem c_s_l4Tag (fl : Nat) (w : World) (a0 : Int) (r : Bool) (H0 : s_l4Tag fl a0 = some r) :
  Ct prog 122 [I a0] w [] (fun rv h' => rv = .bool r ∧ h' = []) := by
 unfold s_l4Tag at H0
 refine ct_of_cw func122 J ntmps122 J (Sat.refl _ _) ?_
 obtain ⟨y1, ey1, H0⟩ := bS H0
 refine sr (ss J (oM J (oI J (oM J (ow_cutY 3 8 y1 ?_ ?_)))))
 ·rcases Bool.eq_false_or_eq_true (decide ((-1) ≤ a0)) with hy1 | hy1
  ·have ey1 := cond_t ey1 hy1
   refine oG J hy1 (mv J) J (oG J hy1 (stp_lss J J) J (oD (stp_pick_t J hy1 J) J ?_))
   obtain rfl := sI ey1
   exact ow_nil (jy 3 0)
  have ey1 := cond_f ey1 hy1
  refine oO J hy1 J (oO J hy1 J (oD (stp_pick_f J hy1 J) J ?_))
  obtain rfl := sI ey1
  exact ow_nil (jy 3 0)
 refine sn J (cw_ret ?_)
 obtain rfl := sI H0
 exact kr results122 (rT J) [] ⟨J, J⟩

theorem c_s_FindLine (fl : Nat) (w : World) (a0 : Ca) (a1 : Int) (a2 : Int) (hn0_0 : n0_0 = (a0.l).length) (hr0_0 : RO w [] (RdL p0_0 c0_0 a0.l)) (r : Int × Bool) (H0 : s_FindLine fl a0 a1 a2 = some r) :
  Ct prog 111 [.agg #[.slice p0_0 n0_0 c0_0, I a0.h], I a1, I a2] w [] (fun rv h' => rv = .tuple #[I r.1, .bool r.2] ∧ h' = []) := by
 subst hn0_0
 unfold s_FindLine at H0
 refine ct_of_cw func111 J ntmps111 J (Sat.refl _ _) ?_
 refine sr (oE (stpU_box 0 J J) J ?_)
 rintro _ _ ⟨b1, rfl, rfl⟩
 obtain ⟨x2, e2, H0⟩ := bS H0
 refine oS J (sq J (oB2 0 ts29 J (oE (uC 1 cf55 (fun w hw => c_s_CacheValid fl w a0 J (rp hr0_0 hw) x2 e2) (yA J)) J ?_)))
 rintro _ _ ⟨_, ⟨rfl, rfl⟩, rfl⟩
 obtain ⟨y3, ey3, H0⟩ := bS H0
 refine oK J (oM J (ow_cutY 4 16 y3 ?_ ?_))
 ·rcases Bool.eq_false_or_eq_true (!x2) with hy3 | hy3
  ·have ey3 := cond_t ey3 hy3
   refine oO J hy3 J (oO J hy3 J (oO J hy3 J (oD (stp_pick_t J hy3 J) J ?_)))
   obtain rfl := sI ey3
   exact ow_nil (jy 4 0)
  have ey3 := cond_f ey3 hy3
  obtain ⟨x4, e4, ey3⟩ := bS ey3
  refine oG J hy3 (mv J) J (ow_eff (.some J hy3) (uC 1 cf122 (fun w hw => c_s_l4Tag fl w a1 x4 e4) (yA J)) J ?_)
  rintro _ _ ⟨_, ⟨rfl, rfl⟩, rfl⟩
  refine oG J hy3 (stp_not J) J (oD (stp_pick_f J hy3 J) J ?_)
  obtain rfl := sI ey3
  exact ow_nil (jy 4 0)
 obtain ⟨y5, ey5, H0⟩ := bS H0
 refine oM J (ow_cutY 4 21 y5 ?_ ?_)
 ·rcases Bool.eq_false_or_eq_true y3 with hy5 | hy5
  ·have ey5 := cond_t ey5 hy5
   refine oO J hy5 J (oO J hy5 J (oO J hy5 J (oD (stp_pick_t J hy5 J) J ?_)))
   obtain rfl := sI ey5
   exact ow_nil (jy 4 0)
  have ey5 := cond_f ey5 hy5
  obtain ⟨x6, e6, ey5⟩ := bS ey5
  refine oG J hy5 (mv J) J (ow_eff (.some J hy5) (uC 1 cf86 (fun w hw => c_s_l1Page fl w a2 x6 e6) (yA J)) J ?_)
  rintro _ _ ⟨_, ⟨rfl, rfl⟩, rfl⟩
  refine oG J hy5 (stp_not J) J (oD (stp_pick_f J hy5 J) J ?_)
  obtain rfl := sI ey5
  exact ow_nil (jy 4 0)
 refine ow_nil (kw_nx (cH J H0 (fun H0 => ?_) (fun H0 => ?_)))
 ·refine sr (oS J (sr1 J (kR ?_)))
  obtain rfl := sI H0
  exact kr results111 (.cons (.tmp J) (rT J)) [] ⟨J, J⟩
 obtain ⟨x8, e8, H0⟩ := bS H0
 refine ks (oB2 0 ts29 J (oM J (oM J (oE (uC 1 cf45 (fun w hw => c_s_l4Find fl w a0 a1 a2 J (rp hr0_0 hw) x8 e8) (yC J J J)) J ?_))))
 rintro _ _ ⟨_, ⟨rfl, rfl⟩, rfl⟩
 refine sq J (oM J (oW J (nn (cH J H0 (fun H0 => ?_) (fun H0 => ?_)))))
 ·refine sr (oS J (sr1 J (kR ?_)))
  obtain rfl := sI H0
  exact kr results111 (.cons (.tmp J) (rT J)) [] ⟨J, J⟩
 refine ks (oM J (oS J (sn J (cw_ret ?_))))
 obtain rfl := sI H0
 exact kr results111 (.cons (.tmp J) (rT J)) [] ⟨J, J⟩

theorem c_s_DropPage (fl : Nat) (w : World) (a0 : Ca) (a1 : Int) (a2 : Int) (hn0_0 : n0_0 = (a0.l).length) (hr0_0 : RO w [] (RdL p0_0 c0_0 a0.l)) (r : Ca × Bool) (H0 : s_DropPage fl a0 a1 a2 = some r) :
  Ct prog 64 [.agg #[.slice p0_0 n0_0 c0_0, I a0.h], I a1, I a2] w [] (fun rv h' => SL 66 r.1.l fun x0 y0 z0 C0 => rv = .tuple #[.agg #[.slice x0 y0 z0, I r.1.h], .bool r.2] ∧ h' = [(0, C0)]) := by
 subst hn0_0
 unfold s_DropPage at H0
 refine ct_of_cw func64 J ntmps64 J (Sat.refl _ _) ?_
 refine sr (oE (stpU_box 0 J J) J ?_)
 rintro _ _ ⟨b1, rfl, rfl⟩
 refine oE (stpU_alloc 1 tz29 J) J ?_
 rintro _ _ ⟨b2, rfl, rfl⟩
 obtain ⟨x3, e3, H0⟩ := bS H0
 refine ss J (oB2 0 ts29 J (oM J (oM J (oE (uC 2 cf111 (fun w hw => c_s_FindLine fl w a0 a1 a2 J (rp hr0_0 hw) x3 e3) (yC J J J)) J ?_))))
 rintro _ _ ⟨_, ⟨rfl, rfl⟩, rfl⟩
 refine oMTT J J J (oS J (sq J (oM J (oK J (nn (cH J H0 (fun H0 => ?_) (fun H0 => ?_)))))))
 ·refine sr (oD (stp_build (cs := #[sN, I 0]) sE bt29_2) J (oC2 1 ts29 J J (sR J (kA 2 ?_))))
  obtain rfl := sI H0
  exact kr results64 (.cons (.cellN (us := [_, _]) ts29 J (Cells.box (id := 1) J 2 J)) (rT J)) [2] (sl J oN0 ⟨J, J⟩)
 obtain ⟨x5, e5, H0⟩ := bS H0
 refine ks (oB2 0 ts29 J (oE (uC 3 cf90 (fun w hw => c_s_l4Copy fl w a0 J (rp hr0_0 hw) x5 e5) (yA J)) J ?_))
 rintro _ _ ⟨_, ⟨p6, _, c8, C9, rfl, o9, rfl, rfl⟩, rfl⟩
 refine oE (stpU_alloc 4 tz29 J) J ?_
 rintro _ _ ⟨b10, rfl, rfl⟩
 obtain ⟨x11, e11, H0⟩ := bS H0
 refine oC2 4 ts29 J J (ns (oAL 0 u29 J ts27 J 4 J (oM J (oD (stp_build (cs := #[.bool false, I 0, I 0, I 0, I 0, .bool false]) sE bt66_11) J (oD (stp_indexAddr u27 ts66 (by decide) J J J (Rdb.own (id := 3) J o9) e11) J (oF (stpU_storeEl (id := 3) (i := 0) (⟨false, 0, 0, 0, 0, false⟩ : Ln) (by decide) ts66 J J J o9 e11 J J J J) ?_))))))
 rintro _ _ ⟨C12, rfl, o12⟩
 refine ns (oB2 4 ts29 J (oC2 1 ts29 J J (sn J (cw_ret ?_))))
 obtain rfl := sI H0
 exact kr results64 (.cons (.cellN (us := [_, _]) ts29 J (Cells.box (id := 1) J 2 J)) (rT J)) [3] (sl (by simp) o12 ⟨J, J⟩)

theorem c_s_l6Forget (fl : Nat) (w : World) (a0 : Mc) (a1 : K) (hn0_0 : n0_0 = (a0.t.b).length) (hr0_0 : RO w [] (RdL p0_0 c0_0 a0.t.b)) (hn0_1 : n0_1 = (a0.t.f).length) (hr0_1 : RO w [] (RdL p0_1 c0_1 a0.t.f)) (hn0_2 : n0_2 = (a0.c.l).length) (hr0_2 : RO w [] (RdL p0_2 c0_2 a0.c.l)) (hn0_3 : n0_3 = (a0.g.o).length) (hr0_3 : RO w [] (RdL p0_3 c0_3 a0.g.o)) (r : Mc) (H0 : s_l6Forget fl a0 a1 = some r) :
  Ct prog 23 [.agg #[.slice p0_0 n0_0 c0_0, .slice p0_1 n0_1 c0_1, .slice p0_2 n0_2 c0_2, I a0.c.h, I a0.g.c, I a0.g.n, I a0.g.r, .slice p0_3 n0_3 c0_3, I a0.s], .agg #[I a1.s, I a1.p]] w [] (fun rv h' => SL 3 r.t.b fun x0 y0 z0 C0 => SL 74 r.t.f fun x1 y1 z1 C1 => SL 66 r.c.l fun x2 y2 z2 C2 => SL 108 r.g.o fun x3 y3 z3 C3 => rv = .agg #[.slice x0 y0 z0, .slice x1 y1 z1, .slice x2 y2 z2, I r.c.h, I r.g.c, I r.g.n, I r.g.r, .slice x3 y3 z3, I r.s] ∧ h' = [(0, C0), (1, C1), (2, C2), (3, C3)]) := by
 subst hn0_0 hn0_1 hn0_2 hn0_3
 unfold s_l6Forget at H0
 refine ct_of_cw func23 J ntmps23 J (Sat.refl _ _) ?_
 refine sr (oE (stpU_box 0 J J) J ?_)
 rintro _ _ ⟨b1, rfl, rfl⟩
 refine oE (stpU_box 1 J J) J ?_
 rintro _ _ ⟨b2, rfl, rfl⟩
 refine oE (stpU_alloc 2 tz34 J) J ?_
 rintro _ _ ⟨b3, rfl, rfl⟩
 obtain ⟨x4, e4, H0⟩ := bS H0
 refine ns (oB9 0 ts34 J (oE (uC 3 cf62 (fun w hw => c_s_l6Copy fl w a0 J (rp hr0_0 hw) J (rp hr0_1 hw) J (rp hr0_2 hw) J (rp hr0_3 hw) x4 e4) (yA J)) J ?_))
 rintro _ _ ⟨_, ⟨p5, _, c7, C8, rfl, o8, p9, _, c11, C12, rfl, o12, p13, _, c15, C16, rfl, o16, p17, _, c19, C20, rfl, o20, rfl, rfl⟩, rfl⟩
 refine oE (stpU_alloc 7 tz34 J) J ?_
 rintro _ _ ⟨b21, rfl, rfl⟩
 obtain ⟨x22, e22, H0⟩ := bS H0
 refine oC9 7 ts34 J J (ns (oB9 0 ts34 J (oAL 0 u36 J ts3 J 1 J (oAL 1 u36 J ts3 J 1 J (oE (uC 8 cf63 (fun w hw => c_s_l6Tag fl w a0 a1.s a1.p J (rp hr0_0 hw) J (rp hr0_1 hw) J (rp hr0_2 hw) J (rp hr0_3 hw) x22 e22) (yC J J J)) J ?_)))))
 rintro _ _ ⟨_, ⟨rfl, rfl⟩, rfl⟩
 refine oMTT J J J (oS J (sq J (oM J (oK J (nn (cH J H0 (fun H0 => ?_) (fun H0 => ?_)))))))
 ·refine sr (oB9 7 ts34 J (oC9 2 ts34 J J (nr (kR ?_))))
  obtain rfl := sI H0
  exact kr results23 (rC9 2 ts34 J J) [3, 4, 5, 6] (sl J o8 (sl J o12 (sl J o16 (sl J o20 ⟨J, J⟩))))
 obtain ⟨x24, e24, H0⟩ := bS H0
 refine ks (oA 2 u34 J ts29 J (oB2 0 ts29 J (oM J (oAL 1 u36 J ts3 J 1 J (oE (uC 8 cf64 (fun w hw => c_s_DropPage fl w a0.c x22.1 a1.p J (rp hr0_2 hw) x24 e24) (yC J J J)) J ?_)))))
 rintro _ _ ⟨_, ⟨p25, _, c27, C28, rfl, o28, rfl, rfl⟩, rfl⟩
 refine oMTT J J J (oE (stpU_alloc 9 tz29 J) J ?_)
 rintro _ _ ⟨b29, rfl, rfl⟩
 refine oC2 9 ts29 J J (sq J (oM J (nn (cH J H0 (fun H0 => ?_) (fun H0 => ?_)))))
 ·refine cR (oB2 9 ts29 J (oA 2 u34 J ts29 J (oC9 7 ts29 J J (ns (oB9 7 ts34 J (oC9 2 ts34 J J (nn (cw_ret ?_))))))))
  obtain rfl := sI H0
  exact kr results23 (rC9 2 ts34 J J) [3, 4, 8, 6] (sl J o8 (sl J o12 (sl J o28 (sl J o20 ⟨J, J⟩))))
 refine ks (oB9 7 ts34 J (oC9 2 ts34 J J (nn (cw_ret ?_))))
 obtain rfl := sI H0
 exact kr results23 (rC9 2 ts34 J J) [3, 4, 5, 6] (sl J o8 (sl J o12 (sl J o16 (sl J o20 ⟨J, J⟩))))

theorem c_s_TakePage (fl : Nat) (w : World) (a0 : Mc) (a1 : K) (hn0_0 : n0_0 = (a0.t.b).length) (hr0_0 : RO w [] (RdL p0_0 c0_0 a0.t.b)) (hn0_1 : n0_1 = (a0.t.f).length) (hr0_1 : RO w [] (RdL p0_1 c0_1 a0.t.f)) (hn0_2 : n0_2 = (a0.c.l).length) (hr0_2 : RO w [] (RdL p0_2 c0_2 a0.c.l)) (hn0_3 : n0_3 = (a0.g.o).length) (hr0_3 : RO w [] (RdL p0_3 c0_3 a0.g.o)) (r : Mc × Bool) (H0 : s_TakePage fl a0 a1 = some r) :
  Ct prog 120 [.agg #[.slice p0_0 n0_0 c0_0, .slice p0_1 n0_1 c0_1, .slice p0_2 n0_2 c0_2, I a0.c.h, I a0.g.c, I a0.g.n, I a0.g.r, .slice p0_3 n0_3 c0_3, I a0.s], .agg #[I a1.s, I a1.p]] w [] (fun rv h' => SL 3 r.1.t.b fun x0 y0 z0 C0 => SL 74 r.1.t.f fun x1 y1 z1 C1 => SL 66 r.1.c.l fun x2 y2 z2 C2 => SL 108 r.1.g.o fun x3 y3 z3 C3 => rv = .tuple #[.agg #[.slice x0 y0 z0, .slice x1 y1 z1, .slice x2 y2 z2, I r.1.c.h, I r.1.g.c, I r.1.g.n, I r.1.g.r, .slice x3 y3 z3, I r.1.s], .bool r.2] ∧ h' = [(0, C0), (1, C1), (2, C2), (3, C3)]) := by
 subst hn0_0 hn0_1 hn0_2 hn0_3
 unfold s_TakePage at H0
 refine ct_of_cw func120 J ntmps120 J (Sat.refl _ _) ?_
 refine sr (oE (stpU_box 0 J J) J ?_)
 rintro _ _ ⟨b1, rfl, rfl⟩
 refine oE (stpU_box 1 J J) J ?_
 rintro _ _ ⟨b2, rfl, rfl⟩
 refine oE (stpU_alloc 2 tz34 J) J ?_
 rintro _ _ ⟨b3, rfl, rfl⟩
 obtain ⟨x4, e4, H0⟩ := bS H0
 refine sq J (oB9 0 ts34 J (oE (uC 3 cf21 (fun w hw => c_s_MachineValid fl w a0 J (rp hr0_0 hw) J (rp hr0_1 hw) J (rp hr0_2 hw) J (rp hr0_3 hw) x4 e4) (yA J)) J ?_))
 rintro _ _ ⟨_, ⟨rfl, rfl⟩, rfl⟩
 refine oK J (nn (cH J H0 (fun H0 => ?_) (fun H0 => ?_)))
 ·refine sr (oD (stp_build (cs := #[sN, sN, sN, I 0, I 0, I 0, I 0, sN, I 0]) sE bt34_6) J (oC9 2 ts34 J J (sR J (kA 3 (kA 4 (kA 5 (kA 6 ?_)))))))
  obtain rfl := sI H0
  exact kr results120 (.cons (.cellN (us := [_, _, _, _, _, _, _, _, _]) ts34 J (Cells.box (id := 2) J 9 J)) (rT J)) [3, 4, 5, 6] (sl J oN0 (sl J oN0 (sl J oN0 (sl J oN0 ⟨J, J⟩))))
 obtain ⟨x6, e6, H0⟩ := bS H0
 refine ks (oA 0 u34 J ts26 J (oB2 0 ts26 J (oB2 1 ts36 J (oE (uC 7 cf127 (fun w hw => c_s_UnmapPage fl w a0.t a1 J (rp hr0_0 hw) J (rp hr0_1 hw) x6 e6) (yB J J)) J ?_))))
 rintro _ _ ⟨_, ⟨p7, _, c9, C10, rfl, o10, p11, _, c13, C14, rfl, o14, rfl, rfl⟩, rfl⟩
 refine oMTT J J J (oE (stpU_alloc 9 tz26 J) J ?_)
 rintro _ _ ⟨b15, rfl, rfl⟩
 refine oC2 9 ts26 J J (sq J (oM J (oK J (nn (cH J H0 (fun H0 => ?_) (fun H0 => ?_))))))
 ·refine sr (oD (stp_build (cs := #[sN, sN, sN, I 0, I 0, I 0, I 0, sN, I 0]) sE bt34_6) J (oC9 2 ts34 J J (sR J (kA 10 (kA 11 (kA 12 (kA 13 ?_)))))))
  obtain rfl := sI H0
  exact kr results120 (.cons (.cellN (us := [_, _, _, _, _, _, _, _, _]) ts34 J (Cells.box (id := 2) J 9 J)) (rT J)) [10, 11, 12, 13] (sl J oN0 (sl J oN0 (sl J oN0 (sl J oN0 ⟨J, J⟩))))
 obtain ⟨x17, e17, H0⟩ := bS H0
 refine ks (oB9 0 ts34 J (oB2 1 ts36 J (oE (uC 14 cf23 (fun w hw => c_s_l6Forget fl w a0 a1 J (rp hr0_0 hw) J (rp hr0_1 hw) J (rp hr0_2 hw) J (rp hr0_3 hw) x17 e17) (yB J J)) J ?_)))
 rintro _ _ ⟨_, ⟨p18, _, c20, C21, rfl, o21, p22, _, c24, C25, rfl, o25, p26, _, c28, C29, rfl, o29, p30, _, c32, C33, rfl, o33, rfl, rfl⟩, rfl⟩
 refine oE (stpU_alloc 18 tz34 J) J ?_
 rintro _ _ ⟨b34, rfl, rfl⟩
 refine oC9 18 ts34 J J (ns (oB2 9 ts26 J (oA 0 u34 J ts26 J (oC9 18 ts26 J J (ns (oB9 18 ts34 J (oC9 2 ts34 J J (sn J (cw_ret ?_)))))))))
 obtain rfl := sI H0
 exact kr results120 (.cons (.cellN (us := [_, _, _, _, _, _, _, _, _]) ts34 J (Cells.box (id := 2) J 9 J)) (rT J)) [7, 8, 16, 17] (sl J o10 (sl J o14 (sl J o29 (sl J o33 ⟨J, J⟩))))

theorem c_s_l6Step (fl : Nat) (w : World) (m0 : Nat) (a0_0 : (List UInt8)) (a0_1 : Int) (a1 : Mc) (hn0_0_0 : n0_0_0 = (a0_0).length) (hr0_0_0 : RO w (hkeys [(0, [(m0, .cells #[.slice p0_0_0 n0_0_0 c0_0_0, I a0_1] 92 (0, 0))]), (1, C1_0), (2, C1_1), (3, C1_2), (4, C1_3)]) (RdL p0_0_0 c0_0_0 a0_0)) (hn1_0 : n1_0 = (a1.t.b).length) (ho1_0 : OwnC 3 p1_0 c1_0 a1.t.b C1_0) (hn1_1 : n1_1 = (a1.t.f).length) (ho1_1 : OwnC 74 p1_1 c1_1 a1.t.f C1_1) (hn1_2 : n1_2 = (a1.c.l).length) (ho1_2 : OwnC 66 p1_2 c1_2 a1.c.l C1_2) (hn1_3 : n1_3 = (a1.g.o).length) (ho1_3 : OwnC 108 p1_3 c1_3 a1.g.o C1_3) (hM : Sat w (hkeys [(0, [(m0, .cells #[.slice p0_0_0 n0_0_0 c0_0_0, I a0_1] 92 (0, 0))]), (1, C1_0), (2, C1_1), (3, C1_2), (4, C1_3)]) w [(0, [(m0, .cells #[.slice p0_0_0 n0_0_0 c0_0_0, I a0_1] 92 (0, 0))]), (1, C1_0), (2, C1_1), (3, C1_2), (4, C1_3)]) (r : Mc × Int) (H0 : s_l6Step fl a0_0 a0_1 a1 = some r) :
  Ct prog 93 [.pointer (some ⟨m0, 0, none⟩), .agg #[.slice p1_0 n1_0 c1_0, .slice p1_1 n1_1 c1_1, .slice p1_2 n1_2 c1_2, I a1.c.h, I a1.g.c, I a1.g.n, I a1.g.r, .slice p1_3 n1_3 c1_3, I a1.s]] w [(0, [(m0, .cells #[.slice p0_0_0 n0_0_0 c0_0_0, I a0_1] 92 (0, 0))]), (1, C1_0), (2, C1_1), (3, C1_2), (4, C1_3)] (fun rv h' => SL 3 r.1.t.b fun x5 y5 z5 C5 => SL 74 r.1.t.f fun x6 y6 z6 C6 => SL 66 r.1.c.l fun x7 y7 z7 C7 => SL 108 r.1.g.o fun x8 y8 z8 C8 => rv = .agg #[.slice x5 y5 z5, .slice x6 y6 z6, .slice x7 y7 z7, I r.1.c.h, I r.1.g.c, I r.1.g.n, I r.1.g.r, .slice x8 y8 z8, I r.1.s] ∧ h' = [(0, [(m0, .cells #[.slice p0_0_0 n0_0_0 c0_0_0, I r.2] 92 (0, 0))]), (1, []), (2, []), (3, []), (4, []), (5, C5), (6, C6), (7, C7), (8, C8)]) := by
 subst hn0_0_0 hn1_0 hn1_1 hn1_2 hn1_3
 unfold s_l6Step at H0
 refine ct_of_cw func93 J ntmps93 J hM ?_
 refine sr (oE (stpU_box 5 J J) J ?_)
 rintro _ _ ⟨b1, rfl, rfl⟩
 refine oE (stpU_alloc 6 tz34 J) J ?_
 rintro _ _ ⟨b2, rfl, rfl⟩
 refine ns (oB9 5 ts34 J (oE (stpU_alloc 7 tz34 J) J ?_))
 rintro _ _ ⟨b3, rfl, rfl⟩
 obtain ⟨x4, e4, H0⟩ := bS H0
 refine oC9 7 ts34 J J (ns (sq J (oM J (oE (uM (rq 0 8) cf49 (fun w hw hb => c_s_l12Rd_pick fl w m0 a0_0 a0_1 8 J (RO.passM hr0_0_0 hw hb) (hw.pass (js := [0]) ⟨0, [], J, J, trivial⟩ (by decide)) x4 e4) (yB J J) ⟨J, (pI (fun _ _ h => h.2) J), trivial⟩) J ?_))))
 rintro _ _ ⟨_, ⟨rfl, rfl⟩, rfl⟩
 refine nn (cw_block (sr (oQ J (sn J (cH J H0 (fun H0 => ?_) (fun H0 => ?_))))))
 ·refine rdt g_mixed (rn 0 10) ⟨[[5],[],[],[0,9],[1,2,3,4],[],[],[],[7]], [[],[],[9],[0],[11,12,13,14],[],[],[],[7]], [2,4]⟩ (dB9 5 ts34 J (dM J (dE J (fun hh => stpU_lit (sz := 1) (l := [0, 1, 2, 3]) [I 0, I 1, I 2, I 3] sl23 9 (sP J (sP J (sP J (sP J sE)))) J J J J J J J J J) ?_)))
  rintro _ _ ⟨p6, C7, rfl, rfl, o7⟩
  obtain ⟨x8, e8, H0⟩ := bS H0
  obtain ⟨x9, e9, H0⟩ := bS H0
  refine dk J (dV J (fun hh => uM (rq 0 10) cf18 (fun w hw hb => c_s_l12Rd_num fl w m0 a0_0 x4.2 ([0, 1, 2, 3]) J (RO.passM hr0_0_0 hw hb) (by simp) (OwnC.passM (id := 9) (hh _ _ J) o7 hw hb ⟨J, trivial⟩) (hw.pass (js := [0]) ⟨0, [], J, (hh _ _ J), trivial⟩ (by decide)) x8 e8) (yB J J) ⟨(hh _ _ J), (pI (fun _ _ h => h.2) J), trivial⟩) J (dE J (fun hh => uC 11 cf118 (fun w hw => c_s_EnterSpace fl w a1 x8.1 J (owp 1 (hh _ _ J) ho1_0 hw) J (owp 2 (hh _ _ J) ho1_1 hw) J (owp 3 (hh _ _ J) ho1_2 hw) J (owp 4 (hh _ _ J) ho1_3 hw) x9 e9) (yB J J)) ?_))
  rintro _ _ ⟨_, ⟨p10, _, c12, C13, rfl, o13, p14, _, c16, C17, rfl, o17, p18, _, c20, C21, rfl, o21, p22, _, c24, C25, rfl, o25, rfl, rfl⟩, rfl⟩
  refine dk J (dM J (dT J (dT J (dC9 7 ts34 J J J (dS J (dn (kb (csr (oM J (oK J (nn ?_)))))))))))
  refine cH J H0 (fun H0 => ?_) (fun H0 => ?_)
  ·refine sr (oB9 5 ts34 J (oC9 6 ts34 J J (nR (kA 15 (kA 16 (kA 17 (kA 18 ?_)))))))
   obtain rfl := sI H0
   exact kr results93 (rC9 6 ts34 J J) [0, 15, 16, 17, 18, 1, 2, 3, 4] (sl J ho1_0 (sl J ho1_1 (sl J ho1_2 (sl J ho1_3 ⟨J, J⟩))))
  refine ks (oB9 7 ts34 J (oC9 6 ts34 J J (nr (kA 19 (kA 20 (kA 21 (kA 22 ?_)))))))
  obtain rfl := sI H0
  exact kr results93 (rC9 6 ts34 J J) [0, 19, 20, 21, 22, 11, 12, 13, 14] (sl J o13 (sl J o17 (sl J o21 (sl J o25 ⟨J, J⟩))))
 obtain ⟨y28, ey28, H0⟩ := bS H0
 refine csr (oQ J (sn J (cw_join (ι := Unit) (fun _ => True) (fun _ => [(0, .pointer (some ⟨m0, 0, none⟩)), (3, .pointer (some ⟨b1, 0, none⟩)), (4, .pointer (some ⟨b2, 0, none⟩)), (5, .pointer (some ⟨b3, 0, none⟩)), (6, .bool false), (9, I x4.1), (20, .bool y28)]) (fun _ => [(0, [(m0, .cells #[.slice p0_0_0 ((a0_0).length) c0_0_0, I x4.2] 92 (0, 0))]), (1, C1_0), (2, C1_1), (3, C1_2), (4, C1_3), (5, [(b1, .cells #[.slice p1_0 ((a1.t.b).length) c1_0, .slice p1_1 ((a1.t.f).length) c1_1, .slice p1_2 ((a1.c.l).length) c1_2, I a1.c.h, I a1.g.c, I a1.g.n, I a1.g.r, .slice p1_3 ((a1.g.o).length) c1_3, I a1.s] 34 (0, 0))]), (6, [(b2, .cells #[sN, sN, sN, I 0, I 0, I 0, I 0, sN, I 0] 34 (0, 0))]), (7, [(b3, .cells #[.slice p1_0 ((a1.t.b).length) c1_0, .slice p1_1 ((a1.t.f).length) c1_1, .slice p1_2 ((a1.c.l).length) c1_2, I a1.c.h, I a1.g.c, I a1.g.n, I a1.g.r, .slice p1_3 ((a1.g.o).length) c1_3, I a1.s] 34 (0, 0))])]) ?_ (fun _ _ => ?_))))
 ·refine cw_cond J (fun h29 => ?_) (fun h29 => ?_)
  ·have ey28 := cond_t ey28 h29
   refine cw_skip ?_
   obtain rfl := sI ey28
   exact kw_join () trivial ⟨J, J, J, J, J, J, J, trivial⟩ ⟨J, J, J, J, J, J, J, J, trivial⟩
  have ey28 := cond_f ey28 h29
  refine sr (oQ J (sn J (cw_cond J (fun h30 => ?_) (fun h30 => ?_))))
  ·have ey28 := cond_t ey28 h30
   refine cw_skip ?_
   obtain rfl := sI ey28
   exact kw_join () trivial ⟨J, J, J, J, J, J, J, trivial⟩ ⟨J, J, J, J, J, J, J, J, trivial⟩
  have ey28 := cond_f ey28 h30
  refine cR (oQ J (oS J (ow_nil ?_)))
  obtain rfl := sI ey28
  exact kw_join () trivial ⟨J, J, J, J, J, J, J, trivial⟩ ⟨J, J, J, J, J, J, J, J, trivial⟩
 refine kw_nx (cH J H0 (fun H0 => ?_) (fun H0 => ?_))
 ·obtain ⟨x32, e32, H0⟩ := bS H0
  obtain ⟨x33, e33, H0⟩ := bS H0
  obtain ⟨x34, e34, H0⟩ := bS H0
  refine rdt g_mixed (rn 0 21) ⟨[[5],[],[0],[],[0],[],[],[],[],[5],[],[0],[],[],[0,26],[1,2,3,4],[],[],[],[7]], [[],[],[0],[],[0],[],[],[],[],[],[],[0],[],[26],[0],[28,29,30,31],[],[],[],[7]], [13,15]⟩ (dB9 5 ts34 J (dM J (dV J (fun hh => uM (rq 0 23) cf49 (fun w hw hb => c_s_l12Rd_pick fl w m0 a0_0 x4.2 3 J (RO.passM hr0_0_0 hw hb) (hw.pass (js := [0]) ⟨0, [], J, (hh _ _ J), trivial⟩ (by decide)) x32 e32) (yB J J) ⟨(hh _ _ J), (pI (fun _ _ h => h.2) J), trivial⟩) J (dM J (dV J (fun hh => uM (rq 0 24) cf50 (fun w hw hb => c_s_l6Page fl w m0 a0_0 x32.2 J (RO.passM hr0_0_0 hw hb) (hw.pass (js := [0]) ⟨0, [], J, (hh _ _ J), trivial⟩ (by decide)) x33 e33) (yA J) ⟨(hh _ _ J), (pI (fun _ _ h => h.2) J), trivial⟩) J (dV J (fun hh => uC 25 cf48 (fun w hw => c_s_KeyFor fl w x32.1 x33.1 x34 e34) (yB J J)) J ?_))))))
  obtain ⟨x35, e35, H0⟩ := bS H0
  refine dM J (dA 0 J u34 J ts26 J (dA 1 J u26 J ts24 J (dL 5 ts24 J (dD J (stp_len u24 J) (dV J (fun hh => uM (rq 0 25) cf49 (fun w hw hb => c_s_l12Rd_pick fl w m0 a0_0 x33.2 ((a1.t.f).length : Int) J (RO.passM hr0_0_0 hw hb) (hw.pass (js := [0]) ⟨0, [], J, (hh _ _ J), trivial⟩ (by decide)) x35 e35) (yB J J) ⟨(hh _ _ J), (pI (fun _ _ h => h.2) J), trivial⟩) J (dM J (dE J (fun hh => stpU_lit (sz := 1) (l := [3, 1, 7]) [I 3, I 1, I 7] sl23 26 (sP J (sP J (sP J sE))) J J J J J J J J J) ?_)))))))
  rintro _ _ ⟨p36, C37, rfl, rfl, o37⟩
  obtain ⟨x38, e38, H0⟩ := bS H0
  obtain ⟨x39, e39, H0⟩ := bS H0
  refine dk J (dV J (fun hh => uM (rq 0 27) cf18 (fun w hw hb => c_s_l12Rd_num fl w m0 a0_0 x35.2 ([3, 1, 7]) J (RO.passM hr0_0_0 hw hb) (by simp) (OwnC.passM (id := 26) (hh _ _ J) o37 hw hb ⟨J, trivial⟩) (hw.pass (js := [0]) ⟨0, [], J, (hh _ _ J), trivial⟩ (by decide)) x38 e38) (yB J J) ⟨(hh _ _ J), (pI (fun _ _ h => h.2) J), trivial⟩) J (dE J (fun hh => uC 28 cf119 (fun w hw => c_s_PutPage fl w a1 x34 x35.1 x38.1 J (owp 1 (hh _ _ J) ho1_0 hw) J (owp 2 (hh _ _ J) ho1_1 hw) J (owp 3 (hh _ _ J) ho1_2 hw) J (owp 4 (hh _ _ J) ho1_3 hw) x39 e39) (yD J J J J)) ?_))
  rintro _ _ ⟨_, ⟨p40, _, c42, C43, rfl, o43, p44, _, c46, C47, rfl, o47, p48, _, c50, C51, rfl, o51, p52, _, c54, C55, rfl, o55, rfl, rfl⟩, rfl⟩
  refine dk J (dM J (dT J (dT J (dC9 7 ts34 J J J (dS J (dn (kb (csr (oM J (oK J (nn ?_)))))))))))
  refine cH J H0 (fun H0 => ?_) (fun H0 => ?_)
  ·refine sr (oB9 5 ts34 J (oC9 6 ts34 J J (nR (kA 32 (kA 33 (kA 34 (kA 35 ?_)))))))
   obtain rfl := sI H0
   exact kr results93 (rC9 6 ts34 J J) [0, 32, 33, 34, 35, 1, 2, 3, 4] (sl J ho1_0 (sl J ho1_1 (sl J ho1_2 (sl J ho1_3 ⟨J, J⟩))))
  refine ks (oB9 7 ts34 J (oC9 6 ts34 J J (nr (kA 36 (kA 37 (kA 38 (kA 39 ?_)))))))
  obtain rfl := sI H0
  exact kr results93 (rC9 6 ts34 J J) [0, 36, 37, 38, 39, 28, 29, 30, 31] (sl J o43 (sl J o47 (sl J o51 (sl J o55 ⟨J, J⟩))))
 obtain ⟨y58, ey58, H0⟩ := bS H0
 refine csr (oQ J (sn J (cw_join (ι := Unit) (fun _ => True) (fun _ => [(0, .pointer (some ⟨m0, 0, none⟩)), (3, .pointer (some ⟨b1, 0, none⟩)), (4, .pointer (some ⟨b2, 0, none⟩)), (5, .pointer (some ⟨b3, 0, none⟩)), (6, .bool false), (9, I x4.1), (43, .bool y58)]) (fun _ => [(0, [(m0, .cells #[.slice p0_0_0 ((a0_0).length) c0_0_0, I x4.2] 92 (0, 0))]), (1, C1_0), (2, C1_1), (3, C1_2), (4, C1_3), (5, [(b1, .cells #[.slice p1_0 ((a1.t.b).length) c1_0, .slice p1_1 ((a1.t.f).length) c1_1, .slice p1_2 ((a1.c.l).length) c1_2, I a1.c.h, I a1.g.c, I a1.g.n, I a1.g.r, .slice p1_3 ((a1.g.o).length) c1_3, I a1.s] 34 (0, 0))]), (6, [(b2, .cells #[sN, sN, sN, I 0, I 0, I 0, I 0, sN, I 0] 34 (0, 0))]), (7, [(b3, .cells #[.slice p1_0 ((a1.t.b).length) c1_0, .slice p1_1 ((a1.t.f).length) c1_1, .slice p1_2 ((a1.c.l).length) c1_2, I a1.c.h, I a1.g.c, I a1.g.n, I a1.g.r, .slice p1_3 ((a1.g.o).length) c1_3, I a1.s] 34 (0, 0))])]) ?_ (fun _ _ => ?_))))
 ·refine cw_cond J (fun h59 => ?_) (fun h59 => ?_)
  ·have ey58 := cond_t ey58 h59
   refine cw_skip ?_
   obtain rfl := sI ey58
   exact kw_join () trivial ⟨J, J, J, J, J, J, J, trivial⟩ ⟨J, J, J, J, J, J, J, J, trivial⟩
  have ey58 := cond_f ey58 h59
  refine cR (oQ J (oS J (ow_nil ?_)))
  obtain rfl := sI ey58
  exact kw_join () trivial ⟨J, J, J, J, J, J, J, trivial⟩ ⟨J, J, J, J, J, J, J, J, trivial⟩
 refine kw_nx (cH J H0 (fun H0 => ?_) (fun H0 => ?_))
 ·obtain ⟨x61, e61, H0⟩ := bS H0
  refine rdt g_mixed (rn 0 14) ⟨[[5],[],[0],[],[],[0,41],[1,2,3,4],[],[],[],[],[],[7]], [[],[],[0],[],[41],[0],[43,44,45,46],[],[],[],[],[],[7]], [4,6]⟩ (dB9 5 ts34 J (dM J (dV J (fun hh => uM (rq 0 40) cf50 (fun w hw hb => c_s_l6Page fl w m0 a0_0 x4.2 J (RO.passM hr0_0_0 hw hb) (hw.pass (js := [0]) ⟨0, [], J, (hh _ _ J), trivial⟩ (by decide)) x61 e61) (yA J) ⟨(hh _ _ J), (pI (fun _ _ h => h.2) J), trivial⟩) J (dM J (dE J (fun hh => stpU_lit (sz := 1) (l := [1, 0, 2]) [I 1, I 0, I 2] sl23 41 (sP J (sP J (sP J sE))) J J J J J J J J J) ?_)))))
  rintro _ _ ⟨p62, C63, rfl, rfl, o63⟩
  obtain ⟨x64, e64, H0⟩ := bS H0
  obtain ⟨x65, e65, H0⟩ := bS H0
  refine dk J (dV J (fun hh => uM (rq 0 42) cf18 (fun w hw hb => c_s_l12Rd_num fl w m0 a0_0 x61.2 ([1, 0, 2]) J (RO.passM hr0_0_0 hw hb) (by simp) (OwnC.passM (id := 41) (hh _ _ J) o63 hw hb ⟨J, trivial⟩) (hw.pass (js := [0]) ⟨0, [], J, (hh _ _ J), trivial⟩ (by decide)) x64 e64) (yB J J) ⟨(hh _ _ J), (pI (fun _ _ h => h.2) J), trivial⟩) J (dE J (fun hh => uC 43 cf43 (fun w hw => c_s_TouchPage fl w a1 x61.1 x64.1 J (owp 1 (hh _ _ J) ho1_0 hw) J (owp 2 (hh _ _ J) ho1_1 hw) J (owp 3 (hh _ _ J) ho1_2 hw) J (owp 4 (hh _ _ J) ho1_3 hw) x65 e65) (yC J J J)) ?_))
  rintro _ _ ⟨_, ⟨p66, _, c68, C69, rfl, o69, p70, _, c72, C73, rfl, o73, p74, _, c76, C77, rfl, o77, p78, _, c80, C81, rfl, o81, rfl, rfl⟩, rfl⟩
  refine dk J (dM J (dT J (dT J (dT J (dT J (dC9 7 ts34 J J J (dS J (dn (kb (csr (oM J ?_)))))))))))
  refine oK J (nn (cH J H0 (fun H0 => ?_) (fun H0 => ?_)))
  ·refine sr (oB9 5 ts34 J (oC9 6 ts34 J J (nR (kA 47 (kA 48 (kA 49 (kA 50 ?_)))))))
   obtain rfl := sI H0
   exact kr results93 (rC9 6 ts34 J J) [0, 47, 48, 49, 50, 1, 2, 3, 4] (sl J ho1_0 (sl J ho1_1 (sl J ho1_2 (sl J ho1_3 ⟨J, J⟩))))
  refine ks (oB9 7 ts34 J (oC9 6 ts34 J J (nr (kA 51 (kA 52 (kA 53 (kA 54 ?_)))))))
  obtain rfl := sI H0
  exact kr results93 (rC9 6 ts34 J J) [0, 51, 52, 53, 54, 43, 44, 45, 46] (sl J o69 (sl J o73 (sl J o77 (sl J o81 ⟨J, J⟩))))
 refine sr (oQ J (sn J (cH J H0 (fun H0 => ?_) (fun H0 => ?_))))
 ·refine rdt g_mixed (rn 0 10) ⟨[[5],[],[],[0,55],[1,2,3,4],[],[],[],[7]], [[],[],[55],[0],[57,58,59,60],[],[],[],[7]], [2,4]⟩ (dB9 5 ts34 J (dM J (dE J (fun hh => stpU_lit (sz := 1) (l := [200, 201]) [I 200, I 201] sl23 55 (sP J (sP J sE)) J J J J J J J J J) ?_)))
  rintro _ _ ⟨p84, C85, rfl, rfl, o85⟩
  obtain ⟨x86, e86, H0⟩ := bS H0
  obtain ⟨x87, e87, H0⟩ := bS H0
  refine dk J (dV J (fun hh => uM (rq 0 56) cf18 (fun w hw hb => c_s_l12Rd_num fl w m0 a0_0 x4.2 ([200, 201]) J (RO.passM hr0_0_0 hw hb) (by simp) (OwnC.passM (id := 55) (hh _ _ J) o85 hw hb ⟨J, trivial⟩) (hw.pass (js := [0]) ⟨0, [], J, (hh _ _ J), trivial⟩ (by decide)) x86 e86) (yB J J) ⟨(hh _ _ J), (pI (fun _ _ h => h.2) J), trivial⟩) J (dE J (fun hh => uC 57 cf15 (fun w hw => c_s_WirePage fl w a1 x86.1 J (owp 1 (hh _ _ J) ho1_0 hw) J (owp 2 (hh _ _ J) ho1_1 hw) J (owp 3 (hh _ _ J) ho1_2 hw) J (owp 4 (hh _ _ J) ho1_3 hw) x87 e87) (yB J J)) ?_))
  rintro _ _ ⟨_, ⟨p88, _, c90, C91, rfl, o91, p92, _, c94, C95, rfl, o95, p96, _, c98, C99, rfl, o99, p100, _, c102, C103, rfl, o103, rfl, rfl⟩, rfl⟩
  refine dk J (dM J (dT J (dT J (dC9 7 ts34 J J J (dS J (dn (kb (csr (oM J (oK J (nn ?_)))))))))))
  refine cH J H0 (fun H0 => ?_) (fun H0 => ?_)
  ·refine sr (oB9 5 ts34 J (oC9 6 ts34 J J (nR (kA 61 (kA 62 (kA 63 (kA 64 ?_)))))))
   obtain rfl := sI H0
   exact kr results93 (rC9 6 ts34 J J) [0, 61, 62, 63, 64, 1, 2, 3, 4] (sl J ho1_0 (sl J ho1_1 (sl J ho1_2 (sl J ho1_3 ⟨J, J⟩))))
  refine ks (oB9 7 ts34 J (oC9 6 ts34 J J (nr (kA 65 (kA 66 (kA 67 (kA 68 ?_)))))))
  obtain rfl := sI H0
  exact kr results93 (rC9 6 ts34 J J) [0, 65, 66, 67, 68, 57, 58, 59, 60] (sl J o91 (sl J o95 (sl J o99 (sl J o103 ⟨J, J⟩))))
 refine sr (oQ J (sn J (cH J H0 (fun H0 => ?_) (fun H0 => ?_))))
 ·obtain ⟨x106, e106, H0⟩ := bS H0
  obtain ⟨x107, e107, H0⟩ := bS H0
  obtain ⟨x108, e108, H0⟩ := bS H0
  obtain ⟨x109, e109, H0⟩ := bS H0
  refine rdt g_mixed (rn 0 12) ⟨[[5],[],[0],[],[0],[],[1,2,3,4],[],[],[],[7]], [[],[],[0],[],[0],[],[71,72,73,74],[],[],[],[7]], [6]⟩ (dB9 5 ts34 J (dM J (dV J (fun hh => uM (rq 0 69) cf49 (fun w hw hb => c_s_l12Rd_pick fl w m0 a0_0 x4.2 3 J (RO.passM hr0_0_0 hw hb) (hw.pass (js := [0]) ⟨0, [], J, (hh _ _ J), trivial⟩ (by decide)) x106 e106) (yB J J) ⟨(hh _ _ J), (pI (fun _ _ h => h.2) J), trivial⟩) J (dM J (dV J (fun hh => uM (rq 0 70) cf50 (fun w hw hb => c_s_l6Page fl w m0 a0_0 x106.2 J (RO.passM hr0_0_0 hw hb) (hw.pass (js := [0]) ⟨0, [], J, (hh _ _ J), trivial⟩ (by decide)) x107 e107) (yA J) ⟨(hh _ _ J), (pI (fun _ _ h => h.2) J), trivial⟩) J (dV J (fun hh => uC 71 cf48 (fun w hw => c_s_KeyFor fl w x106.1 x107.1 x108 e108) (yB J J)) J (dE J (fun hh => uC 71 cf120 (fun w hw => c_s_TakePage fl w a1 x108 J (owp 1 (hh _ _ J) ho1_0 hw) J (owp 2 (hh _ _ J) ho1_1 hw) J (owp 3 (hh _ _ J) ho1_2 hw) J (owp 4 (hh _ _ J) ho1_3 hw) x109 e109) (yB J J)) ?_)))))))
  rintro _ _ ⟨_, ⟨p110, _, c112, C113, rfl, o113, p114, _, c116, C117, rfl, o117, p118, _, c120, C121, rfl, o121, p122, _, c124, C125, rfl, o125, rfl, rfl⟩, rfl⟩
  refine dk J (dM J (dT J (dT J (dC9 7 ts34 J J J (dS J (dn (kb (csr (oM J (oK J (nn ?_)))))))))))
  refine cH J H0 (fun H0 => ?_) (fun H0 => ?_)
  ·refine sr (oB9 5 ts34 J (oC9 6 ts34 J J (nR (kA 75 (kA 76 (kA 77 (kA 78 ?_)))))))
   obtain rfl := sI H0
   exact kr results93 (rC9 6 ts34 J J) [0, 75, 76, 77, 78, 1, 2, 3, 4] (sl J ho1_0 (sl J ho1_1 (sl J ho1_2 (sl J ho1_3 ⟨J, J⟩))))
  refine ks (oB9 7 ts34 J (oC9 6 ts34 J J (nr (kA 79 (kA 80 (kA 81 (kA 82 ?_)))))))
  obtain rfl := sI H0
  exact kr results93 (rC9 6 ts34 J J) [0, 79, 80, 81, 82, 71, 72, 73, 74] (sl J o113 (sl J o117 (sl J o121 (sl J o125 ⟨J, J⟩))))
 refine cw_skip (kb (csr (oM J (oK J (nn (cH J H0 (fun H0 => ?_) (fun H0 => ?_)))))))
 ·refine sr (oB9 5 ts34 J (oC9 6 ts34 J J (nR (kA 83 (kA 84 (kA 85 (kA 86 ?_)))))))
  obtain rfl := sI H0
  exact kr results93 (rC9 6 ts34 J J) [0, 83, 84, 85, 86, 1, 2, 3, 4] (sl J ho1_0 (sl J ho1_1 (sl J ho1_2 (sl J ho1_3 ⟨J, J⟩))))
 refine ks (oB9 7 ts34 J (oC9 6 ts34 J J (nr (kA 87 (kA 88 (kA 89 (kA 90 ?_)))))))
 obtain rfl := sI H0
 exact kr results93 (rC9 6 ts34 J J) [0, 87, 88, 89, 90, 1, 2, 3, 4] (sl J ho1_0 (sl J ho1_1 (sl J ho1_2 (sl J ho1_3 ⟨J, J⟩))))

theorem c_s_l6Draw (fl : Nat) (w : World) (m0 : Nat) (a0_0 : (List UInt8)) (a0_1 : Int) (hn0_0_0 : n0_0_0 = (a0_0).length) (hr0_0_0 : RO w (hkeys [(0, [(m0, .cells #[.slice p0_0_0 n0_0_0 c0_0_0, I a0_1] 92 (0, 0))])]) (RdL p0_0_0 c0_0_0 a0_0)) (hM : Sat w (hkeys [(0, [(m0, .cells #[.slice p0_0_0 n0_0_0 c0_0_0, I a0_1] 92 (0, 0))])]) w [(0, [(m0, .cells #[.slice p0_0_0 n0_0_0 c0_0_0, I a0_1] 92 (0, 0))])]) (r : Mc × Int) (H0 : s_l6Draw fl a0_0 a0_1 = some r) :
  Ct prog 46 [.pointer (some ⟨m0, 0, none⟩)] w [(0, [(m0, .cells #[.slice p0_0_0 n0_0_0 c0_0_0, I a0_1] 92 (0, 0))])] (fun rv h' => SL 3 r.1.t.b fun x1 y1 z1 C1 => SL 74 r.1.t.f fun x2 y2 z2 C2 => SL 66 r.1.c.l fun x3 y3 z3 C3 => SL 108 r.1.g.o fun x4 y4 z4 C4 => rv = .agg #[.slice x1 y1 z1, .slice x2 y2 z2, .slice x3 y3 z3, I r.1.c.h, I r.1.g.c, I r.1.g.n, I r.1.g.r, .slice x4 y4 z4, I r.1.s] ∧ h' = [(0, [(m0, .cells #[.slice p0_0_0 n0_0_0 c0_0_0, I r.2] 92 (0, 0))]), (1, C1), (2, C2), (3, C3), (4, C4)]) := by
 subst hn0_0_0
 unfold s_l6Draw at H0
 refine ct_of_cw func46 J ntmps46 J hM ?_
 refine sr (oE (stpU_alloc 1 tz34 J) J ?_)
 rintro _ _ ⟨b1, rfl, rfl⟩
 refine ns (oM J (oE (stpU_lit (sz := 1) (l := [6, 4, 8]) [I 6, I 4, I 8] sl23 2 (sP J (sP J (sP J sE))) J J J J J J J J J) J ?_))
 rintro _ _ ⟨p2, C3, rfl, rfl, o3⟩
 obtain ⟨x4, e4, H0⟩ := bS H0
 refine oE (uM (rq 0 3) cf18 (fun w hw hb => c_s_l12Rd_num fl w m0 a0_0 a0_1 ([6, 4, 8]) J (RO.passM hr0_0_0 hw hb) (by simp) (OwnC.passM (id := 2) J o3 hw hb ⟨J, trivial⟩) (hw.pass (js := [0]) ⟨0, [], J, J, trivial⟩ (by decide)) x4 e4) (yB J J) ⟨J, (pI (fun _ _ h => h.2) J), trivial⟩) J ?_
 rintro _ _ ⟨_, ⟨rfl, rfl⟩, rfl⟩
 refine oM J (oE (stpU_lit (sz := 1) (l := [4, 2, 1]) [I 4, I 2, I 1] sl23 4 (sP J (sP J (sP J sE))) J J J J J J J J J) J ?_)
 rintro _ _ ⟨p5, C6, rfl, rfl, o6⟩
 obtain ⟨x7, e7, H0⟩ := bS H0
 refine oE (uM (rq 0 5) cf18 (fun w hw hb => c_s_l12Rd_num fl w m0 a0_0 x4.2 ([4, 2, 1]) J (RO.passM hr0_0_0 hw hb) (by simp) (OwnC.passM (id := 4) J o6 hw hb ⟨J, trivial⟩) (hw.pass (js := [0]) ⟨0, [], J, J, trivial⟩ (by decide)) x7 e7) (yB J J) ⟨J, (pI (fun _ _ h => h.2) J), trivial⟩) J ?_
 rintro _ _ ⟨_, ⟨rfl, rfl⟩, rfl⟩
 refine oM J (oE (stpU_lit (sz := 1) (l := [3, 2, 4, 1]) [I 3, I 2, I 4, I 1] sl23 6 (sP J (sP J (sP J (sP J sE)))) J J J J J J J J J) J ?_)
 rintro _ _ ⟨p8, C9, rfl, rfl, o9⟩
 obtain ⟨x10, e10, H0⟩ := bS H0
 refine oE (uM (rq 0 7) cf18 (fun w hw hb => c_s_l12Rd_num fl w m0 a0_0 x7.2 ([3, 2, 4, 1]) J (RO.passM hr0_0_0 hw hb) (by simp) (OwnC.passM (id := 6) J o9 hw hb ⟨J, trivial⟩) (hw.pass (js := [0]) ⟨0, [], J, J, trivial⟩ (by decide)) x10 e10) (yB J J) ⟨J, (pI (fun _ _ h => h.2) J), trivial⟩) J ?_
 rintro _ _ ⟨_, ⟨rfl, rfl⟩, rfl⟩
 refine oM J (oE (stpU_lit (sz := 1) (l := [2, 3, 1]) [I 2, I 3, I 1] sl23 8 (sP J (sP J (sP J sE))) J J J J J J J J J) J ?_)
 rintro _ _ ⟨p11, C12, rfl, rfl, o12⟩
 obtain ⟨x13, e13, H0⟩ := bS H0
 refine oE (uM (rq 0 9) cf18 (fun w hw hb => c_s_l12Rd_num fl w m0 a0_0 x10.2 ([2, 3, 1]) J (RO.passM hr0_0_0 hw hb) (by simp) (OwnC.passM (id := 8) J o12 hw hb ⟨J, trivial⟩) (hw.pass (js := [0]) ⟨0, [], J, J, trivial⟩ (by decide)) x13 e13) (yB J J) ⟨J, (pI (fun _ _ h => h.2) J), trivial⟩) J ?_
 rintro _ _ ⟨_, ⟨rfl, rfl⟩, rfl⟩
 obtain ⟨x14, e14, H0⟩ := bS H0
 refine oE (uC 10 cf92 (fun w hw => c_s_NewMachine fl w x4.1 x7.1 x10.1 x13.1 x14 e14) (yD J J J J)) J ?_
 rintro _ _ ⟨_, ⟨p15, _, c17, C18, rfl, o18, p19, _, c21, C22, rfl, o22, p23, _, c25, C26, rfl, o26, p27, _, c29, C30, rfl, o30, rfl, rfl⟩, rfl⟩
 refine oMTT J J J (oE (stpU_alloc 14 tz34 J) J ?_)
 rintro _ _ ⟨b31, rfl, rfl⟩
 obtain ⟨x32, e32, H0⟩ := bS H0
 refine oC9 14 ts34 J J (sq J (oM J (oE (uM (rq 0 15) cf49 (fun w hw hb => c_s_l12Rd_pick fl w m0 a0_0 x13.2 10 J (RO.passM hr0_0_0 hw hb) (hw.pass (js := [0]) ⟨0, [], J, J, trivial⟩ (by decide)) x32 e32) (yB J J) ⟨J, (pI (fun _ _ h => h.2) J), trivial⟩) J ?_)))
 rintro _ _ ⟨_, ⟨rfl, rfl⟩, rfl⟩
 obtain ⟨x33, e33, H0⟩ := bS H0
 obtain ⟨o0_0, eo0_0, H0⟩ := bS H0
 refine oP e33 J (sn J (lp (fun f a b c d e g i j k l m => s_l6Draw_L0 fl a0_0 f a b c d e g i j k l m = some o0_0) (fun a b c d e g i j k l m => o0_0 = .out (a, b, c, d, e, g, i, j, k, l, m)) (fun R s h => ∃ v34 v35 v40 v45 v50 v51 v52 v53 v54 v59 v60 p36 n37 c38 C39 p41 n42 c43 C44 p46 n47 c48 C49 p55 n56 c57 C58, R v34 v35 v40 v45 v50 v51 v52 v53 v54 v59 v60 ∧ s = [(0, .pointer (some ⟨m0, 0, none⟩)), (2, .pointer (some ⟨b1, 0, none⟩)), (3, .pointer (some ⟨b31, 0, none⟩)), (5, I v60)] ∧ h = [(0, [(m0, .cells #[.slice p0_0_0 ((a0_0).length) c0_0_0, I v34] 92 (0, 0))]), (1, [(b1, .cells #[sN, sN, sN, I 0, I 0, I 0, I 0, sN, I 0] 34 (0, 0))]), (10, C39), (11, C44), (12, C49), (13, C58), (14, [(b31, .cells #[.slice p36 n37 c38, .slice p41 n42 c43, .slice p46 n47 c48, I v50, I v51, I v52, I v53, .slice p55 n56 c57, I v59] 34 (0, 0))])] ∧ n37 = (v35).length ∧ OwnC 3 p36 c38 v35 C39 ∧ n42 = (v40).length ∧ OwnC 74 p41 c43 v40 C44 ∧ n47 = (v45).length ∧ OwnC 66 p46 c48 v45 C49 ∧ n56 = (v54).length ∧ OwnC 108 p55 c57 v54 C58) ⟨_, _, _, _, _, _, _, _, _, _, _, p15, ((x14.1.t.b).length), c17, C18, p19, ((x14.1.t.f).length), c21, C22, p23, ((x14.1.c.l).length), c25, C26, p27, ((x14.1.g.o).length), c29, C30, eo0_0, J, J, J, o18, J, o22, J, o26, J, o30⟩ ?_ ?_))
 ·rintro fuel _ _ ⟨v34, v35, v40, v45, v50, v51, v52, v53, v54, v59, v60, p36, _, c38, C39, p41, _, c43, C44, p46, _, c48, C49, p55, _, c57, C58, H1, rfl, rfl, rfl, o39, rfl, o44, rfl, o49, rfl, o58⟩
  rcases fuel with _ | fuel
  ·rw [s_l6Draw_L0.eq_1] at H1; cases H1
  rw [s_l6Draw_L0.eq_2] at H1
  refine csr (oM J (oJ J (nn (cH J H1 (fun H1 => ?_) (fun H1 => ?_)))))
  ·obtain ⟨x62, e62, H1⟩ := bS H1
   refine kq (cw_block (cR (oM J (oB9 14 ts34 J (oE (uM (fun i => bif Nat.beq i 0 then 0 else bif Nat.beq i 1 then 10 else bif Nat.beq i 2 then 11 else bif Nat.beq i 3 then 12 else bif Nat.beq i 4 then 13 else 16 + i) cf93 (fun w hw hb => c_s_l6Step fl w m0 a0_0 v34 (⟨(⟨v35, v40⟩ : T), (⟨v45, v50⟩ : Ca), (⟨v51, v52, v53, v54⟩ : Tg), v59⟩ : Mc) J (RO.passM hr0_0_0 hw hb) J o39 J o44 J o49 J o58 (hw.pass (js := [0, 10, 11, 12, 13]) ⟨0, [10, 11, 12, 13], J, J, 10, [11, 12, 13], J, J, 11, [12, 13], J, J, 12, [13], J, J, 13, [], J, J, trivial⟩ (by decide)) x62 e62) (yB J J) ⟨J, (fun _ _ hp => by obtain ⟨_, _, _, _, _, _, _, _, _, _, _, _, _, _, _, _, _, _, _, _, _, _, _, _, _, rfl⟩ := hp; exact ⟨_, J⟩), J, (fun _ _ hp => by obtain ⟨_, _, _, _, _, _, _, _, _, _, _, _, _, _, _, _, _, _, _, _, _, _, _, _, _, rfl⟩ := hp; exact ⟨_, J⟩), J, (fun _ _ hp => by obtain ⟨_, _, _, _, _, _, _, _, _, _, _, _, _, _, _, _, _, _, _, _, _, _, _, _, _, rfl⟩ := hp; exact ⟨_, J⟩), J, (fun _ _ hp => by obtain ⟨_, _, _, _, _, _, _, _, _, _, _, _, _, _, _, _, _, _, _, _, _, _, _, _, _, rfl⟩ := hp; exact ⟨_, J⟩), J, (fun _ _ hp => by obtain ⟨_, _, _, _, _, _, _, _, _, _, _, _, _, _, _, _, _, _, _, _, _, _, _, _, _, rfl⟩ := hp; exact ⟨_, J⟩), trivial⟩) J ?_)))))
   rintro _ _ ⟨_, ⟨p63, _, c65, C66, rfl, o66, p67, _, c69, C70, rfl, o70, p71, _, c73, C74, rfl, o74, p75, _, c77, C78, rfl, o78, rfl, rfl⟩, rfl⟩
   obtain ⟨x79, e79, H1⟩ := bS H1
   exact oC9 14 ts34 J J (ow_nil (kb (cR (oM J (oD (stp_sub J J e79) J (oS J (ow_nil (kaS [0, 1, 21, 22, 23, 24, 14] ⟨_, _, _, _, _, _, _, _, _, _, _, p63, ((x62.1.t.b).length), c65, C66, p67, ((x62.1.t.f).length), c69, C70, p71, ((x62.1.c.l).length), c73, C74, p75, ((x62.1.g.o).length), c77, C78, H1, J, J, J, o66, J, o70, J, o74, J, o78⟩))))))))
  refine cw_exit (kw_nx_exit (ax (kw_bl ?_)))
  obtain rfl := sI H1
  exact kx ⟨_, _, _, _, _, _, _, _, _, _, _, p36, ((v35).length), c38, C39, p41, ((v40).length), c43, C44, p46, ((v45).length), c48, C49, p55, ((v54).length), c57, C58, J, J, J, J, o39, J, o44, J, o49, J, o58⟩
 rintro _ _ ⟨v34, v35, v40, v45, v50, v51, v52, v53, v54, v59, v60, p36, _, c38, C39, p41, _, c43, C44, p46, _, c48, C49, p55, _, c57, C58, rfl, rfl, rfl, rfl, o39, rfl, o44, rfl, o49, rfl, o58⟩
 refine kw_nx (sr (oB9 14 ts34 J (oC9 1 ts34 J J (nn (cw_ret ?_)))))
 obtain rfl := sI H0
 exact kr results46 (rC9 1 ts34 J J) [0, 10, 11, 12, 13] (sl J o39 (sl J o44 (sl J o49 (sl J o58 ⟨J, J⟩))))

theorem c_s_l4Wrong (fl : Nat) (w : World) (m0 : Nat) (a0_0 : (List UInt8)) (a0_1 : Int) (a1 : Ca) (hn0_0_0 : n0_0_0 = (a0_0).length) (hr0_0_0 : RO w (hkeys [(0, [(m0, .cells #[.slice p0_0_0 n0_0_0 c0_0_0, I a0_1] 92 (0, 0))])]) (RdL p0_0_0 c0_0_0 a0_0)) (hn1_0 : n1_0 = (a1.l).length) (hr1_0 : RO w (hkeys [(0, [(m0, .cells #[.slice p0_0_0 n0_0_0 c0_0_0, I a0_1] 92 (0, 0))])]) (RdL p1_0 c1_0 a1.l)) (hM : Sat w (hkeys [(0, [(m0, .cells #[.slice p0_0_0 n0_0_0 c0_0_0, I a0_1] 92 (0, 0))])]) w [(0, [(m0, .cells #[.slice p0_0_0 n0_0_0 c0_0_0, I a0_1] 92 (0, 0))])]) (r : Ca × Int) (H0 : s_l4Wrong fl a0_0 a0_1 a1 = some r) :
  Ct prog 95 [.pointer (some ⟨m0, 0, none⟩), .agg #[.slice p1_0 n1_0 c1_0, I a1.h]] w [(0, [(m0, .cells #[.slice p0_0_0 n0_0_0 c0_0_0, I a0_1] 92 (0, 0))])] (fun rv h' => SL 66 r.1.l fun x1 y1 z1 C1 => rv = .agg #[.slice x1 y1 z1, I r.1.h] ∧ h' = [(0, [(m0, .cells #[.slice p0_0_0 n0_0_0 c0_0_0, I r.2] 92 (0, 0))]), (1, C1)]) := by
 subst hn0_0_0 hn1_0
 unfold s_l4Wrong at H0
 refine ct_of_cw func95 J ntmps95 J hM ?_
 refine sr (oE (stpU_box 1 J J) J ?_)
 rintro _ _ ⟨b1, rfl, rfl⟩
 refine oE (stpU_alloc 2 tz29 J) J ?_
 rintro _ _ ⟨b2, rfl, rfl⟩
 obtain ⟨x3, e3, H0⟩ := bS H0
 refine ns (oB2 1 ts29 J (oE (uC 3 cf90 (fun w hw => c_s_l4Copy fl w a1 J (rp hr1_0 hw) x3 e3) (yA J)) J ?_))
 rintro _ _ ⟨_, ⟨p4, _, c6, C7, rfl, o7, rfl, rfl⟩, rfl⟩
 refine oE (stpU_alloc 4 tz29 J) J ?_
 rintro _ _ ⟨b8, rfl, rfl⟩
 refine oC2 4 ts29 J J (nq (oAL 0 u29 J ts27 J 4 J (oD (stp_len u27 J) J (oQ J (nn (cH J H0 (fun H0 => ?_) (fun H0 => ?_)))))))
 ·refine sr (oB2 4 ts29 J (oC2 2 ts29 J J (nr (kR ?_))))
  obtain rfl := sI H0
  exact kr results95 (rC2 2 ts29 J J) [0, 3] (sl J o7 ⟨J, J⟩)
 obtain ⟨x10, e10, H0⟩ := bS H0
 refine ks (oM J (oAL 0 u29 J ts27 J 4 J (oD (stp_len u27 J) J (oE (uM (rq 0 5) cf49 (fun w hw hb => c_s_l12Rd_pick fl w m0 a0_0 a0_1 ((x3.l).length : Int) J (RO.passM hr0_0_0 hw hb) (hw.pass (js := [0]) ⟨0, [], J, J, trivial⟩ (by decide)) x10 e10) (yB J J) ⟨J, (pI (fun _ _ h => h.2) J), trivial⟩) J ?_))))
 rintro _ _ ⟨_, ⟨rfl, rfl⟩, rfl⟩
 obtain ⟨x11, e11, H0⟩ := bS H0
 refine sq J (oM J (oE (uM (rq 0 6) cf49 (fun w hw hb => c_s_l12Rd_pick fl w m0 a0_0 x10.2 24 J (RO.passM hr0_0_0 hw hb) (hw.pass (js := [0]) ⟨0, [], J, J, trivial⟩ (by decide)) x11 e11) (yB J J) ⟨J, (pI (fun _ _ h => h.2) J), trivial⟩) J ?_))
 rintro _ _ ⟨_, ⟨rfl, rfl⟩, rfl⟩
 refine nn (cw_block (sr (oQ J (sn J (cH J H0 (fun H0 => ?_) (fun H0 => ?_))))))
 ·refine cR (oM J (oE (stpU_lit (sz := 1) (l := [(-1), 8, 0]) [I (-1), I 8, I 0] sl23 7 (sP J (sP J (sP J sE))) J J J J J J J J J) J ?_))
  rintro _ _ ⟨p13, C14, rfl, rfl, o14⟩
  obtain ⟨x15, e15, H0⟩ := bS H0
  refine oE (uM (rq 0 8) cf18 (fun w hw hb => c_s_l12Rd_num fl w m0 a0_0 x11.2 ([(-1), 8, 0]) J (RO.passM hr0_0_0 hw hb) (by simp) (OwnC.passM (id := 7) J o14 hw hb ⟨J, trivial⟩) (hw.pass (js := [0]) ⟨0, [], J, J, trivial⟩ (by decide)) x15 e15) (yB J J) ⟨J, (pI (fun _ _ h => h.2) J), trivial⟩) J ?_
  rintro _ _ ⟨_, ⟨rfl, rfl⟩, rfl⟩
  refine oA 1 u29 J ts3 J (oC2 4 ts3 J J (ow_nil (kb (sr (oB2 4 ts29 J (oC2 2 ts29 J J (nn (cw_ret ?_))))))))
  obtain rfl := sI H0
  exact kr results95 (rC2 2 ts29 J J) [0, 3] (sl J o7 ⟨J, J⟩)
 refine sr (oQ J (sn J (cH J H0 (fun H0 => ?_) (fun H0 => ?_))))
 ·obtain ⟨x17, e17, H0⟩ := bS H0
  refine rdt g_mixed (rn 0 13) ⟨[[],[4],[],[],[4],[],[3],[],[3],[],[3],[],[3]], [[],[],[],[],[],[],[],[],[],[],[],[],[3]], [12]⟩ (dA 0 J u29 J ts27 J (dL 4 ts27 J (dM J (dA 0 J u29 J ts27 J (dL 4 ts27 J (dM J (dD J (stp_indexAddr u27 ts66 (by decide) J J J (Rdb.own (id := 3) J o7) e17) (dA 0 J u66 J ts4 J (dD J (stp_load1 ts4 J (Cells.el (Rdb.own (id := 3) J o7) (by decide) e17 0 1 J)) (dK J (dD J (stp_indexAddr u27 ts66 (by decide) J J J (Rdb.own (id := 3) J o7) e17) (dA 0 J u66 J ts4 J (dF J (fun hh => stpU_storeEl (id := 3) (i := 0) (⟨(!x17.va), x17.tg, x17.pg, x17.fr, x17.ri, x17.wi⟩ : Ln) (by decide) ts4 J J (hh _ _ J) o7 e17 J J J J) ?_)))))))))))))
  rintro _ _ ⟨C18, rfl, o18⟩
  refine dk J (dn (kb (sr (oB2 4 ts29 J (oC2 2 ts29 J J (nn (cw_ret ?_)))))))
  obtain rfl := sI H0
  exact kr results95 (rC2 2 ts29 J J) [0, 3] (sl (by simp) o18 ⟨J, J⟩)
 refine sr (oQ J (sn J (cH J H0 (fun H0 => ?_) (fun H0 => ?_))))
 ·refine rdt g_mixed (rn 0 9) ⟨[[],[4],[],[],[],[0,9],[3],[],[3]], [[],[],[],[],[9],[0],[],[],[3]], [4,8]⟩ (dA 0 J u29 J ts27 J (dL 4 ts27 J (dM J (dM J (dE J (fun hh => stpU_lit (sz := 1) (l := [2, 256, 3]) [I 2, I 256, I 3] sl23 9 (sP J (sP J (sP J sE))) J J J J J J J J J) ?_)))))
  rintro _ _ ⟨p20, C21, rfl, rfl, o21⟩
  obtain ⟨x22, e22, H0⟩ := bS H0
  obtain ⟨x23, e23, H0⟩ := bS H0
  refine dk J (dV J (fun hh => uM (rq 0 10) cf18 (fun w hw hb => c_s_l12Rd_num fl w m0 a0_0 x11.2 ([2, 256, 3]) J (RO.passM hr0_0_0 hw hb) (by simp) (OwnC.passM (id := 9) (hh _ _ J) o21 hw hb ⟨J, trivial⟩) (hw.pass (js := [0]) ⟨0, [], J, (hh _ _ J), trivial⟩ (by decide)) x22 e22) (yB J J) ⟨(hh _ _ J), (pI (fun _ _ h => h.2) J), trivial⟩) J (dD J (stp_indexAddr u27 ts66 (by decide) J J J (Rdb.own (id := 3) J o7) e23) (dA 2 J u66 J ts3 J (dF J (fun hh => stpU_storeEl (id := 3) (i := 2) (⟨x23.va, x23.tg, x22.1, x23.fr, x23.ri, x23.wi⟩ : Ln) (by decide) ts3 J J (hh _ _ J) o7 e23 J J J J) ?_))))
  rintro _ _ ⟨C24, rfl, o24⟩
  refine dk J (dn (kb (sr (oB2 4 ts29 J (oC2 2 ts29 J J (nn (cw_ret ?_)))))))
  obtain rfl := sI H0
  exact kr results95 (rC2 2 ts29 J J) [0, 3] (sl (by simp) o24 ⟨J, J⟩)
 refine sr (oQ J (sn J (cH J H0 (fun H0 => ?_) (fun H0 => ?_))))
 ·refine rdt g_mixed (rn 0 9) ⟨[[],[4],[],[],[],[0,11],[3],[],[3]], [[],[],[],[],[11],[0],[],[],[3]], [4,8]⟩ (dA 0 J u29 J ts27 J (dL 4 ts27 J (dM J (dM J (dE J (fun hh => stpU_lit (sz := 1) (l := [8, (-2), 0, (-1)]) [I 8, I (-2), I 0, I (-1)] sl23 11 (sP J (sP J (sP J (sP J sE)))) J J J J J J J J J) ?_)))))
  rintro _ _ ⟨p26, C27, rfl, rfl, o27⟩
  obtain ⟨x28, e28, H0⟩ := bS H0
  obtain ⟨x29, e29, H0⟩ := bS H0
  refine dk J (dV J (fun hh => uM (rq 0 12) cf18 (fun w hw hb => c_s_l12Rd_num fl w m0 a0_0 x11.2 ([8, (-2), 0, (-1)]) J (RO.passM hr0_0_0 hw hb) (by simp) (OwnC.passM (id := 11) (hh _ _ J) o27 hw hb ⟨J, trivial⟩) (hw.pass (js := [0]) ⟨0, [], J, (hh _ _ J), trivial⟩ (by decide)) x28 e28) (yB J J) ⟨(hh _ _ J), (pI (fun _ _ h => h.2) J), trivial⟩) J (dD J (stp_indexAddr u27 ts66 (by decide) J J J (Rdb.own (id := 3) J o7) e29) (dA 1 J u66 J ts3 J (dF J (fun hh => stpU_storeEl (id := 3) (i := 1) (⟨x29.va, x28.1, x29.pg, x29.fr, x29.ri, x29.wi⟩ : Ln) (by decide) ts3 J J (hh _ _ J) o7 e29 J J J J) ?_))))
  rintro _ _ ⟨C30, rfl, o30⟩
  refine dk J (dn (kb (sr (oB2 4 ts29 J (oC2 2 ts29 J J (nn (cw_ret ?_)))))))
  obtain rfl := sI H0
  exact kr results95 (rC2 2 ts29 J J) [0, 3] (sl (by simp) o30 ⟨J, J⟩)
 refine sr (oQ J (sn J (cH J H0 (fun H0 => ?_) (fun H0 => ?_))))
 ·refine cR (oE (stpU_lit0 sl27 13) J ?_)
  rintro _ _ ⟨p32, C33, rfl, rfl, o33⟩
  refine oA 0 u29 J ts27 J (oC2 4 ts27 J J (ow_nil (kb (sr (oB2 4 ts29 J (oC2 2 ts29 J J (nn (cw_ret ?_))))))))
  obtain rfl := sI H0
  exact kr results95 (rC2 2 ts29 J J) [0, 13] (sl (by simp) o33 ⟨J, J⟩)
 refine cw_skip (kb (sr (oB2 4 ts29 J (oC2 2 ts29 J J (nn (cw_ret ?_))))))
 obtain rfl := sI H0
 exact kr results95 (rC2 2 ts29 J J) [0, 3] (sl J o7 ⟨J, J⟩)

theorem c_s_l2Draw (fl : Nat) (w : World) (m0 : Nat) (a0_0 : (List UInt8)) (a0_1 : Int) (hn0_0_0 : n0_0_0 = (a0_0).length) (hr0_0_0 : RO w (hkeys [(0, [(m0, .cells #[.slice p0_0_0 n0_0_0 c0_0_0, I a0_1] 92 (0, 0))])]) (RdL p0_0_0 c0_0_0 a0_0)) (hM : Sat w (hkeys [(0, [(m0, .cells #[.slice p0_0_0 n0_0_0 c0_0_0, I a0_1] 92 (0, 0))])]) w [(0, [(m0, .cells #[.slice p0_0_0 n0_0_0 c0_0_0, I a0_1] 92 (0, 0))])]) (r : K × Int) (H0 : s_l2Draw fl a0_0 a0_1 = some r) :
  Ct prog 121 [.pointer (some ⟨m0, 0, none⟩)] w [(0, [(m0, .cells #[.slice p0_0_0 n0_0_0 c0_0_0, I a0_1] 92 (0, 0))])] (fun rv h' => rv = .agg #[I r.1.s, I r.1.p] ∧ h' = [(0, [(m0, .cells #[.slice p0_0_0 n0_0_0 c0_0_0, I r.2] 92 (0, 0))])]) := by
 subst hn0_0_0
 unfold s_l2Draw at H0
 refine ct_of_cw func121 J ntmps121 J hM ?_
 refine sr (oE (stpU_alloc 1 tz36 J) J ?_)
 rintro _ _ ⟨b1, rfl, rfl⟩
 refine ns (oM J (oE (stpU_lit (sz := 1) (l := [0, 1, 2, 3, 1]) [I 0, I 1, I 2, I 3, I 1] sl23 2 (sP J (sP J (sP J (sP J (sP J sE))))) J J J J J J J J J) J ?_))
 rintro _ _ ⟨p2, C3, rfl, rfl, o3⟩
 obtain ⟨x4, e4, H0⟩ := bS H0
 refine oE (uM (rq 0 3) cf18 (fun w hw hb => c_s_l12Rd_num fl w m0 a0_0 a0_1 ([0, 1, 2, 3, 1]) J (RO.passM hr0_0_0 hw hb) (by simp) (OwnC.passM (id := 2) J o3 hw hb ⟨J, trivial⟩) (hw.pass (js := [0]) ⟨0, [], J, J, trivial⟩ (by decide)) x4 e4) (yB J J) ⟨J, (pI (fun _ _ h => h.2) J), trivial⟩) J ?_
 rintro _ _ ⟨_, ⟨rfl, rfl⟩, rfl⟩
 refine oM J (oE (stpU_lit (sz := 1) (l := [0, 1, 2, 3, 4, 5, 100, 255]) [I 0, I 1, I 2, I 3, I 4, I 5, I 100, I 255] sl23 4 (sP J (sP J (sP J (sP J (sP J (sP J (sP J (sP J sE)))))))) J J J J J J J J J) J ?_)
 rintro _ _ ⟨p5, C6, rfl, rfl, o6⟩
 obtain ⟨x7, e7, H0⟩ := bS H0
 refine oE (uM (rq 0 5) cf18 (fun w hw hb => c_s_l12Rd_num fl w m0 a0_0 x4.2 ([0, 1, 2, 3, 4, 5, 100, 255]) J (RO.passM hr0_0_0 hw hb) (by simp) (OwnC.passM (id := 4) J o6 hw hb ⟨J, trivial⟩) (hw.pass (js := [0]) ⟨0, [], J, J, trivial⟩ (by decide)) x7 e7) (yB J J) ⟨J, (pI (fun _ _ h => h.2) J), trivial⟩) J ?_
 rintro _ _ ⟨_, ⟨rfl, rfl⟩, rfl⟩
 refine oD (stp_build (cs := #[I x4.1, I x7.1]) (sP J (sP J sE)) bt36_13) J (oC2 1 ts36 J J (nn (cw_ret ?_)))
 obtain rfl := sI H0
 exact kr results121 (rC2 1 ts36 J J) [0] ⟨J, J⟩

theorem c_s_l3Wrong (fl : Nat) (w : World) (m0 : Nat) (a0_0 : (List UInt8)) (a0_1 : Int) (a1 : T) (hn0_0_0 : n0_0_0 = (a0_0).length) (hr0_0_0 : RO w (hkeys [(0, [(m0, .cells #[.slice p0_0_0 n0_0_0 c0_0_0, I a0_1] 92 (0, 0))])]) (RdL p0_0_0 c0_0_0 a0_0)) (hn1_0 : n1_0 = (a1.b).length) (hr1_0 : RO w (hkeys [(0, [(m0, .cells #[.slice p0_0_0 n0_0_0 c0_0_0, I a0_1] 92 (0, 0))])]) (RdL p1_0 c1_0 a1.b)) (hn1_1 : n1_1 = (a1.f).length) (hr1_1 : RO w (hkeys [(0, [(m0, .cells #[.slice p0_0_0 n0_0_0 c0_0_0, I a0_1] 92 (0, 0))])]) (RdL p1_1 c1_1 a1.f)) (hM : Sat w (hkeys [(0, [(m0, .cells #[.slice p0_0_0 n0_0_0 c0_0_0, I a0_1] 92 (0, 0))])]) w [(0, [(m0, .cells #[.slice p0_0_0 n0_0_0 c0_0_0, I a0_1] 92 (0, 0))])]) (r : T × Int) (H0 : s_l3Wrong fl a0_0 a0_1 a1 = some r) :
  Ct prog 96 [.pointer (some ⟨m0, 0, none⟩), .agg #[.slice p1_0 n1_0 c1_0, .slice p1_1 n1_1 c1_1]] w [(0, [(m0, .cells #[.slice p0_0_0 n0_0_0 c0_0_0, I a0_1] 92 (0, 0))])] (fun rv h' => SL 3 r.1.b fun x1 y1 z1 C1 => SL 74 r.1.f fun x2 y2 z2 C2 => rv = .agg #[.slice x1 y1 z1, .slice x2 y2 z2] ∧ h' = [(0, [(m0, .cells #[.slice p0_0_0 n0_0_0 c0_0_0, I r.2] 92 (0, 0))]), (1, C1), (2, C2)]) := by
 subst hn0_0_0 hn1_0 hn1_1
 unfold s_l3Wrong at H0
 refine ct_of_cw func96 J ntmps96 J hM ?_
 refine sr (oE (stpU_box 1 J J) J ?_)
 rintro _ _ ⟨b1, rfl, rfl⟩
 refine oE (stpU_alloc 2 tz26 J) J ?_
 rintro _ _ ⟨b2, rfl, rfl⟩
 obtain ⟨x3, e3, H0⟩ := bS H0
 refine ns (oB2 1 ts26 J (oE (uC 3 cf61 (fun w hw => c_s_l3Copy fl w a1 J (rp hr1_0 hw) J (rp hr1_1 hw) x3 e3) (yA J)) J ?_))
 rintro _ _ ⟨_, ⟨p4, _, c6, C7, rfl, o7, p8, _, c10, C11, rfl, o11, rfl, rfl⟩, rfl⟩
 refine oE (stpU_alloc 5 tz26 J) J ?_
 rintro _ _ ⟨b12, rfl, rfl⟩
 refine oC2 5 ts26 J J (nq (oAL 1 u26 J ts24 J 5 J (oD (stp_len u24 J) J (oQ J (nn (cH J H0 (fun H0 => ?_) (fun H0 => ?_)))))))
 ·refine sr (oB2 5 ts26 J (oC2 2 ts26 J J (nr (kR ?_))))
  obtain rfl := sI H0
  exact kr results96 (rC2 2 ts26 J J) [0, 3, 4] (sl J o7 (sl J o11 ⟨J, J⟩))
 obtain ⟨x14, e14, H0⟩ := bS H0
 refine ks (oM J (oAL 1 u26 J ts24 J 5 J (oD (stp_len u24 J) J (oE (uM (rq 0 6) cf49 (fun w hw hb => c_s_l12Rd_pick fl w m0 a0_0 a0_1 ((x3.f).length : Int) J (RO.passM hr0_0_0 hw hb) (hw.pass (js := [0]) ⟨0, [], J, J, trivial⟩ (by decide)) x14 e14) (yB J J) ⟨J, (pI (fun _ _ h => h.2) J), trivial⟩) J ?_))))
 rintro _ _ ⟨_, ⟨rfl, rfl⟩, rfl⟩
 obtain ⟨x15, e15, H0⟩ := bS H0
 refine sq J (oM J (oE (uM (rq 0 7) cf49 (fun w hw hb => c_s_l12Rd_pick fl w m0 a0_0 x14.2 24 J (RO.passM hr0_0_0 hw hb) (hw.pass (js := [0]) ⟨0, [], J, J, trivial⟩ (by decide)) x15 e15) (yB J J) ⟨J, (pI (fun _ _ h => h.2) J), trivial⟩) J ?_))
 rintro _ _ ⟨_, ⟨rfl, rfl⟩, rfl⟩
 refine nn (cw_block (sr (oQ J (sn J (cH J H0 (fun H0 => ?_) (fun H0 => ?_))))))
 ·refine rdt g_mixed (rn 0 10) ⟨[[],[5],[],[],[],[],[0,8],[4],[],[4]], [[],[],[],[],[],[8],[0],[],[],[4]], [5,9]⟩ (dA 1 J u26 J ts24 J (dL 5 ts24 J (dM J (dM J (dM J (dE J (fun hh => stpU_lit (sz := 1) (l := [0, x14.1, 16, (-1)]) [I 0, I x14.1, I 16, I (-1)] sl23 8 (sP J (sP J (sP J (sP J sE)))) J J J J J J J J J) ?_))))))
  rintro _ _ ⟨p17, C18, rfl, rfl, o18⟩
  obtain ⟨x19, e19, H0⟩ := bS H0
  obtain ⟨x20, e20, H0⟩ := bS H0
  refine dk J (dV J (fun hh => uM (rq 0 9) cf18 (fun w hw hb => c_s_l12Rd_num fl w m0 a0_0 x15.2 ([0, x14.1, 16, (-1)]) J (RO.passM hr0_0_0 hw hb) (by simp) (OwnC.passM (id := 8) (hh _ _ J) o18 hw hb ⟨J, trivial⟩) (hw.pass (js := [0]) ⟨0, [], J, (hh _ _ J), trivial⟩ (by decide)) x19 e19) (yB J J) ⟨(hh _ _ J), (pI (fun _ _ h => h.2) J), trivial⟩) J (dD J (stp_indexAddr u24 ts74 (by decide) J J J (Rdb.own (id := 4) J o11) e20) (dA 4 J u74 J ts3 J (dF J (fun hh => stpU_storeEl (id := 4) (i := 4) (⟨x20.u, x20.k, x20.r, x19.1⟩ : F) (by decide) ts3 J J (hh _ _ J) o11 e20 J J J J) ?_))))
  rintro _ _ ⟨C21, rfl, o21⟩
  refine dk J (dn (kb (sr (oB2 5 ts26 J (oC2 2 ts26 J J (nn (cw_ret ?_)))))))
  obtain rfl := sI H0
  exact kr results96 (rC2 2 ts26 J J) [0, 3, 4] (sl J o7 (sl (by simp) o21 ⟨J, J⟩))
 refine sr (oQ J (sn J (cH J H0 (fun H0 => ?_) (fun H0 => ?_))))
 ·obtain ⟨x23, e23, H0⟩ := bS H0
  refine rdt g_mixed (rn 0 13) ⟨[[],[5],[],[],[5],[],[4],[],[4],[],[4],[],[4]], [[],[],[],[],[],[],[],[],[],[],[],[],[4]], [12]⟩ (dA 1 J u26 J ts24 J (dL 5 ts24 J (dM J (dA 1 J u26 J ts24 J (dL 5 ts24 J (dM J (dD J (stp_indexAddr u24 ts74 (by decide) J J J (Rdb.own (id := 4) J o11) e23) (dA 0 J u74 J ts4 J (dD J (stp_load1 ts4 J (Cells.el (Rdb.own (id := 4) J o11) (by decide) e23 0 1 J)) (dK J (dD J (stp_indexAddr u24 ts74 (by decide) J J J (Rdb.own (id := 4) J o11) e23) (dA 0 J u74 J ts4 J (dF J (fun hh => stpU_storeEl (id := 4) (i := 0) (⟨(!x23.u), x23.k, x23.r, x23.nx⟩ : F) (by decide) ts4 J J (hh _ _ J) o11 e23 J J J J) ?_)))))))))))))
  rintro _ _ ⟨C24, rfl, o24⟩
  refine dk J (dn (kb (sr (oB2 5 ts26 J (oC2 2 ts26 J J (nn (cw_ret ?_)))))))
  obtain rfl := sI H0
  exact kr results96 (rC2 2 ts26 J J) [0, 3, 4] (sl J o7 (sl (by simp) o24 ⟨J, J⟩))
 refine sr (oQ J (sn J (cH J H0 (fun H0 => ?_) (fun H0 => ?_))))
 ·refine rdt g_mixed (rn 0 7) ⟨[[],[5],[],[],[0,10],[3],[3]], [[],[],[],[10],[0],[],[3]], [3,6]⟩ (dA 0 J u26 J ts23 J (dL 5 ts23 J (dM J (dE J (fun hh => stpU_lit (sz := 1) (l := [0, (-1), 16, (-2)]) [I 0, I (-1), I 16, I (-2)] sl23 10 (sP J (sP J (sP J (sP J sE)))) J J J J J J J J J) ?_))))
  rintro _ _ ⟨p26, C27, rfl, rfl, o27⟩
  obtain ⟨x28, e28, H0⟩ := bS H0
  obtain ⟨x29, e29, H0⟩ := bS H0
  refine dk J (dV J (fun hh => uM (rq 0 11) cf18 (fun w hw hb => c_s_l12Rd_num fl w m0 a0_0 x15.2 ([0, (-1), 16, (-2)]) J (RO.passM hr0_0_0 hw hb) (by simp) (OwnC.passM (id := 10) (hh _ _ J) o27 hw hb ⟨J, trivial⟩) (hw.pass (js := [0]) ⟨0, [], J, (hh _ _ J), trivial⟩ (by decide)) x28 e28) (yB J J) ⟨(hh _ _ J), (pI (fun _ _ h => h.2) J), trivial⟩) J (dD J (stp_indexAddr u23 ts3 (by decide) J J J (Rdb.own (id := 3) J o7) e29) (dF J (fun hh => stpU_storeEl (id := 3) (i := 0) x28.1 (by decide) ts3 J J (hh _ _ J) o7 e29 J J J J) ?_)))
  rintro _ _ ⟨C30, rfl, o30⟩
  refine dk J (dn (kb (sr (oB2 5 ts26 J (oC2 2 ts26 J J (nn (cw_ret ?_)))))))
  obtain rfl := sI H0
  exact kr results96 (rC2 2 ts26 J J) [0, 3, 4] (sl (by simp) o30 (sl J o11 ⟨J, J⟩))
 refine sr (oQ J (sn J (cH J H0 (fun H0 => ?_) (fun H0 => ?_))))
 ·obtain ⟨x32, e32, H0⟩ := bS H0
  obtain ⟨x33, e33, H0⟩ := bS H0
  refine rdt g_mixed (rn 0 8) ⟨[[],[5],[],[],[0],[4],[],[4]], [[],[],[],[],[0],[],[],[4]], [7]⟩ (dA 1 J u26 J ts24 J (dL 5 ts24 J (dM J (dM J (dV J (fun hh => uM (rq 0 12) cf121 (fun w hw hb => c_s_l2Draw fl w m0 a0_0 x15.2 J (RO.passM hr0_0_0 hw hb) (hw.pass (js := [0]) ⟨0, [], J, (hh _ _ J), trivial⟩ (by decide)) x32 e32) (yA J) ⟨(hh _ _ J), (pI (fun _ _ h => h.2) J), trivial⟩) J (dD J (stp_indexAddr u24 ts74 (by decide) J J J (Rdb.own (id := 4) J o11) e33) (dA 1 J u74 J ts36 J (dF J (fun hh => stpU_storeEl (id := 4) (i := 1) (⟨x33.u, x32.1, x33.r, x33.nx⟩ : F) (by decide) ts36 J J (hh _ _ J) o11 e33 J J J J) ?_))))))))
  rintro _ _ ⟨C34, rfl, o34⟩
  refine dk J (dn (kb (sr (oB2 5 ts26 J (oC2 2 ts26 J J (nn (cw_ret ?_)))))))
  obtain rfl := sI H0
  exact kr results96 (rC2 2 ts26 J J) [0, 3, 4] (sl J o7 (sl (by simp) o34 ⟨J, J⟩))
 refine sr (oQ J (sn J (cH J H0 (fun H0 => ?_) (fun H0 => ?_))))
 ·refine cR (oAL 0 u26 J ts23 J 5 J (oE (stpU_lit (sz := 1) (l := [(-1)]) [I (-1)] sl23 13 (sP J sE) J J J J J J J J J) J ?_))
  rintro _ _ ⟨p36, C37, rfl, rfl, o37⟩
  obtain ⟨x38, e38, H0⟩ := bS H0
  refine oE (stpU_append sl23 J (id := 3) J J J (by simp) J o7 (Rdb.own (id := 13) J o37) e38) J ?_
  rintro _ _ ⟨p39, c40, C41, rfl, rfl, o41⟩
  refine oA 0 u26 J ts23 J (oC2 5 ts23 J J (ow_nil (kb (sr (oB2 5 ts26 J (oC2 2 ts26 J J (nn (cw_ret ?_))))))))
  obtain rfl := sI H0
  exact kr results96 (rC2 2 ts26 J J) [0, 3, 4] (sl J o41 (sl J o11 ⟨J, J⟩))
 refine sr (oQ J (sn J (cH J H0 (fun H0 => ?_) (fun H0 => ?_))))
 ·refine cR (oE (stpU_lit0 sl24 14) J ?_)
  rintro _ _ ⟨p43, C44, rfl, rfl, o44⟩
  refine oA 1 u26 J ts24 J (oC2 5 ts24 J J (ow_nil (kb (sr (oB2 5 ts26 J (oC2 2 ts26 J J (nn (cw_ret ?_))))))))
  obtain rfl := sI H0
  exact kr results96 (rC2 2 ts26 J J) [0, 3, 14] (sl J o7 (sl (by simp) o44 ⟨J, J⟩))
 refine cw_skip (kb (sr (oB2 5 ts26 J (oC2 2 ts26 J J (nn (cw_ret ?_))))))
 obtain rfl := sI H0
 exact kr results96 (rC2 2 ts26 J J) [0, 3, 4] (sl J o7 (sl J o11 ⟨J, J⟩))

theorem c_s_l5Wrong (fl : Nat) (w : World) (m0 : Nat) (a0_0 : (List UInt8)) (a0_1 : Int) (a1 : Tg) (hn0_0_0 : n0_0_0 = (a0_0).length) (hr0_0_0 : RO w (hkeys [(0, [(m0, .cells #[.slice p0_0_0 n0_0_0 c0_0_0, I a0_1] 92 (0, 0))])]) (RdL p0_0_0 c0_0_0 a0_0)) (hn1_0 : n1_0 = (a1.o).length) (hr1_0 : RO w (hkeys [(0, [(m0, .cells #[.slice p0_0_0 n0_0_0 c0_0_0, I a0_1] 92 (0, 0))])]) (RdL p1_0 c1_0 a1.o)) (hM : Sat w (hkeys [(0, [(m0, .cells #[.slice p0_0_0 n0_0_0 c0_0_0, I a0_1] 92 (0, 0))])]) w [(0, [(m0, .cells #[.slice p0_0_0 n0_0_0 c0_0_0, I a0_1] 92 (0, 0))])]) (r : Tg × Int) (H0 : s_l5Wrong fl a0_0 a0_1 a1 = some r) :
  Ct prog 97 [.pointer (some ⟨m0, 0, none⟩), .agg #[I a1.c, I a1.n, I a1.r, .slice p1_0 n1_0 c1_0]] w [(0, [(m0, .cells #[.slice p0_0_0 n0_0_0 c0_0_0, I a0_1] 92 (0, 0))])] (fun rv h' => SL 108 r.1.o fun x1 y1 z1 C1 => rv = .agg #[I r.1.c, I r.1.n, I r.1.r, .slice x1 y1 z1] ∧ h' = [(0, [(m0, .cells #[.slice p0_0_0 n0_0_0 c0_0_0, I r.2] 92 (0, 0))]), (1, C1)]) := by
 subst hn0_0_0 hn1_0
 unfold s_l5Wrong at H0
 refine ct_of_cw func97 J ntmps97 J hM ?_
 refine sr (oE (stpU_box 1 J J) J ?_)
 rintro _ _ ⟨b1, rfl, rfl⟩
 refine oE (stpU_alloc 2 tz32 J) J ?_
 rintro _ _ ⟨b2, rfl, rfl⟩
 obtain ⟨x3, e3, H0⟩ := bS H0
 refine ns (oB4 1 ts32 J (oE (uC 3 cf110 (fun w hw => c_s_l5Copy fl w a1 J (rp hr1_0 hw) x3 e3) (yA J)) J ?_))
 rintro _ _ ⟨_, ⟨p4, _, c6, C7, rfl, o7, rfl, rfl⟩, rfl⟩
 refine oE (stpU_alloc 4 tz32 J) J ?_
 rintro _ _ ⟨b8, rfl, rfl⟩
 obtain ⟨x9, e9, H0⟩ := bS H0
 refine oC4 4 ts32 J J (nq (oM J (oE (uM (rq 0 5) cf49 (fun w hw hb => c_s_l12Rd_pick fl w m0 a0_0 a0_1 20 J (RO.passM hr0_0_0 hw hb) (hw.pass (js := [0]) ⟨0, [], J, J, trivial⟩ (by decide)) x9 e9) (yB J J) ⟨J, (pI (fun _ _ h => h.2) J), trivial⟩) J ?_)))
 rintro _ _ ⟨_, ⟨rfl, rfl⟩, rfl⟩
 refine nn (cw_block (sr (oQ J (sn J (cH J H0 (fun H0 => ?_) (fun H0 => ?_))))))
 ·refine cR (oM J (oE (stpU_lit (sz := 1) (l := [(-1), 9, 0]) [I (-1), I 9, I 0] sl23 6 (sP J (sP J (sP J sE))) J J J J J J J J J) J ?_))
  rintro _ _ ⟨p11, C12, rfl, rfl, o12⟩
  obtain ⟨x13, e13, H0⟩ := bS H0
  refine oE (uM (rq 0 7) cf18 (fun w hw hb => c_s_l12Rd_num fl w m0 a0_0 x9.2 ([(-1), 9, 0]) J (RO.passM hr0_0_0 hw hb) (by simp) (OwnC.passM (id := 6) J o12 hw hb ⟨J, trivial⟩) (hw.pass (js := [0]) ⟨0, [], J, J, trivial⟩ (by decide)) x13 e13) (yB J J) ⟨J, (pI (fun _ _ h => h.2) J), trivial⟩) J ?_
  rintro _ _ ⟨_, ⟨rfl, rfl⟩, rfl⟩
  refine oA 1 u32 J ts3 J (oC4 4 ts3 J J (ow_nil (kb (sr (oB4 4 ts32 J (oC4 2 ts32 J J (nn (cw_ret ?_))))))))
  obtain rfl := sI H0
  exact kr results97 (rC4 2 ts32 J J) [0, 3] (sl J o7 ⟨J, J⟩)
 refine sr (oQ J (sn J (cH J H0 (fun H0 => ?_) (fun H0 => ?_))))
 ·refine cR (oM J (oE (stpU_lit (sz := 1) (l := [0, 9, 1]) [I 0, I 9, I 1] sl23 8 (sP J (sP J (sP J sE))) J J J J J J J J J) J ?_))
  rintro _ _ ⟨p15, C16, rfl, rfl, o16⟩
  obtain ⟨x17, e17, H0⟩ := bS H0
  refine oE (uM (rq 0 9) cf18 (fun w hw hb => c_s_l12Rd_num fl w m0 a0_0 x9.2 ([0, 9, 1]) J (RO.passM hr0_0_0 hw hb) (by simp) (OwnC.passM (id := 8) J o16 hw hb ⟨J, trivial⟩) (hw.pass (js := [0]) ⟨0, [], J, J, trivial⟩ (by decide)) x17 e17) (yB J J) ⟨J, (pI (fun _ _ h => h.2) J), trivial⟩) J ?_
  rintro _ _ ⟨_, ⟨rfl, rfl⟩, rfl⟩
  refine oA 0 u32 J ts3 J (oC4 4 ts3 J J (ow_nil (kb (sr (oB4 4 ts32 J (oC4 2 ts32 J J (nn (cw_ret ?_))))))))
  obtain rfl := sI H0
  exact kr results97 (rC4 2 ts32 J J) [0, 3] (sl J o7 ⟨J, J⟩)
 refine sr (oQ J (sn J (cH J H0 (fun H0 => ?_) (fun H0 => ?_))))
 ·obtain ⟨x19, e19, H0⟩ := bS H0
  obtain ⟨x20, e20, H0⟩ := bS H0
  refine rdt g_mixed (rn 0 11) ⟨[[],[4],[],[0],[],[0],[],[],[3,12],[],[4]], [[],[],[],[0],[],[0],[],[12],[3],[],[4]], [7,8]⟩ (dA 3 J u32 J ts30 J (dL 4 ts30 J (dM J (dV J (fun hh => uM (rq 0 10) cf49 (fun w hw hb => c_s_l12Rd_pick fl w m0 a0_0 x9.2 3 J (RO.passM hr0_0_0 hw hb) (hw.pass (js := [0]) ⟨0, [], J, (hh _ _ J), trivial⟩ (by decide)) x19 e19) (yB J J) ⟨(hh _ _ J), (pI (fun _ _ h => h.2) J), trivial⟩) J (dM J (dV J (fun hh => uM (rq 0 11) cf49 (fun w hw hb => c_s_l12Rd_pick fl w m0 a0_0 x19.2 3 J (RO.passM hr0_0_0 hw hb) (hw.pass (js := [0]) ⟨0, [], J, (hh _ _ J), trivial⟩ (by decide)) x20 e20) (yB J J) ⟨(hh _ _ J), (pI (fun _ _ h => h.2) J), trivial⟩) J (dD J (stp_build (cs := #[I x19.1, I x20.1]) (sP J (sP J sE)) bt108_9) (dE J (fun hh => stpU_lit (sz := 2) (l := [(⟨x19.1, x20.1⟩ : Ow)]) [.agg #[I x19.1, I x20.1]] sl30 12 (sP J sE) J J J J J J J J J) ?_))))))))
  rintro _ _ ⟨p21, C22, rfl, rfl, o22⟩
  obtain ⟨x23, e23, H0⟩ := bS H0
  refine dk J (dE J (fun hh => stpU_append sl30 J (id := 3) J J J (by simp) (hh _ _ J) o7 (Rdb.own (id := 12) (hh _ _ J) o22) e23) ?_)
  rintro _ _ ⟨p24, c25, C26, rfl, rfl, o26⟩
  refine dk J (dA 3 J u32 J ts30 J (dC4 4 ts30 J J J (dn (kb (sr (oB4 4 ts32 J (oC4 2 ts32 J J (nn (cw_ret ?_)))))))))
  obtain rfl := sI H0
  exact kr results97 (rC4 2 ts32 J J) [0, 3] (sl J o26 ⟨J, J⟩)
 refine sr (oQ J (sn J (cH J H0 (fun H0 => ?_) (fun H0 => ?_))))
 ·refine cR (oM J (oE (stpU_lit (sz := 1) (l := [(-1), 1000001, 1000000]) [I (-1), I 1000001, I 1000000] sl23 13 (sP J (sP J (sP J sE))) J J J J J J J J J) J ?_))
  rintro _ _ ⟨p28, C29, rfl, rfl, o29⟩
  obtain ⟨x30, e30, H0⟩ := bS H0
  refine oE (uM (rq 0 14) cf18 (fun w hw hb => c_s_l12Rd_num fl w m0 a0_0 x9.2 ([(-1), 1000001, 1000000]) J (RO.passM hr0_0_0 hw hb) (by simp) (OwnC.passM (id := 13) J o29 hw hb ⟨J, trivial⟩) (hw.pass (js := [0]) ⟨0, [], J, J, trivial⟩ (by decide)) x30 e30) (yB J J) ⟨J, (pI (fun _ _ h => h.2) J), trivial⟩) J ?_
  rintro _ _ ⟨_, ⟨rfl, rfl⟩, rfl⟩
  refine oA 2 u32 J ts3 J (oC4 4 ts3 J J (ow_nil (kb (sr (oB4 4 ts32 J (oC4 2 ts32 J J (nn (cw_ret ?_))))))))
  obtain rfl := sI H0
  exact kr results97 (rC4 2 ts32 J J) [0, 3] (sl J o7 ⟨J, J⟩)
 refine cw_skip (kb (sr (oB4 4 ts32 J (oC4 2 ts32 J J (nn (cw_ret ?_))))))
 obtain rfl := sI H0
 exact kr results97 (rC4 2 ts32 J J) [0, 3] (sl J o7 ⟨J, J⟩)

theorem c_s_l6Wrong (fl : Nat) (w : World) (m0 : Nat) (a0_0 : (List UInt8)) (a0_1 : Int) (a1 : Mc) (hn0_0_0 : n0_0_0 = (a0_0).length) (hr0_0_0 : RO w (hkeys [(0, [(m0, .cells #[.slice p0_0_0 n0_0_0 c0_0_0, I a0_1] 92 (0, 0))])]) (RdL p0_0_0 c0_0_0 a0_0)) (hn1_0 : n1_0 = (a1.t.b).length) (hr1_0 : RO w (hkeys [(0, [(m0, .cells #[.slice p0_0_0 n0_0_0 c0_0_0, I a0_1] 92 (0, 0))])]) (RdL p1_0 c1_0 a1.t.b)) (hn1_1 : n1_1 = (a1.t.f).length) (hr1_1 : RO w (hkeys [(0, [(m0, .cells #[.slice p0_0_0 n0_0_0 c0_0_0, I a0_1] 92 (0, 0))])]) (RdL p1_1 c1_1 a1.t.f)) (hn1_2 : n1_2 = (a1.c.l).length) (hr1_2 : RO w (hkeys [(0, [(m0, .cells #[.slice p0_0_0 n0_0_0 c0_0_0, I a0_1] 92 (0, 0))])]) (RdL p1_2 c1_2 a1.c.l)) (hn1_3 : n1_3 = (a1.g.o).length) (hr1_3 : RO w (hkeys [(0, [(m0, .cells #[.slice p0_0_0 n0_0_0 c0_0_0, I a0_1] 92 (0, 0))])]) (RdL p1_3 c1_3 a1.g.o)) (hM : Sat w (hkeys [(0, [(m0, .cells #[.slice p0_0_0 n0_0_0 c0_0_0, I a0_1] 92 (0, 0))])]) w [(0, [(m0, .cells #[.slice p0_0_0 n0_0_0 c0_0_0, I a0_1] 92 (0, 0))])]) (r : Mc × Int) (H0 : s_l6Wrong fl a0_0 a0_1 a1 = some r) :
  Ct prog 51 [.pointer (some ⟨m0, 0, none⟩), .agg #[.slice p1_0 n1_0 c1_0, .slice p1_1 n1_1 c1_1, .slice p1_2 n1_2 c1_2, I a1.c.h, I a1.g.c, I a1.g.n, I a1.g.r, .slice p1_3 n1_3 c1_3, I a1.s]] w [(0, [(m0, .cells #[.slice p0_0_0 n0_0_0 c0_0_0, I a0_1] 92 (0, 0))])] (fun rv h' => SL 3 r.1.t.b fun x1 y1 z1 C1 => SL 74 r.1.t.f fun x2 y2 z2 C2 => SL 66 r.1.c.l fun x3 y3 z3 C3 => SL 108 r.1.g.o fun x4 y4 z4 C4 => rv = .agg #[.slice x1 y1 z1, .slice x2 y2 z2, .slice x3 y3 z3, I r.1.c.h, I r.1.g.c, I r.1.g.n, I r.1.g.r, .slice x4 y4 z4, I r.1.s] ∧ h' = [(0, [(m0, .cells #[.slice p0_0_0 n0_0_0 c0_0_0, I r.2] 92 (0, 0))]), (1, C1), (2, C2), (3, C3), (4, C4)]) := by
 subst hn0_0_0 hn1_0 hn1_1 hn1_2 hn1_3
 unfold s_l6Wrong at H0
 refine ct_of_cw func51 J ntmps51 J hM ?_
 refine sr (oE (stpU_box 1 J J) J ?_)
 rintro _ _ ⟨b1, rfl, rfl⟩
 refine oE (stpU_alloc 2 tz34 J) J ?_
 rintro _ _ ⟨b2, rfl, rfl⟩
 obtain ⟨x3, e3, H0⟩ := bS H0
 refine ns (oB9 1 ts34 J (oE (uC 3 cf62 (fun w hw => c_s_l6Copy fl w a1 J (rp hr1_0 hw) J (rp hr1_1 hw) J (rp hr1_2 hw) J (rp hr1_3 hw) x3 e3) (yA J)) J ?_))
 rintro _ _ ⟨_, ⟨p4, _, c6, C7, rfl, o7, p8, _, c10, C11, rfl, o11, p12, _, c14, C15, rfl, o15, p16, _, c18, C19, rfl, o19, rfl, rfl⟩, rfl⟩
 refine oE (stpU_alloc 7 tz34 J) J ?_
 rintro _ _ ⟨b20, rfl, rfl⟩
 obtain ⟨x21, e21, H0⟩ := bS H0
 refine oC9 7 ts34 J J (nq (oM J (oE (uM (rq 0 8) cf49 (fun w hw hb => c_s_l12Rd_pick fl w m0 a0_0 a0_1 24 J (RO.passM hr0_0_0 hw hb) (hw.pass (js := [0]) ⟨0, [], J, J, trivial⟩ (by decide)) x21 e21) (yB J J) ⟨J, (pI (fun _ _ h => h.2) J), trivial⟩) J ?_)))
 rintro _ _ ⟨_, ⟨rfl, rfl⟩, rfl⟩
 refine nn (cw_block (sr (oQ J (sn J (cH J H0 (fun H0 => ?_) (fun H0 => ?_))))))
 ·refine cR (oM J (oE (stpU_lit (sz := 1) (l := [9, (-1), 1]) [I 9, I (-1), I 1] sl23 9 (sP J (sP J (sP J sE))) J J J J J J J J J) J ?_))
  rintro _ _ ⟨p23, C24, rfl, rfl, o24⟩
  obtain ⟨x25, e25, H0⟩ := bS H0
  refine oE (uM (rq 0 10) cf18 (fun w hw hb => c_s_l12Rd_num fl w m0 a0_0 x21.2 ([9, (-1), 1]) J (RO.passM hr0_0_0 hw hb) (by simp) (OwnC.passM (id := 9) J o24 hw hb ⟨J, trivial⟩) (hw.pass (js := [0]) ⟨0, [], J, J, trivial⟩ (by decide)) x25 e25) (yB J J) ⟨J, (pI (fun _ _ h => h.2) J), trivial⟩) J ?_
  rintro _ _ ⟨_, ⟨rfl, rfl⟩, rfl⟩
  refine oA 8 u34 J ts3 J (oC9 7 ts3 J J (ow_nil (kb (sr (oB9 7 ts34 J (oC9 2 ts34 J J (nn (cw_ret ?_))))))))
  obtain rfl := sI H0
  exact kr results51 (rC9 2 ts34 J J) [0, 3, 4, 5, 6] (sl J o7 (sl J o11 (sl J o15 (sl J o19 ⟨J, J⟩))))
 refine sr (oQ J (sn J (cH J H0 (fun H0 => ?_) (fun H0 => ?_))))
 ·obtain ⟨x27, e27, H0⟩ := bS H0
  refine cR (oM J (oM J (oA 2 u34 J ts29 J (oB2 7 ts29 J (oE (uM (rq 0 11) cf95 (fun w hw hb => c_s_l4Wrong fl w m0 a0_0 x21.2 x3.c J (RO.passM hr0_0_0 hw hb) J (OwnC.passM (id := 5) J o15 hw hb ⟨J, trivial⟩) (hw.pass (js := [0]) ⟨0, [], J, J, trivial⟩ (by decide)) x27 e27) (yB J J) ⟨J, (fun _ _ hp => by obtain ⟨_, _, _, _, _, _, _, rfl⟩ := hp; exact ⟨_, J⟩), trivial⟩) J ?_)))))
  rintro _ _ ⟨_, ⟨p28, _, c30, C31, rfl, o31, rfl, rfl⟩, rfl⟩
  obtain ⟨x32, e32, H0⟩ := bS H0
  refine oE (uM (rq 0 13) cf95 (fun w hw hb => c_s_l4Wrong fl w m0 a0_0 x27.2 x27.1 J (RO.passM hr0_0_0 hw hb) J (OwnC.passM (id := 12) J o31 hw hb ⟨J, trivial⟩) (hw.pass (js := [0]) ⟨0, [], J, J, trivial⟩ (by decide)) x32 e32) (yB J J) ⟨J, (fun _ _ hp => by obtain ⟨_, _, _, _, _, _, _, rfl⟩ := hp; exact ⟨_, J⟩), trivial⟩) J ?_
  rintro _ _ ⟨_, ⟨p33, _, c35, C36, rfl, o36, rfl, rfl⟩, rfl⟩
  refine oA 2 u34 J ts29 J (oC9 7 ts29 J J (ow_nil (kb (sr (oB9 7 ts34 J (oC9 2 ts34 J J (nn (cw_ret ?_))))))))
  obtain rfl := sI H0
  exact kr results51 (rC9 2 ts34 J J) [0, 3, 4, 14, 6] (sl J o7 (sl J o11 (sl J o36 (sl J o19 ⟨J, J⟩))))
 refine sr (oQ J (sn J (cH J H0 (fun H0 => ?_) (fun H0 => ?_))))
 ·obtain ⟨x38, e38, H0⟩ := bS H0
  refine cR (oM J (oM J (oA 0 u34 J ts26 J (oB2 7 ts26 J (oE (uM (rq 0 15) cf96 (fun w hw hb => c_s_l3Wrong fl w m0 a0_0 x21.2 x3.t J (RO.passM hr0_0_0 hw hb) J (OwnC.passM (id := 3) J o7 hw hb ⟨J, trivial⟩) J (OwnC.passM (id := 4) J o11 hw hb ⟨J, trivial⟩) (hw.pass (js := [0]) ⟨0, [], J, J, trivial⟩ (by decide)) x38 e38) (yB J J) ⟨J, (fun _ _ hp => by obtain ⟨_, _, _, _, _, _, _, _, _, _, _, _, _, rfl⟩ := hp; exact ⟨_, J⟩), trivial⟩) J ?_)))))
  rintro _ _ ⟨_, ⟨p39, _, c41, C42, rfl, o42, p43, _, c45, C46, rfl, o46, rfl, rfl⟩, rfl⟩
  obtain ⟨x47, e47, H0⟩ := bS H0
  refine oE (uM (rq 0 18) cf96 (fun w hw hb => c_s_l3Wrong fl w m0 a0_0 x38.2 x38.1 J (RO.passM hr0_0_0 hw hb) J (OwnC.passM (id := 16) J o42 hw hb ⟨J, trivial⟩) J (OwnC.passM (id := 17) J o46 hw hb ⟨J, trivial⟩) (hw.pass (js := [0]) ⟨0, [], J, J, trivial⟩ (by decide)) x47 e47) (yB J J) ⟨J, (fun _ _ hp => by obtain ⟨_, _, _, _, _, _, _, _, _, _, _, _, _, rfl⟩ := hp; exact ⟨_, J⟩), trivial⟩) J ?_
  rintro _ _ ⟨_, ⟨p48, _, c50, C51, rfl, o51, p52, _, c54, C55, rfl, o55, rfl, rfl⟩, rfl⟩
  refine oA 0 u34 J ts26 J (oC9 7 ts26 J J (ow_nil (kb (sr (oB9 7 ts34 J (oC9 2 ts34 J J (nn (cw_ret ?_))))))))
  obtain rfl := sI H0
  exact kr results51 (rC9 2 ts34 J J) [0, 19, 20, 5, 6] (sl J o51 (sl J o55 (sl J o15 (sl J o19 ⟨J, J⟩))))
 refine sr (oQ J (sn J (cH J H0 (fun H0 => ?_) (fun H0 => ?_))))
 ·obtain ⟨x57, e57, H0⟩ := bS H0
  refine cR (oM J (oM J (oA 4 u34 J ts32 J (oB4 7 ts32 J (oE (uM (rq 0 21) cf97 (fun w hw hb => c_s_l5Wrong fl w m0 a0_0 x21.2 x3.g J (RO.passM hr0_0_0 hw hb) J (OwnC.passM (id := 6) J o19 hw hb ⟨J, trivial⟩) (hw.pass (js := [0]) ⟨0, [], J, J, trivial⟩ (by decide)) x57 e57) (yB J J) ⟨J, (fun _ _ hp => by obtain ⟨_, _, _, _, _, _, _, rfl⟩ := hp; exact ⟨_, J⟩), trivial⟩) J ?_)))))
  rintro _ _ ⟨_, ⟨p58, _, c60, C61, rfl, o61, rfl, rfl⟩, rfl⟩
  obtain ⟨x62, e62, H0⟩ := bS H0
  refine oE (uM (rq 0 23) cf97 (fun w hw hb => c_s_l5Wrong fl w m0 a0_0 x57.2 x57.1 J (RO.passM hr0_0_0 hw hb) J (OwnC.passM (id := 22) J o61 hw hb ⟨J, trivial⟩) (hw.pass (js := [0]) ⟨0, [], J, J, trivial⟩ (by decide)) x62 e62) (yB J J) ⟨J, (fun _ _ hp => by obtain ⟨_, _, _, _, _, _, _, rfl⟩ := hp; exact ⟨_, J⟩), trivial⟩) J ?_
  rintro _ _ ⟨_, ⟨p63, _, c65, C66, rfl, o66, rfl, rfl⟩, rfl⟩
  refine oA 4 u34 J ts32 J (oC9 7 ts32 J J (ow_nil (kb (sr (oB9 7 ts34 J (oC9 2 ts34 J J (nn (cw_ret ?_))))))))
  obtain rfl := sI H0
  exact kr results51 (rC9 2 ts34 J J) [0, 3, 4, 5, 24] (sl J o7 (sl J o11 (sl J o15 (sl J o66 ⟨J, J⟩))))
 refine cw_skip (kb (sr (oB9 7 ts34 J (oC9 2 ts34 J J (nn (cw_ret ?_))))))
 obtain rfl := sI H0
 exact kr results51 (rC9 2 ts34 J J) [0, 3, 4, 5, 6] (sl J o7 (sl J o11 (sl J o15 (sl J o19 ⟨J, J⟩))))

theorem c_s_l6Case (fl : Nat) (w : World) (a0 : (List UInt8)) (hn0_0 : n0_0 = (a0).length) (hr0_0 : RO w [] (RdL p0_0 c0_0 a0)) (r : Mc) (H0 : s_l6Case fl a0 = some r) :
  Ct prog 41 [.slice p0_0 n0_0 c0_0] w [] (fun rv h' => SL 3 r.t.b fun x0 y0 z0 C0 => SL 74 r.t.f fun x1 y1 z1 C1 => SL 66 r.c.l fun x2 y2 z2 C2 => SL 108 r.g.o fun x3 y3 z3 C3 => rv = .agg #[.slice x0 y0 z0, .slice x1 y1 z1, .slice x2 y2 z2, I r.c.h, I r.g.c, I r.g.n, I r.g.r, .slice x3 y3 z3, I r.s] ∧ h' = [(0, C0), (1, C1), (2, C2), (3, C3)]) := by
 subst hn0_0
 unfold s_l6Case at H0
 refine ct_of_cw func41 J ntmps41 J (Sat.refl _ _) ?_
 refine sr (oE (stpU_alloc 0 tz34 J) J ?_)
 rintro _ _ ⟨b1, rfl, rfl⟩
 refine ns (oM J (oE (uC 1 cf17 (fun w hw => c_open17 w a0 p0_0 ((a0).length) c0_0 J (RO.cap hr0_0).1) (yA J)) J ?_))
 rintro _ _ ⟨_, ⟨b2, rfl, rfl⟩, rfl⟩
 obtain ⟨x3, e3, H0⟩ := bS H0
 refine ss J (oM J (oM J (oE (uM (fun i => bif Nat.beq i 0 then 1 else 2 + i) cf46 (fun w hw hb => c_s_l6Draw fl w b2 (a0.take 2000) 0 J (RO.passM (RO.takeN 2000 hr0_0) hw hb) (hw.pass (js := [1]) ⟨1, [], J, J, trivial⟩ (by decide)) x3 e3) (yA J) ⟨J, (fun _ _ hp => by obtain ⟨_, _, _, _, _, _, _, _, _, _, _, _, _, _, _, _, _, _, _, _, _, _, _, _, _, rfl⟩ := hp; exact ⟨_, J⟩), trivial⟩) J ?_)))
 rintro _ _ ⟨_, ⟨p4, _, c6, C7, rfl, o7, p8, _, c10, C11, rfl, o11, p12, _, c14, C15, rfl, o15, p16, _, c18, C19, rfl, o19, rfl, rfl⟩, rfl⟩
 obtain ⟨x20, e20, H0⟩ := bS H0
 refine oE (uM (fun i => bif Nat.beq i 0 then 1 else 7 + i) cf51 (fun w hw hb => c_s_l6Wrong fl w b2 (a0.take 2000) x3.2 x3.1 J (RO.passM (RO.takeN 2000 hr0_0) hw hb) J (OwnC.passM (id := 3) J o7 hw hb ⟨J, trivial⟩) J (OwnC.passM (id := 4) J o11 hw hb ⟨J, trivial⟩) J (OwnC.passM (id := 5) J o15 hw hb ⟨J, trivial⟩) J (OwnC.passM (id := 6) J o19 hw hb ⟨J, trivial⟩) (hw.pass (js := [1]) ⟨1, [], J, J, trivial⟩ (by decide)) x20 e20) (yB J J) ⟨J, (fun _ _ hp => by obtain ⟨_, _, _, _, _, _, _, _, _, _, _, _, _, _, _, _, _, _, _, _, _, _, _, _, _, rfl⟩ := hp; exact ⟨_, J⟩), trivial⟩) J ?_
 rintro _ _ ⟨_, ⟨p21, _, c23, C24, rfl, o24, p25, _, c27, C28, rfl, o28, p29, _, c31, C32, rfl, o32, p33, _, c35, C36, rfl, o36, rfl, rfl⟩, rfl⟩
 refine oC9 0 ts34 J J (nn (cw_ret ?_))
 obtain rfl := sI H0
 exact kr results41 (rC9 0 ts34 J J) [8, 9, 10, 11] (sl J o24 (sl J o28 (sl J o32 (sl J o36 ⟨J, J⟩))))

theorem c_s_DrawWirePage (fl : Nat) (w : World) (a0 : (List UInt8)) (hn0_0 : n0_0 = (a0).length) (hr0_0 : RO w [] (RdL p0_0 c0_0 a0)) (r : Mc × Int) (H0 : s_DrawWirePage fl a0 = some r) :
  Ct prog 13 [.slice p0_0 n0_0 c0_0] w [] (fun rv h' => SL 3 r.1.t.b fun x0 y0 z0 C0 => SL 74 r.1.t.f fun x1 y1 z1 C1 => SL 66 r.1.c.l fun x2 y2 z2 C2 => SL 108 r.1.g.o fun x3 y3 z3 C3 => rv = .tuple #[.agg #[.slice x0 y0 z0, .slice x1 y1 z1, .slice x2 y2 z2, I r.1.c.h, I r.1.g.c, I r.1.g.n, I r.1.g.r, .slice x3 y3 z3, I r.1.s], I r.2] ∧ h' = [(0, C0), (1, C1), (2, C2), (3, C3)]) := by
 subst hn0_0
 unfold s_DrawWirePage at H0
 refine ct_of_cw func13 J ntmps13 J (Sat.refl _ _) ?_
 refine sr (oE (stpU_alloc 0 tz34 J) J ?_)
 rintro _ _ ⟨b1, rfl, rfl⟩
 obtain ⟨x2, e2, H0⟩ := bS H0
 refine ss J (oM J (oE (uC 1 cf41 (fun w hw => c_s_l6Case fl w a0 J (rp hr0_0 hw) x2 e2) (yA J)) J ?_))
 rintro _ _ ⟨_, ⟨p3, _, c5, C6, rfl, o6, p7, _, c9, C10, rfl, o10, p11, _, c13, C14, rfl, o14, p15, _, c17, C18, rfl, o18, rfl, rfl⟩, rfl⟩
 refine oM J (oE (uC 5 cf17 (fun w hw => c_open17 w a0 p0_0 ((a0).length) c0_0 J (RO.cap hr0_0).1) (yA J)) J ?_)
 rintro _ _ ⟨_, ⟨b19, rfl, rfl⟩, rfl⟩
 refine oE (stpU_lit (sz := 1) (l := [200, 201, 200, 1, 256]) [I 200, I 201, I 200, I 1, I 256] sl23 6 (sP J (sP J (sP J (sP J (sP J sE))))) J J J J J J J J J) J ?_
 rintro _ _ ⟨p20, C21, rfl, rfl, o21⟩
 obtain ⟨x22, e22, H0⟩ := bS H0
 refine oE (uM (fun i => bif Nat.beq i 0 then 5 else 7 + i) cf18 (fun w hw hb => c_s_l12Rd_num fl w b19 (a0.take 2000) 0 ([200, 201, 200, 1, 256]) J (RO.passM (RO.takeN 2000 hr0_0) hw hb) (by simp) (OwnC.passM (id := 6) J o21 hw hb ⟨J, trivial⟩) (hw.pass (js := [5]) ⟨5, [], J, J, trivial⟩ (by decide)) x22 e22) (yB J J) ⟨J, (pI (fun _ _ h => h.2) J), trivial⟩) J ?_
 rintro _ _ ⟨_, ⟨rfl, rfl⟩, rfl⟩
 refine oC9 0 ts34 J J (sn J (cw_ret ?_))
 obtain rfl := sI H0
 exact kr results13 (.cons (.cellN (us := [_, _, _, _, _, _, _, _, _]) ts34 J (Cells.box (id := 0) J 9 J)) (rT J)) [1, 2, 3, 4] (sl J o6 (sl J o10 (sl J o14 (sl J o18 ⟨J, J⟩))))

theorem c_i_TableValid (fl : Nat) (w : World) (a0 : T) (hn0_0 : n0_0 = (a0.b).length) (hr0_0 : RO w [] (RdL p0_0 c0_0 a0.b)) (hn0_1 : n0_1 = (a0.f).length) (hr0_1 : RO w [] (RdL p0_1 c0_1 a0.f)) (hg : RO w [] (fun w' => w'.rangeAt 0 0 [.bool false, I 0, I 0, I 0, I (-1)])) (r : Bool) (H0 : i_TableValid fl a0 = some r) :
    Ct prog 36 [.agg #[.slice p0_0 n0_0 c0_0, .slice p0_1 n0_1 c0_1]] w [] (fun rv h' => rv = .bool r ∧ h' = []) := by
  obtain rfl := hn0_0
  obtain rfl := hn0_1
  unfold i_TableValid at H0
  obtain rfl := Option.some.inj H0
  exact ct_of_calls (tableValid_c _ a0 w ⟨_, _, J, (hr0_0 w (Fr.refl _ _)).rd, (hr0_1 w (Fr.refl _ _)).rd⟩ (freeG_of (hg w (Fr.refl _ _))))

theorem c_i_within (fl : Nat) (w : World) (a0 : Int) (a1 : Int) (r : Bool) (H0 : i_within fl a0 a1 = some r) :
  Ct prog 29 [I a0, I a1] w [] (fun rv h' => rv = .bool r ∧ h' = []) := by
 unfold i_within at H0
 refine ct_of_cw func29 J ntmps29 J (Sat.refl _ _) ?_
 obtain ⟨y1, ey1, H0⟩ := bS H0
 refine sr (ss J (oM J (oI J (oM J (ow_cutY 4 11 y1 ?_ ?_)))))
 ·rcases Bool.eq_false_or_eq_true (decide (0 ≤ a0)) with hy1 | hy1
  ·have ey1 := cond_t ey1 hy1
   refine oG J hy1 (mv J) J (oG J hy1 (mv J) J (oG J hy1 (stp_lss J J) J (oD (stp_pick_t J hy1 J) J ?_)))
   obtain rfl := sI ey1
   exact ow_nil (jy 4 0)
  have ey1 := cond_f ey1 hy1
  refine oO J hy1 J (oO J hy1 J (oO J hy1 J (oD (stp_pick_f J hy1 J) J ?_)))
  obtain rfl := sI ey1
  exact ow_nil (jy 4 0)
 refine sn J (cw_ret ?_)
 obtain rfl := sI H0
 exact kr results29 (rT J) [] ⟨J, J⟩

theorem c_i_tagValid (fl : Nat) (w : World) (a0 : Int) (r : Bool) (H0 : i_tagValid fl a0 = some r) :
  Ct prog 112 [I a0] w [] (fun rv h' => rv = .bool r ∧ h' = []) := by
 unfold i_tagValid at H0
 refine ct_of_cw func112 J ntmps112 J (Sat.refl _ _) ?_
 obtain ⟨y1, ey1, H0⟩ := bS H0
 refine sr (ss J (oM J (oI J (oM J (ow_cutY 3 8 y1 ?_ ?_)))))
 ·rcases Bool.eq_false_or_eq_true (decide ((-1) ≤ a0)) with hy1 | hy1
  ·have ey1 := cond_t ey1 hy1
   refine oG J hy1 (mv J) J (oG J hy1 (stp_lss J J) J (oD (stp_pick_t J hy1 J) J ?_))
   obtain rfl := sI ey1
   exact ow_nil (jy 3 0)
  have ey1 := cond_f ey1 hy1
  refine oO J hy1 J (oO J hy1 J (oD (stp_pick_f J hy1 J) J ?_))
  obtain rfl := sI ey1
  exact ow_nil (jy 3 0)
 refine sn J (cw_ret ?_)
 obtain rfl := sI H0
 exact kr results112 (rT J) [] ⟨J, J⟩

theorem c_i_RightsValid (fl : Nat) (w : World) (a0 : Int) (r : Bool) (H0 : i_RightsValid fl a0 = some r) :
  Ct prog 30 [I a0] w [] (fun rv h' => rv = .bool r ∧ h' = []) := by
 unfold i_RightsValid at H0
 refine ct_of_cw func30 J ntmps30 J (Sat.refl _ _) ?_
 obtain ⟨x1, e1, H0⟩ := bS H0
 refine sr (ss J (oM J (oE (uC 0 cf29 (fun w hw => c_i_within fl w a0 8 x1 e1) (yB J J)) J ?_)))
 rintro _ _ ⟨_, ⟨rfl, rfl⟩, rfl⟩
 refine sn J (cw_ret ?_)
 obtain rfl := sI H0
 exact kr results30 (rT J) [] ⟨J, J⟩

theorem c_i_lineValid (fl : Nat) (w : World) (a0 : Ln) (r : Bool) (H0 : i_lineValid fl a0 = some r) :
  Ct prog 79 [.agg #[.bool a0.va, I a0.tg, I a0.pg, I a0.fr, I a0.ri, .bool a0.wi]] w [] (fun rv h' => rv = .bool r ∧ h' = []) := by
 unfold i_lineValid at H0
 refine ct_of_cw func79 J ntmps79 J (Sat.refl _ _) ?_
 refine sr (oE (stpU_box 0 J J) J ?_)
 rintro _ _ ⟨b1, rfl, rfl⟩
 refine sq J (oAL 0 u66 J ts4 J 0 J (oK J (nn (cH J H0 (fun H0 => ?_) (fun H0 => ?_)))))
 ·refine sr (oB6 0 ts66 J (oD (stp_build (cs := #[.bool false, I 0, I 0, I 0, I 0, .bool false]) sE bt66_11) J (oD (stp_eqlS te66 a0 (⟨false, 0, 0, 0, 0, false⟩ : Ln) J J) J (sr1 J (kR ?_)))))
  obtain rfl := sI H0
  exact kr results79 (rT J) [] ⟨J, J⟩
 obtain ⟨x3, e3, H0⟩ := bS H0
 refine ks (oAL 1 u66 J ts3 J 0 J (oE (uC 1 cf112 (fun w hw => c_i_tagValid fl w a0.tg x3 e3) (yA J)) J ?_))
 rintro _ _ ⟨_, ⟨rfl, rfl⟩, rfl⟩
 obtain ⟨y4, ey4, H0⟩ := bS H0
 refine oM J (ow_cutY 4 16 y4 ?_ ?_)
 ·rcases Bool.eq_false_or_eq_true x3 with hy4 | hy4
  ·have ey4 := cond_t ey4 hy4
   obtain ⟨x5, e5, ey4⟩ := bS ey4
   refine oG J hy4 (fA 2 u66 J ts3 J J J) J (oG J hy4 (lB 0 ts3 J J J) J (ow_eff (.some J hy4) (uC 1 cf29 (fun w hw => c_i_within fl w a0.pg 256 x5 e5) (yB J J)) J ?_))
   rintro _ _ ⟨_, ⟨rfl, rfl⟩, rfl⟩
   refine oD (stp_pick_t J hy4 J) J ?_
   obtain rfl := sI ey4
   exact ow_nil (jy 4 0)
  have ey4 := cond_f ey4 hy4
  refine oO J hy4 J (oO J hy4 J (oO J hy4 J (oD (stp_pick_f J hy4 J) J ?_)))
  obtain rfl := sI ey4
  exact ow_nil (jy 4 0)
 obtain ⟨y6, ey6, H0⟩ := bS H0
 refine oM J (ow_cutY 4 21 y6 ?_ ?_)
 ·rcases Bool.eq_false_or_eq_true y4 with hy6 | hy6
  ·have ey6 := cond_t ey6 hy6
   obtain ⟨x7, e7, ey6⟩ := bS ey6
   refine oG J hy6 (fA 3 u66 J ts3 J J J) J (oG J hy6 (lB 0 ts3 J J J) J (ow_eff (.some J hy6) (uC 1 cf29 (fun w hw => c_i_within fl w a0.fr 16 x7 e7) (yB J J)) J ?_))
   rintro _ _ ⟨_, ⟨rfl, rfl⟩, rfl⟩
   refine oD (stp_pick_t J hy6 J) J ?_
   obtain rfl := sI ey6
   exact ow_nil (jy 4 0)
  have ey6 := cond_f ey6 hy6
  refine oO J hy6 J (oO J hy6 J (oO J hy6 J (oD (stp_pick_f J hy6 J) J ?_)))
  obtain rfl := sI ey6
  exact ow_nil (jy 4 0)
 obtain ⟨y8, ey8, H0⟩ := bS H0
 refine oM J (ow_cutY 4 26 y8 ?_ ?_)
 ·rcases Bool.eq_false_or_eq_true y6 with hy8 | hy8
  ·have ey8 := cond_t ey8 hy8
   obtain ⟨x9, e9, ey8⟩ := bS ey8
   refine oG J hy8 (fA 4 u66 J ts3 J J J) J (oG J hy8 (lB 0 ts3 J J J) J (ow_eff (.some J hy8) (uC 1 cf30 (fun w hw => c_i_RightsValid fl w a0.ri x9 e9) (yA J)) J ?_))
   rintro _ _ ⟨_, ⟨rfl, rfl⟩, rfl⟩
   refine oD (stp_pick_t J hy8 J) J ?_
   obtain rfl := sI ey8
   exact ow_nil (jy 4 0)
  have ey8 := cond_f ey8 hy8
  refine oO J hy8 J (oO J hy8 J (oO J hy8 J (oD (stp_pick_f J hy8 J) J ?_)))
  obtain rfl := sI ey8
  exact ow_nil (jy 4 0)
 refine sn J (cw_ret ?_)
 obtain rfl := sI H0
 exact kr results79 (rT J) [] ⟨J, J⟩

theorem c_i_clash (fl : Nat) (w : World) (a0 : Ln) (a1 : Ln) (r : Bool) (H0 : i_clash fl a0 a1 = some r) :
  Ct prog 83 [.agg #[.bool a0.va, I a0.tg, I a0.pg, I a0.fr, I a0.ri, .bool a0.wi], .agg #[.bool a1.va, I a1.tg, I a1.pg, I a1.fr, I a1.ri, .bool a1.wi]] w [] (fun rv h' => rv = .bool r ∧ h' = []) := by
 unfold i_clash at H0
 refine ct_of_cw func83 J ntmps83 J (Sat.refl _ _) ?_
 refine sr (oE (stpU_box 0 J J) J ?_)
 rintro _ _ ⟨b1, rfl, rfl⟩
 refine oE (stpU_box 1 J J) J ?_
 rintro _ _ ⟨b2, rfl, rfl⟩
 obtain ⟨y3, ey3, H0⟩ := bS H0
 refine ss J (oAL 0 u66 J ts4 J 0 J (oM J (ow_cutY 3 10 y3 ?_ ?_)))
 ·rcases Bool.eq_false_or_eq_true a0.va with hy3 | hy3
  ·have ey3 := cond_t ey3 hy3
   refine oG J hy3 (fA 0 u66 J ts4 J J J) J (oG J hy3 (lB 1 ts4 J J J) J (oD (stp_pick_t J hy3 J) J ?_))
   obtain rfl := sI ey3
   exact ow_nil (jy 3 0)
  have ey3 := cond_f ey3 hy3
  refine oO J hy3 J (oO J hy3 J (oD (stp_pick_f J hy3 J) J ?_))
  obtain rfl := sI ey3
  exact ow_nil (jy 3 0)
 obtain ⟨y4, ey4, H0⟩ := bS H0
 refine oM J (ow_cutY 6 17 y4 ?_ ?_)
 ·rcases Bool.eq_false_or_eq_true y3 with hy4 | hy4
  ·have ey4 := cond_t ey4 hy4
   refine oG J hy4 (fA 2 u66 J ts3 J J J) J (oG J hy4 (lB 0 ts3 J J J) J (oG J hy4 (fA 2 u66 J ts3 J J J) J (oG J hy4 (lB 1 ts3 J J J) J (oG J hy4 (stp_eql J J) J (oD (stp_pick_t J hy4 J) J ?_)))))
   obtain rfl := sI ey4
   exact ow_nil (jy 6 0)
  have ey4 := cond_f ey4 hy4
  refine oO J hy4 J (oO J hy4 J (oO J hy4 J (oO J hy4 J (oO J hy4 J (oD (stp_pick_f J hy4 J) J ?_)))))
  obtain rfl := sI ey4
  exact ow_nil (jy 6 0)
 obtain ⟨y5, ey5, H0⟩ := bS H0
 refine oM J (ow_cutY 16 34 y5 ?_ ?_)
 ·rcases Bool.eq_false_or_eq_true y4 with hy5 | hy5
  ·have ey5 := cond_t ey5 hy5
   obtain ⟨y6, ey6, ey5⟩ := bS ey5
   refine oG J hy5 (fA 1 u66 J ts3 J J J) J (oG J hy5 (lB 0 ts3 J J J) J (oG J hy5 (fA 1 u66 J ts3 J J J) J (oG J hy5 (lB 1 ts3 J J J) J (oG J hy5 (stp_eql J J) J (oG J hy5 (mv J) J (ow_cutY 4 28 y6 ?_ ?_))))))
   ·rcases Bool.eq_false_or_eq_true (a0.tg == a1.tg) with hy6 | hy6
    ·have ey6 := cond_t ey6 hy6
     refine oO J hy6 J (oO J hy6 J (oO J hy6 J (oG J hy5 (stp_pick_t J hy6 J) J ?_)))
     obtain rfl := sI ey6
     exact ow_nil (jy 4 0)
    have ey6 := cond_f ey6 hy6
    refine oG J hy6 (fA 1 u66 J ts3 J J J) J (oG J hy6 (lB 0 ts3 J J J) J (oG J hy6 (stp_eql J J) J (oG J hy5 (stp_pick_f J hy6 J) J ?_)))
    obtain rfl := sI ey6
    exact ow_nil (jy 4 0)
   obtain ⟨y7, ey7, ey5⟩ := bS ey5
   refine oG J hy5 (mv J) J (ow_cutY 4 33 y7 ?_ ?_)
   ·rcases Bool.eq_false_or_eq_true y6 with hy7 | hy7
    ·have ey7 := cond_t ey7 hy7
     refine oO J hy7 J (oO J hy7 J (oO J hy7 J (oG J hy5 (stp_pick_t J hy7 J) J ?_)))
     obtain rfl := sI ey7
     exact ow_nil (jy 4 0)
    have ey7 := cond_f ey7 hy7
    refine oG J hy7 (fA 1 u66 J ts3 J J J) J (oG J hy7 (lB 1 ts3 J J J) J (oG J hy7 (stp_eql J J) J (oG J hy5 (stp_pick_f J hy7 J) J ?_)))
    obtain rfl := sI ey7
    exact ow_nil (jy 4 0)
   refine oD (stp_pick_t J hy5 J) J ?_
   obtain rfl := sI ey5
   exact ow_nil (jy 10 0)
  have ey5 := cond_f ey5 hy5
  refine oO J hy5 J (oO J hy5 J (oO J hy5 J (oO J hy5 J (oO J hy5 J (oO J hy5 J (oX J J J (oX J J J (oX J J J (oO J hy5 J (oO J hy5 J (oX J J J (oX J J J (oX J J J ?_)))))))))))))
  refine oO J hy5 J (oD (stp_pick_f J hy5 J) J ?_)
  obtain rfl := sI ey5
  exact ow_nil (jy 16 0)
 refine sn J (cw_ret ?_)
 obtain rfl := sI H0
 exact kr results83 (rT J) [] ⟨J, J⟩

theorem c_i_CacheValid (fl : Nat) (w : World) (a0 : Ca) (hn0_0 : n0_0 = (a0.l).length) (hr0_0 : RO w [] (RdL p0_0 c0_0 a0.l)) (r : Bool) (H0 : i_CacheValid fl a0 = some r) :
  Ct prog 37 [.agg #[.slice p0_0 n0_0 c0_0, I a0.h]] w [] (fun rv h' => rv = .bool r ∧ h' = []) := by
 subst hn0_0
 unfold i_CacheValid at H0
 refine ct_of_cw func37 J ntmps37 J (Sat.refl _ _) ?_
 refine sr (oE (stpU_box 0 J J) J ?_)
 rintro _ _ ⟨b1, rfl, rfl⟩
 obtain ⟨y2, ey2, H0⟩ := bS H0
 refine ss J (oAL 0 u29 J ts27 J 0 J (oD (stp_len u27 J) J (sq J (oM J (oW J (oM J (ow_cutY 3 17 y2 ?_ ?_)))))))
 ·rcases Bool.eq_false_or_eq_true (decide (((a0.l).length : Int) < 1)) with hy2 | hy2
  ·have ey2 := cond_t ey2 hy2
   refine oO J hy2 J (oO J hy2 J (oD (stp_pick_t J hy2 J) J ?_))
   obtain rfl := sI ey2
   exact ow_nil (jy 3 0)
  have ey2 := cond_f ey2 hy2
  refine oG J hy2 (mv J) J (oG J hy2 (stp_gtr J J) J (oD (stp_pick_f J hy2 J) J ?_))
  obtain rfl := sI ey2
  exact ow_nil (jy 3 0)
 obtain ⟨y3, ey3, H0⟩ := bS H0
 refine oM J (ow_cutY 6 24 y3 ?_ ?_)
 ·rcases Bool.eq_false_or_eq_true y2 with hy3 | hy3
  ·have ey3 := cond_t ey3 hy3
   refine oO J hy3 J (oO J hy3 J (oO J hy3 J (oO J hy3 J (oO J hy3 J (oD (stp_pick_t J hy3 J) J ?_)))))
   obtain rfl := sI ey3
   exact ow_nil (jy 6 0)
  have ey3 := cond_f ey3 hy3
  obtain ⟨x4, e4, ey3⟩ := bS ey3
  refine oG J hy3 (fA 1 u29 J ts3 J J J) J (oG J hy3 (lB 0 ts3 J J J) J (oG J hy3 (mv J) J (ow_eff (.some J hy3) (uC 1 cf29 (fun w hw => c_i_within fl w a0.h ((a0.l).length : Int) x4 e4) (yB J J)) J ?_)))
  rintro _ _ ⟨_, ⟨rfl, rfl⟩, rfl⟩
  refine oG J hy3 (stp_not J) J (oD (stp_pick_f J hy3 J) J ?_)
  obtain rfl := sI ey3
  exact ow_nil (jy 6 0)
 refine ow_nil (kw_nx (cH J H0 (fun H0 => ?_) (fun H0 => ?_)))
 ·refine sr (sr1 J (kR ?_))
  obtain rfl := sI H0
  exact kr results37 (rT J) [] ⟨J, J⟩
 obtain ⟨o0_0, eo0_0, H0⟩ := bS H0
 refine ks (sq J (oAL 0 u29 J ts27 J 0 J (oD (stp_len u27 J) J (oM J (nn (lp (fun f a b => i_CacheValid_L0 fl a0 f a b = some o0_0) (fun a b => o0_0 = .out (a, b)) (fun R s h => ∃ v6 v7, R v6 v7 ∧ s = [(1, .pointer (some ⟨b1, 0, none⟩)), (4, .bool v7), (26, .slice p0_0 ((a0.l).length) c0_0), (27, I ((a0.l).length : Int)), (28, I v6)] ∧ h = [(0, [(b1, .cells #[.slice p0_0 ((a0.l).length) c0_0, I a0.h] 29 (0, 0))])]) ⟨_, _, eo0_0, J, J⟩ ?_ ?_))))))
 ·rintro fuel _ _ ⟨v6, v7, H1, rfl, rfl⟩
  rcases fuel with _ | fuel
  ·rw [i_CacheValid_L0.eq_1] at H1; cases H1
  rw [i_CacheValid_L0.eq_2] at H1
  refine sr (oW J (nn (cq (cH J H1 (fun H1 => ?_) (fun H1 => ?_)))))
  ·obtain ⟨x9, e9, H1⟩ := bS H1
   refine kq (cw_block (sr (oM J (oD (stp_indexAddr u27 ts66 (by decide) J J J (Rdb.ro hr0_0) e9) J (oD (stp_loadN (us := [_, _, _, _, _, _]) ts66 J (Cells.el (Rdb.ro hr0_0) (by decide) e9 0 6 J)) J (oE (stpU_alloc 1 tz66 J) J ?_))))))
   rintro _ _ ⟨b10, rfl, rfl⟩
   obtain ⟨x11, e11, H1⟩ := bS H1
   refine oS J (oC6 1 ts66 J J (nq (oB6 1 ts66 J (oE (uC 2 cf79 (fun w hw => c_i_lineValid fl w x9 x11 e11) (yA J)) J ?_))))
   rintro _ _ ⟨_, ⟨rfl, rfl⟩, rfl⟩
   refine oK J (nn (cH J H1 (fun H1 => ?_) (fun H1 => ?_)))
   ·refine sr (sR J (kw_bl_ret (kR (ar (kw_bl_ret (xr (kR ?_)))))))
    obtain rfl := sI H1
    obtain rfl := sI H0
    exact kr results37 (rT J) [] ⟨J, J⟩
   obtain ⟨x13, e13, H1⟩ := bS H1
   obtain ⟨o1_1, eo1_1, H1⟩ := bS H1
   refine kq (sr (oAL 0 u29 J ts27 J 0 J (oM J (oD (stp_take u27 ts66 J J J (Rdb.ro hr0_0) e13) J (oD (stp_len u27 J) J (oM J (nn (lp (fun f a => i_CacheValid_L1 fl x9 x13 f a = some o1_1) (fun a => o1_1 = .out a) (fun R s h => ∃ v14, R v14 ∧ s = [(1, .pointer (some ⟨b1, 0, none⟩)), (4, .bool v7), (6, .pointer (some ⟨b10, 0, none⟩)), (26, .slice p0_0 ((a0.l).length) c0_0), (27, I ((a0.l).length : Int)), (28, I v6), (39, .slice p0_0 ((x13).length) c0_0), (40, I ((x13).length : Int)), (41, I v14)] ∧ h = [(0, [(b1, .cells #[.slice p0_0 ((a0.l).length) c0_0, I a0.h] 29 (0, 0))]), (1, [(b10, .cells #[.bool x9.va, I x9.tg, I x9.pg, I x9.fr, I x9.ri, .bool x9.wi] 66 (0, 0))])]) ⟨_, eo1_1, J, J⟩ ?_ ?_))))))))
   ·rintro fuel _ _ ⟨v14, H2, rfl, rfl⟩
    try dsimp only at H2
    rcases fuel with _ | fuel
    ·rw [i_CacheValid_L1.eq_1] at H2; cases H2
    rw [i_CacheValid_L1.eq_2] at H2
    refine sr (oW J (nn (cq (cH J H2 (fun H2 => ?_) (fun H2 => ?_)))))
    ·obtain ⟨x16, e16, H2⟩ := bS H2
     refine kq (cw_block (sr (oD (stp_indexAddr u27 ts66 (by decide) J J J (Rdb.ro (RO.take hr0_0 e13)) e16) J (oD (stp_loadN (us := [_, _, _, _, _, _]) ts66 J (Cells.el (Rdb.ro (RO.take hr0_0 e13)) (by decide) e16 0 6 J)) J (oE (stpU_alloc 2 tz66 J) J ?_)))))
     rintro _ _ ⟨b17, rfl, rfl⟩
     obtain ⟨x18, e18, H2⟩ := bS H2
     refine oC6 2 ts66 J J (ns (oB6 1 ts66 J (oB6 2 ts66 J (oE (uC 3 cf83 (fun w hw => c_i_clash fl w x9 x16 x18 e18) (yB J J)) J ?_))))
     rintro _ _ ⟨_, ⟨rfl, rfl⟩, rfl⟩
     refine nn (cH J H2 (fun H2 => ?_) (fun H2 => ?_))
     ·refine sr (sr1 J (kw_bl_ret (kR (ar (kw_bl_ret (xr (kR (kw_bl_ret (kR (ar (kw_bl_ret ?_)))))))))))
      refine xr (kR ?_)
      obtain rfl := sI H2
      obtain rfl := sI H1
      obtain rfl := sI H0
      exact kr results37 (rT J) [] ⟨J, J⟩
     obtain ⟨x20, e20, H2⟩ := bS H2
     exact cw_skip (kb (cR (oP e20 J (oM J (ow_nil (ka ⟨_, H2, J, J⟩))))))
    refine cw_exit (kw_nx_exit (ax (kw_bl ?_)))
    obtain rfl := sI H2
    exact kx ⟨_, J, J, J⟩
   rintro _ _ ⟨v14, rfl, rfl, rfl⟩
   obtain ⟨y21, ey21, H1⟩ := bS H1
   refine kw_nx (cR (oM J (oM J (ow_cutY 4 54 y21 ?_ ?_))))
   ·rcases Bool.eq_false_or_eq_true v7 with hy21 | hy21
    ·have ey21 := cond_t ey21 hy21
     refine oO J hy21 J (oO J hy21 J (oO J hy21 J (oD (stp_pick_t J hy21 J) J ?_)))
     obtain rfl := sI ey21
     exact ow_nil (jy 4 0)
    have ey21 := cond_f ey21 hy21
    refine oG J hy21 (fA 5 u66 J ts4 J J J) J (oG J hy21 (lB 1 ts4 J J J) J (oG J hy21 (stp_not J) J (oD (stp_pick_f J hy21 J) J ?_)))
    obtain rfl := sI ey21
    exact ow_nil (jy 4 0)
   obtain ⟨x22, e22, H1⟩ := bS H1
   exact oS J (ow_nil (kb (cR (oP e22 J (oM J (ow_nil (ka ⟨_, _, H1, J, J⟩)))))))
  refine cw_exit (kw_nx_exit (ax (kw_bl ?_)))
  obtain rfl := sI H1
  exact kx ⟨_, _, J, J, J⟩
 rintro _ _ ⟨v6, v7, rfl, rfl, rfl⟩
 refine kw_nx (sr (oM J (sn J (cw_ret ?_))))
 obtain rfl := sI H0
 exact kr results37 (rT J) [] ⟨J, J⟩

theorem c_i_TagsValid (fl : Nat) (w : World) (a0 : Tg) (hn0_0 : n0_0 = (a0.o).length) (hr0_0 : RO w [] (RdL p0_0 c0_0 a0.o)) (r : Bool) (H0 : i_TagsValid fl a0 = some r) :
  Ct prog 38 [.agg #[I a0.c, I a0.n, I a0.r, .slice p0_0 n0_0 c0_0]] w [] (fun rv h' => rv = .bool r ∧ h' = []) := by
 subst hn0_0
 unfold i_TagsValid at H0
 refine ct_of_cw func38 J ntmps38 J (Sat.refl _ _) ?_
 refine sr (oE (stpU_box 0 J J) J ?_)
 rintro _ _ ⟨b1, rfl, rfl⟩
 obtain ⟨y2, ey2, H0⟩ := bS H0
 refine sq J (oAL 0 u32 J ts3 J 0 J (oW J (oM J (ow_cutY 4 14 y2 ?_ ?_))))
 ·rcases Bool.eq_false_or_eq_true (decide (a0.c < 1)) with hy2 | hy2
  ·have ey2 := cond_t ey2 hy2
   refine oO J hy2 J (oO J hy2 J (oO J hy2 J (oD (stp_pick_t J hy2 J) J ?_)))
   obtain rfl := sI ey2
   exact ow_nil (jy 4 0)
  have ey2 := cond_f ey2 hy2
  refine oG J hy2 (fA 0 u32 J ts3 J J J) J (oG J hy2 (lB 0 ts3 J J J) J (oG J hy2 (stp_gtr J J) J (oD (stp_pick_f J hy2 J) J ?_)))
  obtain rfl := sI ey2
  exact ow_nil (jy 4 0)
 obtain ⟨y3, ey3, H0⟩ := bS H0
 refine oM J (ow_cutY 4 19 y3 ?_ ?_)
 ·rcases Bool.eq_false_or_eq_true y2 with hy3 | hy3
  ·have ey3 := cond_t ey3 hy3
   refine oO J hy3 J (oO J hy3 J (oO J hy3 J (oD (stp_pick_t J hy3 J) J ?_)))
   obtain rfl := sI ey3
   exact ow_nil (jy 4 0)
  have ey3 := cond_f ey3 hy3
  refine oG J hy3 (fA 1 u32 J ts3 J J J) J (oG J hy3 (lB 0 ts3 J J J) J (oG J hy3 (stp_lss J J) J (oD (stp_pick_f J hy3 J) J ?_)))
  obtain rfl := sI ey3
  exact ow_nil (jy 4 0)
 obtain ⟨y4, ey4, H0⟩ := bS H0
 refine oM J (ow_cutY 6 26 y4 ?_ ?_)
 ·rcases Bool.eq_false_or_eq_true y3 with hy4 | hy4
  ·have ey4 := cond_t ey4 hy4
   refine oO J hy4 J (oO J hy4 J (oO J hy4 J (oO J hy4 J (oO J hy4 J (oD (stp_pick_t J hy4 J) J ?_)))))
   obtain rfl := sI ey4
   exact ow_nil (jy 6 0)
  have ey4 := cond_f ey4 hy4
  refine oG J hy4 (fA 1 u32 J ts3 J J J) J (oG J hy4 (lB 0 ts3 J J J) J (oG J hy4 (fA 0 u32 J ts3 J J J) J (oG J hy4 (lB 0 ts3 J J J) J (oG J hy4 (stp_gtr J J) J (oD (stp_pick_f J hy4 J) J ?_)))))
  obtain rfl := sI ey4
  exact ow_nil (jy 6 0)
 obtain ⟨y5, ey5, H0⟩ := bS H0
 refine oM J (ow_cutY 4 31 y5 ?_ ?_)
 ·rcases Bool.eq_false_or_eq_true y4 with hy5 | hy5
  ·have ey5 := cond_t ey5 hy5
   refine oO J hy5 J (oO J hy5 J (oO J hy5 J (oD (stp_pick_t J hy5 J) J ?_)))
   obtain rfl := sI ey5
   exact ow_nil (jy 4 0)
  have ey5 := cond_f ey5 hy5
  refine oG J hy5 (fA 2 u32 J ts3 J J J) J (oG J hy5 (lB 0 ts3 J J J) J (oG J hy5 (stp_lss J J) J (oD (stp_pick_f J hy5 J) J ?_)))
  obtain rfl := sI ey5
  exact ow_nil (jy 4 0)
 obtain ⟨y6, ey6, H0⟩ := bS H0
 refine oM J (ow_cutY 4 36 y6 ?_ ?_)
 ·rcases Bool.eq_false_or_eq_true y5 with hy6 | hy6
  ·have ey6 := cond_t ey6 hy6
   refine oO J hy6 J (oO J hy6 J (oO J hy6 J (oD (stp_pick_t J hy6 J) J ?_)))
   obtain rfl := sI ey6
   exact ow_nil (jy 4 0)
  have ey6 := cond_f ey6 hy6
  refine oG J hy6 (fA 2 u32 J ts3 J J J) J (oG J hy6 (lB 0 ts3 J J J) J (oG J hy6 (stp_gtr J J) J (oD (stp_pick_f J hy6 J) J ?_)))
  obtain rfl := sI ey6
  exact ow_nil (jy 4 0)
 refine ow_nil (kw_nx (cH J H0 (fun H0 => ?_) (fun H0 => ?_)))
 ·refine sr (sr1 J (kR ?_))
  obtain rfl := sI H0
  exact kr results38 (rT J) [] ⟨J, J⟩
 refine ks (oE (stpU_makeMap 1 3) J ?_)
 rintro _ _ ⟨b8, C9, rfl, rfl, o9⟩
 obtain ⟨o0_0, eo0_0, H0⟩ := bS H0
 refine ss J (sq J (oAL 3 u32 J ts30 J 0 J (oD (stp_len u30 J) J (oM J (nn (lp (fun f a b c => i_TagsValid_L0 fl a0 f a b c = some o0_0) (fun a b c => o0_0 = .out (a, b, c)) (fun R s h => ∃ v10 v12 v13 C11, R v10 v12 v13 ∧ s = [(1, .pointer (some ⟨b1, 0, none⟩)), (3, .map (some b8)), (4, I v12), (39, .slice p0_0 ((a0.o).length) c0_0), (40, I ((a0.o).length : Int)), (41, I v13)] ∧ h = [(0, [(b1, .cells #[I a0.c, I a0.n, I a0.r, .slice p0_0 ((a0.o).length) c0_0] 32 (0, 0))]), (1, C11)] ∧ True ∧ OwnM prog 3 b8 v10 C11) ⟨_, _, _, C9, eo0_0, J, J, trivial, o9⟩ ?_ ?_))))))
 ·rintro fuel _ _ ⟨v10, v12, v13, C11, H1, rfl, rfl, hl11, o11⟩
  rcases fuel with _ | fuel
  ·rw [i_TagsValid_L0.eq_1] at H1; cases H1
  rw [i_TagsValid_L0.eq_2] at H1
  refine sr (oW J (nn (cq (cH J H1 (fun H1 => ?_) (fun H1 => ?_)))))
  ·obtain ⟨x15, e15, H1⟩ := bS H1
   refine kq (cw_block (sr (oD (stp_indexAddr u30 ts108 (by decide) J J J (Rdb.ro hr0_0) e15) J (oD (stp_loadN (us := [_, _]) ts108 J (Cells.el (Rdb.ro hr0_0) (by decide) e15 0 2 J)) J (oE (stpU_alloc 2 tz108 J) J ?_)))))
   rintro _ _ ⟨b16, rfl, rfl⟩
   obtain ⟨y17, ey17, H1⟩ := bS H1
   refine oC2 2 ts108 J J (nq (oAL 1 u108 J ts3 J 2 J (oM J (oV J (oM J (ow_cutY 6 55 y17 ?_ ?_))))))
   ·rcases Bool.eq_false_or_eq_true (decide (x15.tg ≤ v12)) with hy17 | hy17
    ·have ey17 := cond_t ey17 hy17
     refine oO J hy17 J (oO J hy17 J (oO J hy17 J (oO J hy17 J (oO J hy17 J (oD (stp_pick_t J hy17 J) J ?_)))))
     obtain rfl := sI ey17
     exact ow_nil (jy 6 0)
    have ey17 := cond_f ey17 hy17
    refine oG J hy17 (fA 1 u108 J ts3 J J J) J (oG J hy17 (lB 2 ts3 J J J) J (oG J hy17 (fA 1 u32 J ts3 J J J) J (oG J hy17 (lB 0 ts3 J J J) J (oG J hy17 (stp_geq J J) J (oD (stp_pick_f J hy17 J) J ?_)))))
    obtain rfl := sI ey17
    exact ow_nil (jy 6 0)
   obtain ⟨y18, ey18, H1⟩ := bS H1
   refine oM J (ow_cutY 5 61 y18 ?_ ?_)
   ·rcases Bool.eq_false_or_eq_true y17 with hy18 | hy18
    ·have ey18 := cond_t ey18 hy18
     refine oO J hy18 J (oO J hy18 J (oO J hy18 J (oO J hy18 J (oD (stp_pick_t J hy18 J) J ?_))))
     obtain rfl := sI ey18
     exact ow_nil (jy 5 0)
    have ey18 := cond_f ey18 hy18
    obtain ⟨x19, e19, ey18⟩ := bS ey18
    refine oG J hy18 (fA 0 u108 J ts3 J J J) J (oG J hy18 (lB 2 ts3 J J J) J (ow_eff (.some J hy18) (uC 3 cf29 (fun w hw => c_i_within fl w x15.sp 16 x19 e19) (yB J J)) J ?_))
    rintro _ _ ⟨_, ⟨rfl, rfl⟩, rfl⟩
    refine oG J hy18 (stp_not J) J (oD (stp_pick_f J hy18 J) J ?_)
    obtain rfl := sI ey18
    exact ow_nil (jy 5 0)
   obtain ⟨y20, ey20, H1⟩ := bS H1
   refine oM J (ow_cutY 5 67 y20 ?_ ?_)
   ·rcases Bool.eq_false_or_eq_true y18 with hy20 | hy20
    ·have ey20 := cond_t ey20 hy20
     refine oO J hy20 J (oO J hy20 J (oO J hy20 J (oO J hy20 J (oD (stp_pick_t J hy20 J) J ?_))))
     obtain rfl := sI ey20
     exact ow_nil (jy 5 0)
    have ey20 := cond_f ey20 hy20
    obtain ⟨x21, e21, ey20⟩ := bS ey20
    refine oG J hy20 (mv J) J (oG J hy20 (fA 0 u108 J ts3 J J J) J (oG J hy20 (lB 2 ts3 J J J) J (oG J hy20 (stp_has (id := 1) keyInt isKeyInt u118 tz4 J J J o11 e21) J (oD (stp_pick_f J hy20 J) J ?_))))
    obtain rfl := sI ey20
    exact ow_nil (jy 5 0)
   refine ow_nil (kw_nx (cH J H1 (fun H1 => ?_) (fun H1 => ?_)))
   ·refine sr (sR J (kw_bl_ret (kR (ar (kw_bl_ret (xr (kR ?_)))))))
    obtain rfl := sI H1
    obtain rfl := sI H0
    exact kr results38 (rT J) [] ⟨J, J⟩
   obtain ⟨x23, e23, H1⟩ := bS H1
   refine ks (oAL 1 u108 J ts3 J 2 J (sn J (cR (oM J (oAL 0 u108 J ts3 J 2 J (oF (stpU_add (id := 1) keyInt isKeyInt u118 J J J J o11 e23) ?_))))))
   rintro _ _ ⟨C24, rfl, o24⟩
   obtain ⟨x25, e25, H1⟩ := bS H1
   exact ow_nil (kb (cR (oP e25 J (oM J (ow_nil (ka ⟨_, _, _, C24, H1, J, J, trivial, o24⟩))))))
  refine cw_exit (kw_nx_exit (ax (kw_bl ?_)))
  obtain rfl := sI H1
  exact kx ⟨_, _, _, C11, J, J, J, trivial, o11⟩
 rintro _ _ ⟨v10, v12, v13, C11, rfl, rfl, rfl, hl11, o11⟩
 refine kw_nx (sr (sn J (cw_ret ?_)))
 obtain rfl := sI H0
 exact kr results38 (rT J) [] ⟨J, J⟩

theorem c_i_Tags_own_1 (fl : Nat) (w : World) (a0 : Ow) (qc0 : Nat) (ac0 : Int) (hbac0 : RO w [] (fun w' => w'.rangeAt qc0 0 [I ac0])) (r : Bool) (H0 : i_Tags_own_1 fl a0 ac0 = some r) :
  Ct prog 85 [.agg #[I a0.sp, I a0.tg], .pointer (some ⟨qc0, 0, none⟩)] w [] (fun rv h' => rv = .bool r ∧ h' = []) := by
 unfold i_Tags_own_1 at H0
 refine ct_of_cw func85 J ntmps85 J (Sat.refl _ _) ?_
 refine sr (oE (stpU_box 0 J J) J ?_)
 rintro _ _ ⟨b1, rfl, rfl⟩
 refine ss J (oAL 0 u108 J ts3 J 0 J (oD (stp_load1 ts3 J (Cells.ofRO hbac0 1 J)) J (oQ J (sn J (cw_ret ?_)))))
 obtain rfl := sI H0
 exact kr results85 (rT J) [] ⟨J, J⟩

theorem c_slices_IndexFunc_Own_of_i_Tags_own_1 (fl : Nat) (w : World) (a0 : (List Ow)) (q1_0 : Nat) (a1_0 : Int) (hn0_0 : n0_0 = (a0).length) (hr0_0 : RO w [] (RdL p0_0 c0_0 a0)) (hba1_0 : RO w [] (fun w' => w'.rangeAt q1_0 0 [I a1_0])) (r : Int) (H0 : slices_IndexFunc_Own_of_i_Tags_own_1 fl a0 a1_0 = some r) :
  Ct prog 84 [.slice p0_0 n0_0 c0_0, .func (.func 85) #[] #[.pointer (some ⟨q1_0, 0, none⟩)]] w [] (fun rv h' => rv = I r ∧ h' = []) := by
 subst hn0_0
 unfold slices_IndexFunc_Own_of_i_Tags_own_1 at H0
 refine ct_of_cw func84 J ntmps84 J (Sat.refl _ _) ?_
 obtain ⟨o0_0, eo0_0, H0⟩ := bS H0
 refine sr (sq J (oM J (oD (stp_len u30 J) J (oM J (nn (lp (fun f a => slices_IndexFunc_Own_of_i_Tags_own_1_L0 fl a0 a1_0 f a = some o0_0) (fun a => o0_0 = .out a) (fun R s h => ∃ v1, R v1 ∧ s = [(0, .slice p0_0 ((a0).length) c0_0), (1, .func (.func 85) #[] #[.pointer (some ⟨q1_0, 0, none⟩)]), (7, I ((a0).length : Int)), (8, I v1)] ∧ h = []) ⟨_, eo0_0, J, J⟩ ?_ ?_))))))
 ·rintro fuel _ _ ⟨v1, H1, rfl, rfl⟩
  rcases fuel with _ | fuel
  ·rw [slices_IndexFunc_Own_of_i_Tags_own_1_L0.eq_1] at H1; cases H1
  rw [slices_IndexFunc_Own_of_i_Tags_own_1_L0.eq_2] at H1
  refine sr (oW J (nn (cq (cH J H1 (fun H1 => ?_) (fun H1 => ?_)))))
  ·obtain ⟨x3, e3, H1⟩ := bS H1
   refine kq (cw_block (sr (oM J (ss J (oM J (oM J (oM J (oD (stp_indexAddr u30 ts108 (by decide) J J J (Rdb.ro hr0_0) e3) J (oD (stp_loadN (us := [_, _]) ts108 J (Cells.el (Rdb.ro hr0_0) (by decide) e3 0 2 J)) J ?_)))))))))
   obtain ⟨x4, e4, H1⟩ := bS H1
   refine oE (stpU_callF (vals := [_]) (ca := [_]) (fun i => 0 + i) cf85 (fun w hw => c_i_Tags_own_1 fl w x3 q1_0 a1_0 (rp hba1_0 hw) x4 e4) J (yA J)) J ?_
   rintro _ _ ⟨_, ⟨rfl, rfl⟩, rfl⟩
   refine nn (cH J H1 (fun H1 => ?_) (fun H1 => ?_))
   ·refine sr (oM J (sr1 J (kw_bl_ret (kR (ar (kw_bl_ret (xr (kR ?_))))))))
    obtain rfl := sI H1
    obtain rfl := sI H0
    exact kr results84 (rT J) [] ⟨J, J⟩
   obtain ⟨x6, e6, H1⟩ := bS H1
   exact cw_skip (kb (cR (oP e6 J (oM J (ow_nil (ka ⟨_, H1, J, J⟩))))))
  refine cw_exit (kw_nx_exit (ax (kw_bl ?_)))
  obtain rfl := sI H1
  exact kx ⟨_, J, J, J⟩
 rintro _ _ ⟨v1, rfl, rfl, rfl⟩
 refine kw_nx (sr (sn J (cw_ret ?_)))
 obtain rfl := sI H0
 exact kr results84 (rT J) [] ⟨J, J⟩

theorem c_i_Tags_own (fl : Nat) (w : World) (a0 : Tg) (a1 : Int) (hn0_0 : n0_0 = (a0.o).length) (hr0_0 : RO w [] (RdL p0_0 c0_0 a0.o)) (r : Int) (H0 : i_Tags_own fl a0 a1 = some r) :
  Ct prog 39 [.agg #[I a0.c, I a0.n, I a0.r, .slice p0_0 n0_0 c0_0], I a1] w [] (fun rv h' => rv = I r ∧ h' = []) := by
 subst hn0_0
 unfold i_Tags_own at H0
 refine ct_of_cw func39 J ntmps39 J (Sat.refl _ _) ?_
 refine sr (oE (stpU_box 0 J J) J ?_)
 rintro _ _ ⟨b1, rfl, rfl⟩
 refine oE (stpU_box 1 J J) J ?_
 rintro _ _ ⟨b2, rfl, rfl⟩
 obtain ⟨x3, e3, H0⟩ := bS H0
 refine ss J (oAL 3 u32 J ts30 J 0 J (oD (stp_makeFunc (yA J)) J (oE (uC 2 cf84 (fun w hw => c_slices_IndexFunc_Own_of_i_Tags_own_1 fl w a0.o b2 a1 J (rp hr0_0 hw) (box_pass (id := 1) J hw) x3 e3) (yB J J)) J ?_)))
 rintro _ _ ⟨_, ⟨rfl, rfl⟩, rfl⟩
 refine sn J (cw_ret ?_)
 obtain rfl := sI H0
 exact kr results39 (rT J) [] ⟨J, J⟩

theorem c_i_SpaceOf (fl : Nat) (w : World) (a0 : Tg) (a1 : Int) (hn0_0 : n0_0 = (a0.o).length) (hr0_0 : RO w [] (RdL p0_0 c0_0 a0.o)) (r : Int × Bool) (H0 : i_SpaceOf fl a0 a1 = some r) :
  Ct prog 40 [.agg #[I a0.c, I a0.n, I a0.r, .slice p0_0 n0_0 c0_0], I a1] w [] (fun rv h' => rv = .tuple #[I r.1, .bool r.2] ∧ h' = []) := by
 subst hn0_0
 unfold i_SpaceOf at H0
 refine ct_of_cw func40 J ntmps40 J (Sat.refl _ _) ?_
 refine sr (oE (stpU_box 0 J J) J ?_)
 rintro _ _ ⟨b1, rfl, rfl⟩
 obtain ⟨x2, e2, H0⟩ := bS H0
 refine oS J (sq J (oB4 0 ts32 J (oE (uC 1 cf38 (fun w hw => c_i_TagsValid fl w a0 J (rp hr0_0 hw) x2 e2) (yA J)) J ?_)))
 rintro _ _ ⟨_, ⟨rfl, rfl⟩, rfl⟩
 refine oK J (nn (cH J H0 (fun H0 => ?_) (fun H0 => ?_)))
 ·refine sr (oS J (sr1 J (kR ?_)))
  obtain rfl := sI H0
  exact kr results40 (.cons (.tmp J) (rT J)) [] ⟨J, J⟩
 obtain ⟨o0_0, eo0_0, H0⟩ := bS H0
 refine kq (sr (oAL 3 u32 J ts30 J 0 J (oD (stp_len u30 J) J (oM J (nn (lp (fun f a => i_SpaceOf_L0 fl a0 a1 f a = some o0_0) (fun a => o0_0 = .out a) (fun R s h => ∃ v4, R v4 ∧ s = [(1, I a1), (12, .slice p0_0 ((a0.o).length) c0_0), (13, I ((a0.o).length : Int)), (14, I v4)] ∧ h = []) ⟨_, eo0_0, J, J⟩ ?_ ?_))))))
 ·rintro fuel _ _ ⟨v4, H1, rfl, rfl⟩
  rcases fuel with _ | fuel
  ·rw [i_SpaceOf_L0.eq_1] at H1; cases H1
  rw [i_SpaceOf_L0.eq_2] at H1
  refine sr (oW J (nn (cq (cH J H1 (fun H1 => ?_) (fun H1 => ?_)))))
  ·obtain ⟨x6, e6, H1⟩ := bS H1
   refine kq (cw_block (sr (oD (stp_indexAddr u30 ts108 (by decide) J J J (Rdb.ro hr0_0) e6) J (oD (stp_loadN (us := [_, _]) ts108 J (Cells.el (Rdb.ro hr0_0) (by decide) e6 0 2 J)) J (oE (stpU_alloc 1 tz108 J) J ?_)))))
   rintro _ _ ⟨b7, rfl, rfl⟩
   refine oC2 1 ts108 J J (ns (oAL 1 u108 J ts3 J 1 J (oM J (oQ J (nn (cH J H1 (fun H1 => ?_) (fun H1 => ?_)))))))
   ·refine sr (oAL 0 u108 J ts3 J 1 J (oS J (sr1 J (kw_bl_ret (kR (ar (kw_bl_ret (xr (kR ?_)))))))))
    obtain rfl := sI H1
    obtain rfl := sI H0
    exact kr results40 (.cons (.tmp J) (rT J)) [] ⟨J, J⟩
   obtain ⟨x9, e9, H1⟩ := bS H1
   exact cw_skip (kb (cR (oP e9 J (oM J (ow_nil (ka ⟨_, H1, J, J⟩))))))
  refine cw_exit (kw_nx_exit (ax (kw_bl ?_)))
  obtain rfl := sI H1
  exact kx ⟨_, J, J, J⟩
 rintro _ _ ⟨v4, rfl, rfl, rfl⟩
 refine kw_nx (sr (oS J (sn J (cw_ret ?_))))
 obtain rfl := sI H0
 exact kr results40 (.cons (.tmp J) (rT J)) [] ⟨J, J⟩

theorem c_i_KeyFor (fl : Nat) (w : World) (a0 : Int) (a1 : Int) (r : K) (H0 : i_KeyFor fl a0 a1 = some r) :
  Ct prog 34 [I a0, I a1] w [] (fun rv h' => rv = .agg #[I r.s, I r.p] ∧ h' = []) := by
 unfold i_KeyFor at H0
 refine ct_of_cw func34 J ntmps34 J (Sat.refl _ _) ?_
 refine sr (oE (stpU_alloc 0 tz36 J) J ?_)
 rintro _ _ ⟨b1, rfl, rfl⟩
 refine nq (oM J (oI J (nn (cH J H0 (fun H0 => ?_) (fun H0 => ?_)))))
 ·refine cR (ss J (oM J (oM J (oD (stp_build (cs := #[I 0, I a1]) (sP J (sP J sE)) bt36_13) J (oC2 0 ts36 J J (nn (cw_ret ?_)))))))
  obtain rfl := sI H0
  exact kr results34 (rC2 0 ts36 J J) [] ⟨J, J⟩
 refine ks (oM J (oM J (oD (stp_build (cs := #[I a0, I a1]) (sP J (sP J sE)) bt36_13) J (oC2 0 ts36 J J (nn (cw_ret ?_))))))
 obtain rfl := sI H0
 exact kr results34 (rC2 0 ts36 J J) [] ⟨J, J⟩

theorem c_i_Table_find_1 (fl : Nat) (w : World) (a0 : F) (qc0 : Nat) (ac0 : K) (hbac0 : RO w [] (fun w' => w'.rangeAt qc0 0 [I ac0.s, I ac0.p])) (r : Bool) (H0 : i_Table_find_1 fl a0 ac0 = some r) :
  Ct prog 77 [.agg #[.bool a0.u, I a0.k.s, I a0.k.p, I a0.r, I a0.nx], .pointer (some ⟨qc0, 0, none⟩)] w [] (fun rv h' => rv = .bool r ∧ h' = []) := by
 unfold i_Table_find_1 at H0
 refine ct_of_cw func77 J ntmps77 J (Sat.refl _ _) ?_
 refine sr (oE (stpU_box 0 J J) J ?_)
 rintro _ _ ⟨b1, rfl, rfl⟩
 obtain ⟨y2, ey2, H0⟩ := bS H0
 refine ss J (oAL 0 u74 J ts4 J 0 J (oM J (ow_cutY 5 11 y2 ?_ ?_)))
 ·rcases Bool.eq_false_or_eq_true a0.u with hy2 | hy2
  ·have ey2 := cond_t ey2 hy2
   refine oG J hy2 (fA 1 u74 J ts36 J J J) J (oG J hy2 (stp_loadN (us := [_, _]) ts36 J (Cells.box (id := 0) J 2 J)) J (oG J hy2 (stp_loadN (us := [_, _]) ts36 J (Cells.ofRO hbac0 2 J)) J (oG J hy2 (stp_eqlS te36 a0.k ac0 J J) J (oD (stp_pick_t J hy2 J) J ?_))))
   obtain rfl := sI ey2
   exact ow_nil (jy 5 0)
  have ey2 := cond_f ey2 hy2
  refine oO J hy2 J (oO J hy2 J (oO J hy2 J (oO J hy2 J (oD (stp_pick_f J hy2 J) J ?_))))
  obtain rfl := sI ey2
  exact ow_nil (jy 5 0)
 refine sn J (cw_ret ?_)
 obtain rfl := sI H0
 exact kr results77 (rT J) [] ⟨J, J⟩

theorem c_slices_IndexFunc_Frame_of_i_Table_find_1 (fl : Nat) (w : World) (a0 : (List F)) (q1_0 : Nat) (a1_0 : K) (hn0_0 : n0_0 = (a0).length) (hr0_0 : RO w [] (RdL p0_0 c0_0 a0)) (hba1_0 : RO w [] (fun w' => w'.rangeAt q1_0 0 [I a1_0.s, I a1_0.p])) (r : Int) (H0 : slices_IndexFunc_Frame_of_i_Table_find_1 fl a0 a1_0 = some r) :
  Ct prog 76 [.slice p0_0 n0_0 c0_0, .func (.func 77) #[] #[.pointer (some ⟨q1_0, 0, none⟩)]] w [] (fun rv h' => rv = I r ∧ h' = []) := by
 subst hn0_0
 unfold slices_IndexFunc_Frame_of_i_Table_find_1 at H0
 refine ct_of_cw func76 J ntmps76 J (Sat.refl _ _) ?_
 obtain ⟨o0_0, eo0_0, H0⟩ := bS H0
 refine sr (sq J (oM J (oD (stp_len u24 J) J (oM J (nn (lp (fun f a => slices_IndexFunc_Frame_of_i_Table_find_1_L0 fl a0 a1_0 f a = some o0_0) (fun a => o0_0 = .out a) (fun R s h => ∃ v1, R v1 ∧ s = [(0, .slice p0_0 ((a0).length) c0_0), (1, .func (.func 77) #[] #[.pointer (some ⟨q1_0, 0, none⟩)]), (7, I ((a0).length : Int)), (8, I v1)] ∧ h = []) ⟨_, eo0_0, J, J⟩ ?_ ?_))))))
 ·rintro fuel _ _ ⟨v1, H1, rfl, rfl⟩
  rcases fuel with _ | fuel
  ·rw [slices_IndexFunc_Frame_of_i_Table_find_1_L0.eq_1] at H1; cases H1
  rw [slices_IndexFunc_Frame_of_i_Table_find_1_L0.eq_2] at H1
  refine sr (oW J (nn (cq (cH J H1 (fun H1 => ?_) (fun H1 => ?_)))))
  ·obtain ⟨x3, e3, H1⟩ := bS H1
   refine kq (cw_block (sr (oM J (ss J (oM J (oM J (oM J (oD (stp_indexAddr u24 ts74 (by decide) J J J (Rdb.ro hr0_0) e3) J (oD (stp_loadN (us := [_, _, _, _, _]) ts74 J (Cells.el (Rdb.ro hr0_0) (by decide) e3 0 5 J)) J ?_)))))))))
   obtain ⟨x4, e4, H1⟩ := bS H1
   refine oE (stpU_callF (vals := [_]) (ca := [_]) (fun i => 0 + i) cf77 (fun w hw => c_i_Table_find_1 fl w x3 q1_0 a1_0 (rp hba1_0 hw) x4 e4) J (yA J)) J ?_
   rintro _ _ ⟨_, ⟨rfl, rfl⟩, rfl⟩
   refine nn (cH J H1 (fun H1 => ?_) (fun H1 => ?_))
   ·refine sr (oM J (sr1 J (kw_bl_ret (kR (ar (kw_bl_ret (xr (kR ?_))))))))
    obtain rfl := sI H1
    obtain rfl := sI H0
    exact kr results76 (rT J) [] ⟨J, J⟩
   obtain ⟨x6, e6, H1⟩ := bS H1
   exact cw_skip (kb (cR (oP e6 J (oM J (ow_nil (ka ⟨_, H1, J, J⟩))))))
  refine cw_exit (kw_nx_exit (ax (kw_bl ?_)))
  obtain rfl := sI H1
  exact kx ⟨_, J, J, J⟩
 rintro _ _ ⟨v1, rfl, rfl, rfl⟩
 refine kw_nx (sr (sn J (cw_ret ?_)))
 obtain rfl := sI H0
 exact kr results76 (rT J) [] ⟨J, J⟩

theorem c_i_Table_find (fl : Nat) (w : World) (a0 : T) (a1 : K) (hn0_0 : n0_0 = (a0.b).length) (hr0_0 : RO w [] (RdL p0_0 c0_0 a0.b)) (hn0_1 : n0_1 = (a0.f).length) (hr0_1 : RO w [] (RdL p0_1 c0_1 a0.f)) (r : Int) (H0 : i_Table_find fl a0 a1 = some r) :
  Ct prog 33 [.agg #[.slice p0_0 n0_0 c0_0, .slice p0_1 n0_1 c0_1], .agg #[I a1.s, I a1.p]] w [] (fun rv h' => rv = I r ∧ h' = []) := by
 subst hn0_0 hn0_1
 unfold i_Table_find at H0
 refine ct_of_cw func33 J ntmps33 J (Sat.refl _ _) ?_
 refine sr (oE (stpU_box 0 J J) J ?_)
 rintro _ _ ⟨b1, rfl, rfl⟩
 refine oE (stpU_box 1 J J) J ?_
 rintro _ _ ⟨b2, rfl, rfl⟩
 obtain ⟨x3, e3, H0⟩ := bS H0
 refine ss J (oAL 1 u26 J ts24 J 0 J (oD (stp_makeFunc (yA J)) J (oE (uC 2 cf76 (fun w hw => c_slices_IndexFunc_Frame_of_i_Table_find_1 fl w a0.f b2 a1 J (rp hr0_1 hw) (box_pass (id := 1) J hw) x3 e3) (yB J J)) J ?_)))
 rintro _ _ ⟨_, ⟨rfl, rfl⟩, rfl⟩
 refine sn J (cw_ret ?_)
 obtain rfl := sI H0
 exact kr results33 (rT J) [] ⟨J, J⟩

theorem c_i_MachineValid (fl : Nat) (w : World) (a0 : Mc) (hn0_0 : n0_0 = (a0.t.b).length) (hr0_0 : RO w [] (RdL p0_0 c0_0 a0.t.b)) (hn0_1 : n0_1 = (a0.t.f).length) (hr0_1 : RO w [] (RdL p0_1 c0_1 a0.t.f)) (hn0_2 : n0_2 = (a0.c.l).length) (hr0_2 : RO w [] (RdL p0_2 c0_2 a0.c.l)) (hn0_3 : n0_3 = (a0.g.o).length) (hr0_3 : RO w [] (RdL p0_3 c0_3 a0.g.o)) (hg : RO w [] (fun w' => w'.rangeAt 0 0 [.bool false, I 0, I 0, I 0, I (-1)])) (r : Bool) (H0 : i_MachineValid fl a0 = some r) :
  Ct prog 12 [.agg #[.slice p0_0 n0_0 c0_0, .slice p0_1 n0_1 c0_1, .slice p0_2 n0_2 c0_2, I a0.c.h, I a0.g.c, I a0.g.n, I a0.g.r, .slice p0_3 n0_3 c0_3, I a0.s]] w [] (fun rv h' => rv = .bool r ∧ h' = []) := by
 subst hn0_0 hn0_1 hn0_2 hn0_3
 unfold i_MachineValid at H0
 refine ct_of_cw func12 J ntmps12 J (Sat.refl _ _) ?_
 refine sr (oE (stpU_box 0 J J) J ?_)
 rintro _ _ ⟨b1, rfl, rfl⟩
 obtain ⟨x2, e2, H0⟩ := bS H0
 refine sq J (oA 0 u34 J ts26 J (oB2 0 ts26 J (oE (uC 1 cf36 (fun w hw => c_i_TableValid fl w a0.t J (rp hr0_0 hw) J (rp hr0_1 hw) (rp hg hw) x2 e2) (yA J)) J ?_)))
 rintro _ _ ⟨_, ⟨rfl, rfl⟩, rfl⟩
 obtain ⟨y3, ey3, H0⟩ := bS H0
 refine oK J (oM J (ow_cutY 5 21 y3 ?_ ?_))
 ·rcases Bool.eq_false_or_eq_true (!x2) with hy3 | hy3
  ·have ey3 := cond_t ey3 hy3
   refine oO J hy3 J (oO J hy3 J (oO J hy3 J (oO J hy3 J (oD (stp_pick_t J hy3 J) J ?_))))
   obtain rfl := sI ey3
   exact ow_nil (jy 5 0)
  have ey3 := cond_f ey3 hy3
  obtain ⟨x4, e4, ey3⟩ := bS ey3
  refine oG J hy3 (fA 2 u34 J ts29 J J J) J (oG J hy3 (stp_loadN (us := [_, _]) ts29 J (Cells.box (id := 0) J 2 J)) J (ow_eff (.some J hy3) (uC 1 cf37 (fun w hw => c_i_CacheValid fl w a0.c J (rp hr0_2 hw) x4 e4) (yA J)) J ?_))
  rintro _ _ ⟨_, ⟨rfl, rfl⟩, rfl⟩
  refine oG J hy3 (stp_not J) J (oD (stp_pick_f J hy3 J) J ?_)
  obtain rfl := sI ey3
  exact ow_nil (jy 5 0)
 obtain ⟨y5, ey5, H0⟩ := bS H0
 refine oM J (ow_cutY 5 27 y5 ?_ ?_)
 ·rcases Bool.eq_false_or_eq_true y3 with hy5 | hy5
  ·have ey5 := cond_t ey5 hy5
   refine oO J hy5 J (oO J hy5 J (oO J hy5 J (oO J hy5 J (oD (stp_pick_t J hy5 J) J ?_))))
   obtain rfl := sI ey5
   exact ow_nil (jy 5 0)
  have ey5 := cond_f ey5 hy5
  obtain ⟨x6, e6, ey5⟩ := bS ey5
  refine oG J hy5 (fA 4 u34 J ts32 J J J) J (oG J hy5 (stp_loadN (us := [_, _, _, _]) ts32 J (Cells.box (id := 0) J 4 J)) J (ow_eff (.some J hy5) (uC 1 cf38 (fun w hw => c_i_TagsValid fl w a0.g J (rp hr0_3 hw) x6 e6) (yA J)) J ?_))
  rintro _ _ ⟨_, ⟨rfl, rfl⟩, rfl⟩
  refine oG J hy5 (stp_not J) J (oD (stp_pick_f J hy5 J) J ?_)
  obtain rfl := sI ey5
  exact ow_nil (jy 5 0)
 obtain ⟨y7, ey7, H0⟩ := bS H0
 refine oM J (ow_cutY 7 35 y7 ?_ ?_)
 ·rcases Bool.eq_false_or_eq_true y5 with hy7 | hy7
  ·have ey7 := cond_t ey7 hy7
   refine oO J hy7 J (oO J hy7 J (oO J hy7 J (oO J hy7 J (oO J hy7 J (oO J hy7 J (oD (stp_pick_t J hy7 J) J ?_))))))
   obtain rfl := sI ey7
   exact ow_nil (jy 7 0)
  have ey7 := cond_f ey7 hy7
  obtain ⟨x8, e8, ey7⟩ := bS ey7
  refine oG J hy7 (fA 4 u34 J ts32 J J J) J (oG J hy7 (stp_loadN (us := [_, _, _, _]) ts32 J (Cells.box (id := 0) J 4 J)) J (oG J hy7 (fA 8 u34 J ts3 J J J) J (oG J hy7 (lB 0 ts3 J J J) J (ow_eff (.some J hy7) (uC 1 cf39 (fun w hw => c_i_Tags_own fl w a0.g a0.s J (rp hr0_3 hw) x8 e8) (yB J J)) J ?_))))
  rintro _ _ ⟨_, ⟨rfl, rfl⟩, rfl⟩
  refine oG J hy7 (stp_lss J J) J (oD (stp_pick_f J hy7 J) J ?_)
  obtain rfl := sI ey7
  exact ow_nil (jy 7 0)
 refine ow_nil (kw_nx (cH J H0 (fun H0 => ?_) (fun H0 => ?_)))
 ·refine sr (sr1 J (kR ?_))
  obtain rfl := sI H0
  exact kr results12 (rT J) [] ⟨J, J⟩
 obtain ⟨o0_0, eo0_0, H0⟩ := bS H0
 refine kq (sr (oA 0 u34 J ts26 J (oAL 1 u26 J ts24 J 0 J (oD (stp_len u24 J) J (oM J (nn (lp (fun f a => i_MachineValid_L0 fl a0 f a = some o0_0) (fun a => o0_0 = .out a) (fun R s h => ∃ v10, R v10 ∧ s = [(1, .pointer (some ⟨b1, 0, none⟩)), (38, .slice p0_1 ((a0.t.f).length) c0_1), (39, I ((a0.t.f).length : Int)), (40, I v10)] ∧ h = [(0, [(b1, .cells #[.slice p0_0 ((a0.t.b).length) c0_0, .slice p0_1 ((a0.t.f).length) c0_1, .slice p0_2 ((a0.c.l).length) c0_2, I a0.c.h, I a0.g.c, I a0.g.n, I a0.g.r, .slice p0_3 ((a0.g.o).length) c0_3, I a0.s] 34 (0, 0))])]) ⟨_, eo0_0, J, J⟩ ?_ ?_)))))))
 ·rintro fuel _ _ ⟨v10, H1, rfl, rfl⟩
  rcases fuel with _ | fuel
  ·rw [i_MachineValid_L0.eq_1] at H1; cases H1
  rw [i_MachineValid_L0.eq_2] at H1
  refine sr (oW J (nn (cq (cH J H1 (fun H1 => ?_) (fun H1 => ?_)))))
  ·obtain ⟨x12, e12, H1⟩ := bS H1
   refine kq (cw_block (sr (oD (stp_indexAddr u24 ts74 (by decide) J J J (Rdb.ro hr0_1) e12) J (oD (stp_loadN (us := [_, _, _, _, _]) ts74 J (Cells.el (Rdb.ro hr0_1) (by decide) e12 0 5 J)) J (oE (stpU_alloc 1 tz74 J) J ?_)))))
   rintro _ _ ⟨b13, rfl, rfl⟩
   obtain ⟨y14, ey14, H1⟩ := bS H1
   refine oC5 1 ts74 J J (ns (oAL 0 u74 J ts4 J 1 J (oM J (ow_cutY 5 51 y14 ?_ ?_))))
   ·rcases Bool.eq_false_or_eq_true x12.u with hy14 | hy14
    ·have ey14 := cond_t ey14 hy14
     refine oG J hy14 (fA 1 u74 J ts36 J J J) J (oG J hy14 (fA 1 u36 J ts3 J J J) J (oG J hy14 (lB 1 ts3 J J J) J (oG J hy14 (stp_geq J J) J (oD (stp_pick_t J hy14 J) J ?_))))
     obtain rfl := sI ey14
     exact ow_nil (jy 5 0)
    have ey14 := cond_f ey14 hy14
    refine oO J hy14 J (oO J hy14 J (oO J hy14 J (oO J hy14 J (oD (stp_pick_f J hy14 J) J ?_))))
    obtain rfl := sI ey14
    exact ow_nil (jy 5 0)
   obtain ⟨y15, ey15, H1⟩ := bS H1
   refine oM J (ow_cutY 5 57 y15 ?_ ?_)
   ·rcases Bool.eq_false_or_eq_true y14 with hy15 | hy15
    ·have ey15 := cond_t ey15 hy15
     refine oG J hy15 (fA 1 u74 J ts36 J J J) J (oG J hy15 (fA 0 u36 J ts3 J J J) J (oG J hy15 (lB 1 ts3 J J J) J (oG J hy15 (stp_neq J J) J (oD (stp_pick_t J hy15 J) J ?_))))
     obtain rfl := sI ey15
     exact ow_nil (jy 5 0)
    have ey15 := cond_f ey15 hy15
    refine oO J hy15 J (oO J hy15 J (oO J hy15 J (oO J hy15 J (oD (stp_pick_f J hy15 J) J ?_))))
    obtain rfl := sI ey15
    exact ow_nil (jy 5 0)
   refine ow_nil (kw_nx (cH J H1 (fun H1 => ?_) (fun H1 => ?_)))
   ·refine sr (sr1 J (kw_bl_ret (kR (ar (kw_bl_ret (xr (kR ?_)))))))
    obtain rfl := sI H1
    obtain rfl := sI H0
    exact kr results12 (rT J) [] ⟨J, J⟩
   obtain ⟨x17, e17, H1⟩ := bS H1
   exact cw_skip (kb (cR (oP e17 J (oM J (ow_nil (ka ⟨_, H1, J, J⟩))))))
  refine cw_exit (kw_nx_exit (ax (kw_bl ?_)))
  obtain rfl := sI H1
  exact kx ⟨_, J, J, J⟩
 rintro _ _ ⟨v10, rfl, rfl, rfl⟩
 obtain ⟨o0_1, eo0_1, H0⟩ := bS H0
 refine kw_nx (csr (oA 2 u34 J ts29 J (oAL 0 u29 J ts27 J 0 J (oD (stp_len u27 J) J (oM J (nn (lp (fun f a => i_MachineValid_L1 fl a0 f a = some o0_1) (fun a => o0_1 = .out a) (fun R s h => ∃ v18, R v18 ∧ s = [(1, .pointer (some ⟨b1, 0, none⟩)), (61, .slice p0_2 ((a0.c.l).length) c0_2), (62, I ((a0.c.l).length : Int)), (63, I v18)] ∧ h = [(0, [(b1, .cells #[.slice p0_0 ((a0.t.b).length) c0_0, .slice p0_1 ((a0.t.f).length) c0_1, .slice p0_2 ((a0.c.l).length) c0_2, I a0.c.h, I a0.g.c, I a0.g.n, I a0.g.r, .slice p0_3 ((a0.g.o).length) c0_3, I a0.s] 34 (0, 0))])]) ⟨_, eo0_1, J, J⟩ ?_ ?_)))))))
 ·rintro fuel _ _ ⟨v18, H1, rfl, rfl⟩
  rcases fuel with _ | fuel
  ·rw [i_MachineValid_L1.eq_1] at H1; cases H1
  rw [i_MachineValid_L1.eq_2] at H1
  refine sr (oW J (nn (cq (cH J H1 (fun H1 => ?_) (fun H1 => ?_)))))
  ·obtain ⟨x20, e20, H1⟩ := bS H1
   refine kq (cw_block (sr (oD (stp_indexAddr u27 ts66 (by decide) J J J (Rdb.ro hr0_2) e20) J (oD (stp_loadN (us := [_, _, _, _, _, _]) ts66 J (Cells.el (Rdb.ro hr0_2) (by decide) e20 0 6 J)) J (oE (stpU_alloc 2 tz66 J) J ?_)))))
   rintro _ _ ⟨b21, rfl, rfl⟩
   refine oC6 2 ts66 J J (nq (oAL 0 u66 J ts4 J 2 J (oK J (nn (cH J H1 (fun H1 => ?_) (fun H1 => ?_))))))
   ·obtain ⟨x23, e23, H1⟩ := bS H1
    exact cw_exit (kw_nx_exit (kw_bl (kw_nx (cR (oP e23 J (oM J (ow_nil (ka ⟨_, H1, J, J⟩))))))))
   refine ks (oAL 2 u66 J ts3 J 2 J (oI J (sq J (oM J (oAL 1 u66 J ts3 J 2 J (oQ J ?_))))))
   obtain ⟨y24, ey24, H1⟩ := bS H1
   refine oD (stp_neqB u4 J J) J (oM J (ow_cutY 7 85 y24 ?_ ?_))
   ·rcases Bool.eq_false_or_eq_true ((decide (128 ≤ x20.pg)) != (x20.tg == (-1))) with hy24 | hy24
    ·have ey24 := cond_t ey24 hy24
     refine oO J hy24 J (oO J hy24 J (oO J hy24 J (oX J J J (oX J J J (oO J hy24 J (oD (stp_pick_t J hy24 J) J ?_))))))
     obtain rfl := sI ey24
     exact ow_nil (jy 7 0)
    have ey24 := cond_f ey24 hy24
    obtain ⟨y25, ey25, ey24⟩ := bS ey24
    refine oG J hy24 (fA 5 u66 J ts4 J J J) J (oG J hy24 (lB 2 ts4 J J J) J (oG J hy24 (mv J) J (ow_cutY 3 84 y25 ?_ ?_)))
    ·rcases Bool.eq_false_or_eq_true x20.wi with hy25 | hy25
     ·have ey25 := cond_t ey25 hy25
      refine oG J hy25 (mv J) J (oG J hy25 (stp_not J) J (oG J hy24 (stp_pick_t J hy25 J) J ?_))
      obtain rfl := sI ey25
      exact ow_nil (jy 3 0)
     have ey25 := cond_f ey25 hy25
     refine oO J hy25 J (oO J hy25 J (oG J hy24 (stp_pick_f J hy25 J) J ?_))
     obtain rfl := sI ey25
     exact ow_nil (jy 3 0)
    refine oD (stp_pick_f J hy24 J) J ?_
    obtain rfl := sI ey24
    exact ow_nil (jy 5 0)
   refine ow_nil (kw_nx (cH J H1 (fun H1 => ?_) (fun H1 => ?_)))
   ·refine sr (sR J (kw_bl_ret (kR (ar (kw_bl_ret (xr (kR ?_)))))))
    obtain rfl := sI H1
    obtain rfl := sI H0
    exact kr results12 (rT J) [] ⟨J, J⟩
   refine ks (sq J (oM J (oK J (nn (cH J H1 (fun H1 => ?_) (fun H1 => ?_))))))
   ·obtain ⟨x28, e28, H1⟩ := bS H1
    refine sr (oA 4 u34 J ts32 J (oB4 0 ts32 J (oAL 1 u66 J ts3 J 2 J (oE (uC 3 cf40 (fun w hw => c_i_SpaceOf fl w a0.g x20.tg J (rp hr0_3 hw) x28 e28) (yB J J)) J ?_))))
    rintro _ _ ⟨_, ⟨rfl, rfl⟩, rfl⟩
    refine oMTT J J J (oS J (sq J (oM J (oK J (nn (cH J H1 (fun H1 => ?_) (fun H1 => ?_)))))))
    ·refine sr (sR J (kR (kw_bl_ret (kR (ar (kw_bl_ret (xr (kR ?_))))))))
     obtain rfl := sI H1
     obtain rfl := sI H0
     exact kr results12 (rT J) [] ⟨J, J⟩
    obtain ⟨x30, e30, H1⟩ := bS H1
    refine kz (cR (oM J (sn J (cq (rdt g_mixed (rn 0 8) ⟨[[],[0],[],[],[2]], [], []⟩ (dA 0 J u34 J ts26 J (dB2 0 ts26 J (dM J (dA 2 J u66 J ts3 J (dL 2 ts3 J (dV J (fun hh => uC 3 cf34 (fun w hw => c_i_KeyFor fl w x28.1 x20.pg x30 e30) (yB J J)) J ?_)))))))))))
    obtain ⟨x31, e31, H1⟩ := bS H1
    obtain ⟨y32, ey32, H1⟩ := bS H1
    refine dV J (fun hh => uC 3 cf33 (fun w hw => c_i_Table_find fl w a0.t x30 J (rp hr0_0 hw) J (rp hr0_1 hw) x31 e31) (yB J J)) J (dS J (dn (kw_nx (cq (rdt g_mixed (rn 0 20) ⟨[[],[],[],[],[],[2],[],[],[],[],[],[0],[],[],[],[],[],[2]], [], []⟩ (dM J (dW J (dM J (dcY 5 113 y32 ?_ ?_)))))))))
    ·rcases Bool.eq_false_or_eq_true (decide (x31 < 0)) with hy32 | hy32
     ·have ey32 := cond_t ey32 hy32
      refine dO J hy32 (dO J hy32 (dO J hy32 (dO J hy32 (dD J (stp_pick_t J hy32 J) ?_))))
      obtain rfl := sI ey32
      exact dy 5 0
     have ey32 := cond_f ey32 hy32
     refine dG J hy32 (mv J) (dG J hy32 (fA 3 u66 J ts3 J J J) (dG J hy32 (lB 2 ts3 J J J) (dG J hy32 (stp_neq J J) (dD J (stp_pick_f J hy32 J) ?_))))
     obtain rfl := sI ey32
     exact dy 5 0
    obtain ⟨y33, ey33, H1⟩ := bS H1
    refine dM J (dcY 11 125 y33 ?_ ?_)
    ·rcases Bool.eq_false_or_eq_true y32 with hy33 | hy33
     ·have ey33 := cond_t ey33 hy33
      refine dO J hy33 (dO J hy33 (dO J hy33 (dO J hy33 (dO J hy33 (dO J hy33 (dO J hy33 (dO J hy33 (dO J hy33 (dO J hy33 (dD J (stp_pick_t J hy33 J) ?_))))))))))
      obtain rfl := sI ey33
      exact dy 11 0
     have ey33 := cond_f ey33 hy33
     obtain ⟨x34, e34, ey33⟩ := bS ey33
     refine dG J hy33 (fA 0 u34 J ts26 J J J) (dG J hy33 (fA 1 u26 J ts24 J J J) (dG J hy33 (lB 0 ts24 J J J) (dG J hy33 (mv J) (dG J hy33 (stp_indexAddr u24 ts74 (by decide) J J J (Rdb.ro hr0_1) e34) (dG J hy33 (fA 3 u74 J ts3 J J J) (dG J hy33 (stp_load1 ts3 J (Cells.el (Rdb.ro hr0_1) (by decide) e34 3 1 J)) (dG J hy33 (fA 4 u66 J ts3 J J J) (dG J hy33 (lB 2 ts3 J J J) (dG J hy33 (stp_neq J J) (dD J (stp_pick_f J hy33 J) ?_))))))))))
     obtain rfl := sI ey33
     exact dy 11 0
    refine dn (kw_nx (cH J H1 (fun H1 => ?_) (fun H1 => ?_)))
    ·refine sr (sr1 J (kw_bl_ret (kR (ar (kw_bl_ret (xr (kR ?_)))))))
     obtain rfl := sI H1
     obtain rfl := sI H0
     exact kr results12 (rT J) [] ⟨J, J⟩
    obtain ⟨x36, e36, H1⟩ := bS H1
    exact cw_skip (kb (cR (oP e36 J (oM J (ow_nil (ka ⟨_, H1, J, J⟩))))))
   obtain ⟨x37, e37, H1⟩ := bS H1
   obtain ⟨x38, e38, H1⟩ := bS H1
   refine kq (rdt g_mixed (rn 0 8) ⟨[[],[0],[],[],[2]], [], []⟩ (dA 0 J u34 J ts26 J (dB2 0 ts26 J (dM J (dA 2 J u66 J ts3 J (dL 2 ts3 J (dV J (fun hh => uC 3 cf34 (fun w hw => c_i_KeyFor fl w 0 x20.pg x37 e37) (yB J J)) J (dV J (fun hh => uC 3 cf33 (fun w hw => c_i_Table_find fl w a0.t x37 J (rp hr0_0 hw) J (rp hr0_1 hw) x38 e38) (yB J J)) J (dS J (dn (kw_nx ?_)))))))))))
   obtain ⟨y39, ey39, H1⟩ := bS H1
   refine cq (rdt g_mixed (rn 0 20) ⟨[[],[],[],[],[],[2],[],[],[],[],[],[0],[],[],[],[],[],[2]], [], []⟩ (dM J (dW J (dM J (dcY 5 113 y39 ?_ ?_)))))
   ·rcases Bool.eq_false_or_eq_true (decide (x38 < 0)) with hy39 | hy39
    ·have ey39 := cond_t ey39 hy39
     refine dO J hy39 (dO J hy39 (dO J hy39 (dO J hy39 (dD J (stp_pick_t J hy39 J) ?_))))
     obtain rfl := sI ey39
     exact dy 5 0
    have ey39 := cond_f ey39 hy39
    refine dG J hy39 (mv J) (dG J hy39 (fA 3 u66 J ts3 J J J) (dG J hy39 (lB 2 ts3 J J J) (dG J hy39 (stp_neq J J) (dD J (stp_pick_f J hy39 J) ?_))))
    obtain rfl := sI ey39
    exact dy 5 0
   obtain ⟨y40, ey40, H1⟩ := bS H1
   refine dM J (dcY 11 125 y40 ?_ ?_)
   ·rcases Bool.eq_false_or_eq_true y39 with hy40 | hy40
    ·have ey40 := cond_t ey40 hy40
     refine dO J hy40 (dO J hy40 (dO J hy40 (dO J hy40 (dO J hy40 (dO J hy40 (dO J hy40 (dO J hy40 (dO J hy40 (dO J hy40 (dD J (stp_pick_t J hy40 J) ?_))))))))))
     obtain rfl := sI ey40
     exact dy 11 0
    have ey40 := cond_f ey40 hy40
    obtain ⟨x41, e41, ey40⟩ := bS ey40
    refine dG J hy40 (fA 0 u34 J ts26 J J J) (dG J hy40 (fA 1 u26 J ts24 J J J) (dG J hy40 (lB 0 ts24 J J J) (dG J hy40 (mv J) (dG J hy40 (stp_indexAddr u24 ts74 (by decide) J J J (Rdb.ro hr0_1) e41) (dG J hy40 (fA 3 u74 J ts3 J J J) (dG J hy40 (stp_load1 ts3 J (Cells.el (Rdb.ro hr0_1) (by decide) e41 3 1 J)) (dG J hy40 (fA 4 u66 J ts3 J J J) (dG J hy40 (lB 2 ts3 J J J) (dG J hy40 (stp_neq J J) (dD J (stp_pick_f J hy40 J) ?_))))))))))
    obtain rfl := sI ey40
    exact dy 11 0
   refine dn (kw_nx (cH J H1 (fun H1 => ?_) (fun H1 => ?_)))
   ·refine sr (sr1 J (kw_bl_ret (kR (ar (kw_bl_ret (xr (kR ?_)))))))
    obtain rfl := sI H1
    obtain rfl := sI H0
    exact kr results12 (rT J) [] ⟨J, J⟩
   obtain ⟨x43, e43, H1⟩ := bS H1
   exact cw_skip (kb (cR (oP e43 J (oM J (ow_nil (ka ⟨_, H1, J, J⟩))))))
  refine cw_exit (kw_nx_exit (ax (kw_bl ?_)))
  obtain rfl := sI H1
  exact kx ⟨_, J, J, J⟩
 rintro _ _ ⟨v18, rfl, rfl, rfl⟩
 refine kw_nx (sr (sn J (cw_ret ?_)))
 obtain rfl := sI H0
 exact kr results12 (rT J) [] ⟨J, J⟩

theorem c_slices_Clone_Int (fl : Nat) (w : World) (a0 : (List Int)) (hn0_0 : n0_0 = (a0).length) (hr0_0 : RO w [] (RdL p0_0 c0_0 a0)) (r : (List Int)) (H0 : slices_Clone_Int fl a0 = some r) :
  Ct prog 99 [.slice p0_0 n0_0 c0_0] w [] (fun rv h' => SL 3 r fun x0 y0 z0 C0 => rv = .slice x0 y0 z0 ∧ h' = [(0, C0)]) := by
 subst hn0_0
 unfold slices_Clone_Int at H0
 refine ct_of_cw func99 J ntmps99 J (Sat.refl _ _) ?_
 refine sr (sq J (oM J (oD (stp_eqlNil u23 J) J (nn (cw_cond J (fun h1 => ?_) (fun h1 => ?_))))))
 ·have := True.intro
  obtain rfl : p0_0 = none := by simpa using h1
  obtain rfl : a0 = [] := nil_of_none hr0_0
  obtain rfl : r = [] := (cnt_some H0).1
  exact sr (sR J (kA 0 (kr results99 (rT J) [0] (sl J oN0 ⟨J, J⟩))))
 have := True.intro
 refine ks (oE (stpU_lit0 sl23 1) J ?_)
 rintro _ _ ⟨p2, C3, rfl, rfl, o3⟩
 refine oM J ?_
 have e4 : cnt (([] : List Int) ++ a0) = some r := H0
 refine oE (stpU_append sl23 J (id := 1) J (by simp) J J J o3 (Rdb.ro hr0_0) e4) J ?_
 rintro _ _ ⟨p5, c6, C7, rfl, rfl, o7⟩
 exact sr1 J (kr results99 (rT J) [1] (sl J o7 ⟨J, J⟩))

theorem c_slices_Clone_Frame (fl : Nat) (w : World) (a0 : (List F)) (hn0_0 : n0_0 = (a0).length) (hr0_0 : RO w [] (RdL p0_0 c0_0 a0)) (r : (List F)) (H0 : slices_Clone_Frame fl a0 = some r) :
  Ct prog 101 [.slice p0_0 n0_0 c0_0] w [] (fun rv h' => SL 74 r fun x0 y0 z0 C0 => rv = .slice x0 y0 z0 ∧ h' = [(0, C0)]) := by
 subst hn0_0
 unfold slices_Clone_Frame at H0
 refine ct_of_cw func101 J ntmps101 J (Sat.refl _ _) ?_
 refine sr (sq J (oM J (oD (stp_eqlNil u24 J) J (nn (cw_cond J (fun h1 => ?_) (fun h1 => ?_))))))
 ·have := True.intro
  obtain rfl : p0_0 = none := by simpa using h1
  obtain rfl : a0 = [] := nil_of_none hr0_0
  obtain rfl : r = [] := (cnt_some H0).1
  exact sr (sR J (kA 0 (kr results101 (rT J) [0] (sl J oN0 ⟨J, J⟩))))
 have := True.intro
 refine ks (oE (stpU_lit0 sl24 1) J ?_)
 rintro _ _ ⟨p2, C3, rfl, rfl, o3⟩
 refine oM J ?_
 have e4 : cnt (([] : List F) ++ a0) = some r := H0
 refine oE (stpU_append sl24 J (id := 1) J (by simp) J J J o3 (Rdb.ro hr0_0) e4) J ?_
 rintro _ _ ⟨p5, c6, C7, rfl, rfl, o7⟩
 exact sr1 J (kr results101 (rT J) [1] (sl J o7 ⟨J, J⟩))

theorem c_i_Table_clone (fl : Nat) (w : World) (a0 : T) (hn0_0 : n0_0 = (a0.b).length) (hr0_0 : RO w [] (RdL p0_0 c0_0 a0.b)) (hn0_1 : n0_1 = (a0.f).length) (hr0_1 : RO w [] (RdL p0_1 c0_1 a0.f)) (r : T) (H0 : i_Table_clone fl a0 = some r) :
  Ct prog 53 [.agg #[.slice p0_0 n0_0 c0_0, .slice p0_1 n0_1 c0_1]] w [] (fun rv h' => SL 3 r.b fun x0 y0 z0 C0 => SL 74 r.f fun x1 y1 z1 C1 => rv = .agg #[.slice x0 y0 z0, .slice x1 y1 z1] ∧ h' = [(0, C0), (1, C1)]) := by
 subst hn0_0 hn0_1
 unfold i_Table_clone at H0
 refine ct_of_cw func53 J ntmps53 J (Sat.refl _ _) ?_
 refine sr (oE (stpU_box 0 J J) J ?_)
 rintro _ _ ⟨b1, rfl, rfl⟩
 refine oE (stpU_alloc 1 tz26 J) J ?_
 rintro _ _ ⟨b2, rfl, rfl⟩
 obtain ⟨x3, e3, H0⟩ := bS H0
 refine nn (cq (rdt g_mixed [.n 0, .n 1, .n 4, .n 5, .n 2, .n 3, .n 6, .n 7, .n 8, .n 9] ⟨[[],[0],[],[],[],[0],[],[],[],[1]], [[],[],[2],[],[],[],[3],[],[],[1]], [2,6]⟩ (dA 0 J u26 J ts23 J (dL 0 ts23 J (dA 1 J u26 J ts24 J (dL 0 ts24 J (dE J (fun hh => uC 2 cf99 (fun w hw => c_slices_Clone_Int fl w a0.b J (rp hr0_0 hw) x3 e3) (yA J)) ?_)))))))
 rintro _ _ ⟨_, ⟨p4, _, c6, C7, rfl, o7, rfl, rfl⟩, rfl⟩
 obtain ⟨x8, e8, H0⟩ := bS H0
 refine dk J (dV J (fun hh => stpU_call (fun i => i) cf98 (fun w hw => c_clip98 w p4 ((x3).length) c6 (OwnC.len o7).1) (yA J)) J (dE J (fun hh => uC 3 cf101 (fun w hw => c_slices_Clone_Frame fl w a0.f J (rp hr0_1 hw) x8 e8) (yA J)) ?_))
 rintro _ _ ⟨_, ⟨p9, _, c11, C12, rfl, o12, rfl, rfl⟩, rfl⟩
 refine dk J (dV J (fun hh => stpU_call (fun i => i) cf100 (fun w hw => c_clip100 w p9 ((x8).length) c11 (OwnC.len o12).1) (yA J)) J (dD J (stp_build (cs := #[.slice p4 ((x3).length) ((x3).length), .slice p9 ((x8).length) ((x8).length)]) (sP J (sP J sE)) bt26_14) (dC2 1 ts26 J J J (dn (kw_nx (cw_ret ?_))))))
 obtain rfl := sI H0
 exact kr results53 (rC2 1 ts26 J J) [2, 3] (sl J (OwnC.clip o7) (sl J (OwnC.clip o12) ⟨J, J⟩))

theorem c_slices_Clone_Line (fl : Nat) (w : World) (a0 : (List Ln)) (hn0_0 : n0_0 = (a0).length) (hr0_0 : RO w [] (RdL p0_0 c0_0 a0)) (r : (List Ln)) (H0 : slices_Clone_Line fl a0 = some r) :
  Ct prog 72 [.slice p0_0 n0_0 c0_0] w [] (fun rv h' => SL 66 r fun x0 y0 z0 C0 => rv = .slice x0 y0 z0 ∧ h' = [(0, C0)]) := by
 subst hn0_0
 unfold slices_Clone_Line at H0
 refine ct_of_cw func72 J ntmps72 J (Sat.refl _ _) ?_
 refine sr (sq J (oM J (oD (stp_eqlNil u27 J) J (nn (cw_cond J (fun h1 => ?_) (fun h1 => ?_))))))
 ·have := True.intro
  obtain rfl : p0_0 = none := by simpa using h1
  obtain rfl : a0 = [] := nil_of_none hr0_0
  obtain rfl : r = [] := (cnt_some H0).1
  exact sr (sR J (kA 0 (kr results72 (rT J) [0] (sl J oN0 ⟨J, J⟩))))
 have := True.intro
 refine ks (oE (stpU_lit0 sl27 1) J ?_)
 rintro _ _ ⟨p2, C3, rfl, rfl, o3⟩
 refine oM J ?_
 have e4 : cnt (([] : List Ln) ++ a0) = some r := H0
 refine oE (stpU_append sl27 J (id := 1) J (by simp) J J J o3 (Rdb.ro hr0_0) e4) J ?_
 rintro _ _ ⟨p5, c6, C7, rfl, rfl, o7⟩
 exact sr1 J (kr results72 (rT J) [1] (sl J o7 ⟨J, J⟩))

theorem c_slices_Clone_Own (fl : Nat) (w : World) (a0 : (List Ow)) (hn0_0 : n0_0 = (a0).length) (hr0_0 : RO w [] (RdL p0_0 c0_0 a0)) (r : (List Ow)) (H0 : slices_Clone_Own fl a0 = some r) :
  Ct prog 70 [.slice p0_0 n0_0 c0_0] w [] (fun rv h' => SL 108 r fun x0 y0 z0 C0 => rv = .slice x0 y0 z0 ∧ h' = [(0, C0)]) := by
 subst hn0_0
 unfold slices_Clone_Own at H0
 refine ct_of_cw func70 J ntmps70 J (Sat.refl _ _) ?_
 refine sr (sq J (oM J (oD (stp_eqlNil u30 J) J (nn (cw_cond J (fun h1 => ?_) (fun h1 => ?_))))))
 ·have := True.intro
  obtain rfl : p0_0 = none := by simpa using h1
  obtain rfl : a0 = [] := nil_of_none hr0_0
  obtain rfl : r = [] := (cnt_some H0).1
  exact sr (sR J (kA 0 (kr results70 (rT J) [0] (sl J oN0 ⟨J, J⟩))))
 have := True.intro
 refine ks (oE (stpU_lit0 sl30 1) J ?_)
 rintro _ _ ⟨p2, C3, rfl, rfl, o3⟩
 refine oM J ?_
 have e4 : cnt (([] : List Ow) ++ a0) = some r := H0
 refine oE (stpU_append sl30 J (id := 1) J (by simp) J J J o3 (Rdb.ro hr0_0) e4) J ?_
 rintro _ _ ⟨p5, c6, C7, rfl, rfl, o7⟩
 exact sr1 J (kr results70 (rT J) [1] (sl J o7 ⟨J, J⟩))

theorem c_i_Machine_clone (fl : Nat) (w : World) (a0 : Mc) (hn0_0 : n0_0 = (a0.t.b).length) (hr0_0 : RO w [] (RdL p0_0 c0_0 a0.t.b)) (hn0_1 : n0_1 = (a0.t.f).length) (hr0_1 : RO w [] (RdL p0_1 c0_1 a0.t.f)) (hn0_2 : n0_2 = (a0.c.l).length) (hr0_2 : RO w [] (RdL p0_2 c0_2 a0.c.l)) (hn0_3 : n0_3 = (a0.g.o).length) (hr0_3 : RO w [] (RdL p0_3 c0_3 a0.g.o)) (r : Mc) (H0 : i_Machine_clone fl a0 = some r) :
  Ct prog 28 [.agg #[.slice p0_0 n0_0 c0_0, .slice p0_1 n0_1 c0_1, .slice p0_2 n0_2 c0_2, I a0.c.h, I a0.g.c, I a0.g.n, I a0.g.r, .slice p0_3 n0_3 c0_3, I a0.s]] w [] (fun rv h' => SL 3 r.t.b fun x0 y0 z0 C0 => SL 74 r.t.f fun x1 y1 z1 C1 => SL 66 r.c.l fun x2 y2 z2 C2 => SL 108 r.g.o fun x3 y3 z3 C3 => rv = .agg #[.slice x0 y0 z0, .slice x1 y1 z1, .slice x2 y2 z2, I r.c.h, I r.g.c, I r.g.n, I r.g.r, .slice x3 y3 z3, I r.s] ∧ h' = [(0, C0), (1, C1), (2, C2), (3, C3)]) := by
 subst hn0_0 hn0_1 hn0_2 hn0_3
 unfold i_Machine_clone at H0
 refine ct_of_cw func28 J ntmps28 J (Sat.refl _ _) ?_
 refine sr (oE (stpU_box 0 J J) J ?_)
 rintro _ _ ⟨b1, rfl, rfl⟩
 refine oE (stpU_alloc 1 tz34 J) J ?_
 rintro _ _ ⟨b2, rfl, rfl⟩
 obtain ⟨x3, e3, H0⟩ := bS H0
 refine ns (oA 0 u34 J ts26 J (oB2 0 ts26 J (oE (uC 2 cf53 (fun w hw => c_i_Table_clone fl w a0.t J (rp hr0_0 hw) J (rp hr0_1 hw) x3 e3) (yA J)) J ?_)))
 rintro _ _ ⟨_, ⟨p4, _, c6, C7, rfl, o7, p8, _, c10, C11, rfl, o11, rfl, rfl⟩, rfl⟩
 obtain ⟨x12, e12, H0⟩ := bS H0
 refine oA 0 u34 J ts26 J (oC9 0 ts26 J J (ns (oA 2 u34 J ts29 J (oAL 0 u29 J ts27 J 0 J (oE (uC 4 cf72 (fun w hw => c_slices_Clone_Line fl w a0.c.l J (rp hr0_2 hw) x12 e12) (yA J)) J ?_)))))
 rintro _ _ ⟨_, ⟨p13, _, c15, C16, rfl, o16, rfl, rfl⟩, rfl⟩
 refine oE (stpU_call (fun i => i) cf71 (fun w hw => c_clip71 w p13 ((x12).length) c15 (OwnC.len o16).1) (yA J)) J ?_
 rintro _ _ ⟨_, ⟨rfl, rfl⟩, rfl⟩
 obtain ⟨x17, e17, H0⟩ := bS H0
 refine oA 2 u34 J ts29 J (oA 0 u29 J ts27 J (oC9 0 ts27 J J (ns (oA 4 u34 J ts32 J (oAL 3 u32 J ts30 J 0 J (oE (uC 5 cf70 (fun w hw => c_slices_Clone_Own fl w a0.g.o J (rp hr0_3 hw) x17 e17) (yA J)) J ?_))))))
 rintro _ _ ⟨_, ⟨p18, _, c20, C21, rfl, o21, rfl, rfl⟩, rfl⟩
 refine oE (stpU_call (fun i => i) cf69 (fun w hw => c_clip69 w p18 ((x17).length) c20 (OwnC.len o21).1) (yA J)) J ?_
 rintro _ _ ⟨_, ⟨rfl, rfl⟩, rfl⟩
 refine oA 4 u34 J ts32 J (oA 3 u32 J ts30 J (oC9 0 ts30 J J (ns (oB9 0 ts34 J (oC9 1 ts34 J J (nn (cw_ret ?_)))))))
 obtain rfl := sI H0
 exact kr results28 (rC9 1 ts34 J J) [2, 3, 4, 5] (sl J o7 (sl J o11 (sl J (OwnC.clip o16) (sl J (OwnC.clip o21) ⟨J, J⟩))))

theorem c_i_TagOf (fl : Nat) (w : World) (a0 : Tg) (a1 : Int) (hn0_0 : n0_0 = (a0.o).length) (hr0_0 : RO w [] (RdL p0_0 c0_0 a0.o)) (r : Int × Bool) (H0 : i_TagOf fl a0 a1 = some r) :
  Ct prog 73 [.agg #[I a0.c, I a0.n, I a0.r, .slice p0_0 n0_0 c0_0], I a1] w [] (fun rv h' => rv = .tuple #[I r.1, .bool r.2] ∧ h' = []) := by
 subst hn0_0
 unfold i_TagOf at H0
 refine ct_of_cw func73 J ntmps73 J (Sat.refl _ _) ?_
 refine sr (oE (stpU_box 0 J J) J ?_)
 rintro _ _ ⟨b1, rfl, rfl⟩
 obtain ⟨x2, e2, H0⟩ := bS H0
 refine oS J (sq J (oB4 0 ts32 J (oE (uC 1 cf38 (fun w hw => c_i_TagsValid fl w a0 J (rp hr0_0 hw) x2 e2) (yA J)) J ?_)))
 rintro _ _ ⟨_, ⟨rfl, rfl⟩, rfl⟩
 obtain ⟨y3, ey3, H0⟩ := bS H0
 refine oK J (oM J (ow_cutY 5 14 y3 ?_ ?_))
 ·rcases Bool.eq_false_or_eq_true (!x2) with hy3 | hy3
  ·have ey3 := cond_t ey3 hy3
   refine oO J hy3 J (oO J hy3 J (oO J hy3 J (oO J hy3 J (oD (stp_pick_t J hy3 J) J ?_))))
   obtain rfl := sI ey3
   exact ow_nil (jy 5 0)
  have ey3 := cond_f ey3 hy3
  obtain ⟨x4, e4, ey3⟩ := bS ey3
  refine oG J hy3 (stp_loadN (us := [_, _, _, _]) ts32 J (Cells.box (id := 0) J 4 J)) J (oG J hy3 (mv J) J (ow_eff (.some J hy3) (uC 1 cf39 (fun w hw => c_i_Tags_own fl w a0 a1 J (rp hr0_0 hw) x4 e4) (yB J J)) J ?_))
  rintro _ _ ⟨_, ⟨rfl, rfl⟩, rfl⟩
  refine oG J hy3 (stp_lss J J) J (oD (stp_pick_f J hy3 J) J ?_)
  obtain rfl := sI ey3
  exact ow_nil (jy 5 0)
 refine ow_nil (kw_nx (cH J H0 (fun H0 => ?_) (fun H0 => ?_)))
 ·refine sr (oS J (sr1 J (kR ?_)))
  obtain rfl := sI H0
  exact kr results73 (.cons (.tmp J) (rT J)) [] ⟨J, J⟩
 obtain ⟨x6, e6, H0⟩ := bS H0
 obtain ⟨x7, e7, H0⟩ := bS H0
 refine kq (rdt g_mixed (rn 0 10) ⟨[[],[0],[0]], [], []⟩ (dA 3 J u32 J ts30 J (dL 0 ts30 J (dB4 0 ts32 J (dM J (dV J (fun hh => uC 1 cf39 (fun w hw => c_i_Tags_own fl w a0 a1 J (rp hr0_0 hw) x6 e6) (yB J J)) J (dD J (stp_indexAddr u30 ts108 (by decide) J J J (Rdb.ro hr0_0) e7) (dA 1 J u108 J ts3 J (dD J (stp_load1 ts3 J (Cells.el (Rdb.ro hr0_0) (by decide) e7 1 1 J)) (dS J (dS J ?_)))))))))))
 refine dn (kw_nx (cw_ret ?_))
 obtain rfl := sI H0
 exact kr results73 (.cons (.tmp J) (rT J)) [] ⟨J, J⟩

theorem c_i_Machine_tagFor (fl : Nat) (w : World) (a0 : Mc) (a1 : Int) (a2 : Int) (hn0_0 : n0_0 = (a0.t.b).length) (hr0_0 : RO w [] (RdL p0_0 c0_0 a0.t.b)) (hn0_1 : n0_1 = (a0.t.f).length) (hr0_1 : RO w [] (RdL p0_1 c0_1 a0.t.f)) (hn0_2 : n0_2 = (a0.c.l).length) (hr0_2 : RO w [] (RdL p0_2 c0_2 a0.c.l)) (hn0_3 : n0_3 = (a0.g.o).length) (hr0_3 : RO w [] (RdL p0_3 c0_3 a0.g.o)) (r : Int × Bool) (H0 : i_Machine_tagFor fl a0 a1 a2 = some r) :
  Ct prog 31 [.agg #[.slice p0_0 n0_0 c0_0, .slice p0_1 n0_1 c0_1, .slice p0_2 n0_2 c0_2, I a0.c.h, I a0.g.c, I a0.g.n, I a0.g.r, .slice p0_3 n0_3 c0_3, I a0.s], I a1, I a2] w [] (fun rv h' => rv = .tuple #[I r.1, .bool r.2] ∧ h' = []) := by
 subst hn0_0 hn0_1 hn0_2 hn0_3
 unfold i_Machine_tagFor at H0
 refine ct_of_cw func31 J ntmps31 J (Sat.refl _ _) ?_
 refine sr (oE (stpU_box 0 J J) J ?_)
 rintro _ _ ⟨b1, rfl, rfl⟩
 refine oS J (sq J (oM J (oI J (nn (cH J H0 (fun H0 => ?_) (fun H0 => ?_))))))
 ·refine sr (oS J (sr1 J (kR ?_)))
  obtain rfl := sI H0
  exact kr results31 (.cons (.tmp J) (rT J)) [] ⟨J, J⟩
 obtain ⟨x3, e3, H0⟩ := bS H0
 refine ks (oA 4 u34 J ts32 J (oB4 0 ts32 J (oM J (oE (uC 1 cf73 (fun w hw => c_i_TagOf fl w a0.g a1 J (rp hr0_3 hw) x3 e3) (yB J J)) J ?_))))
 rintro _ _ ⟨_, ⟨rfl, rfl⟩, rfl⟩
 refine oT J (oT J (oS J (sn J (cw_ret ?_))))
 obtain rfl := sI H0
 exact kr results31 (.cons (.tmp J) (rT J)) [] ⟨J, J⟩

theorem c_i_Cache_place_1 (fl : Nat) (w : World) (a0 : Ln) (qc0 : Nat) (ac0 : Int) (qc1 : Nat) (ac1 : Int) (hbac0 : RO w [] (fun w' => w'.rangeAt qc0 0 [I ac0])) (hbac1 : RO w [] (fun w' => w'.rangeAt qc1 0 [I ac1])) (r : Bool) (H0 : i_Cache_place_1 fl a0 ac0 ac1 = some r) :
  Ct prog 75 [.agg #[.bool a0.va, I a0.tg, I a0.pg, I a0.fr, I a0.ri, .bool a0.wi], .pointer (some ⟨qc0, 0, none⟩), .pointer (some ⟨qc1, 0, none⟩)] w [] (fun rv h' => rv = .bool r ∧ h' = []) := by
 unfold i_Cache_place_1 at H0
 refine ct_of_cw func75 J ntmps75 J (Sat.refl _ _) ?_
 refine sr (oE (stpU_box 0 J J) J ?_)
 rintro _ _ ⟨b1, rfl, rfl⟩
 obtain ⟨y2, ey2, H0⟩ := bS H0
 refine ss J (oAL 0 u66 J ts4 J 0 J (oM J (ow_cutY 5 12 y2 ?_ ?_)))
 ·rcases Bool.eq_false_or_eq_true a0.va with hy2 | hy2
  ·have ey2 := cond_t ey2 hy2
   refine oG J hy2 (fA 2 u66 J ts3 J J J) J (oG J hy2 (lB 0 ts3 J J J) J (oG J hy2 (stp_load1 ts3 J (Cells.ofRO hbac0 1 J)) J (oG J hy2 (stp_eql J J) J (oD (stp_pick_t J hy2 J) J ?_))))
   obtain rfl := sI ey2
   exact ow_nil (jy 5 0)
  have ey2 := cond_f ey2 hy2
  refine oO J hy2 J (oO J hy2 J (oO J hy2 J (oO J hy2 J (oD (stp_pick_f J hy2 J) J ?_))))
  obtain rfl := sI ey2
  exact ow_nil (jy 5 0)
 obtain ⟨y3, ey3, H0⟩ := bS H0
 refine oM J (ow_cutY 10 23 y3 ?_ ?_)
 ·rcases Bool.eq_false_or_eq_true y2 with hy3 | hy3
  ·have ey3 := cond_t ey3 hy3
   obtain ⟨y4, ey4, ey3⟩ := bS ey3
   refine oG J hy3 (fA 1 u66 J ts3 J J J) J (oG J hy3 (lB 0 ts3 J J J) J (oG J hy3 (stp_load1 ts3 J (Cells.ofRO hbac1 1 J)) J (oG J hy3 (stp_eql J J) J (oG J hy3 (mv J) J (ow_cutY 4 22 y4 ?_ ?_)))))
   ·rcases Bool.eq_false_or_eq_true (a0.tg == ac1) with hy4 | hy4
    ·have ey4 := cond_t ey4 hy4
     refine oO J hy4 J (oO J hy4 J (oO J hy4 J (oG J hy3 (stp_pick_t J hy4 J) J ?_)))
     obtain rfl := sI ey4
     exact ow_nil (jy 4 0)
    have ey4 := cond_f ey4 hy4
    refine oG J hy4 (fA 1 u66 J ts3 J J J) J (oG J hy4 (lB 0 ts3 J J J) J (oG J hy4 (stp_eql J J) J (oG J hy3 (stp_pick_f J hy4 J) J ?_)))
    obtain rfl := sI ey4
    exact ow_nil (jy 4 0)
   refine oD (stp_pick_t J hy3 J) J ?_
   obtain rfl := sI ey3
   exact ow_nil (jy 7 0)
  have ey3 := cond_f ey3 hy3
  refine oO J hy3 J (oO J hy3 J (oO J hy3 J (oO J hy3 J (oO J hy3 J (oX J J J (oX J J J (oX J J J (oO J hy3 J (oD (stp_pick_f J hy3 J) J ?_)))))))))
  obtain rfl := sI ey3
  exact ow_nil (jy 10 0)
 refine sn J (cw_ret ?_)
 obtain rfl := sI H0
 exact kr results75 (rT J) [] ⟨J, J⟩

theorem c_slices_IndexFunc_Line_of_i_Cache_place_1 (fl : Nat) (w : World) (a0 : (List Ln)) (q1_0 : Nat) (a1_0 : Int) (q1_1 : Nat) (a1_1 : Int) (hn0_0 : n0_0 = (a0).length) (hr0_0 : RO w [] (RdL p0_0 c0_0 a0)) (hba1_0 : RO w [] (fun w' => w'.rangeAt q1_0 0 [I a1_0])) (hba1_1 : RO w [] (fun w' => w'.rangeAt q1_1 0 [I a1_1])) (r : Int) (H0 : slices_IndexFunc_Line_of_i_Cache_place_1 fl a0 a1_0 a1_1 = some r) :
  Ct prog 74 [.slice p0_0 n0_0 c0_0, .func (.func 75) #[] #[.pointer (some ⟨q1_0, 0, none⟩), .pointer (some ⟨q1_1, 0, none⟩)]] w [] (fun rv h' => rv = I r ∧ h' = []) := by
 subst hn0_0
 unfold slices_IndexFunc_Line_of_i_Cache_place_1 at H0
 refine ct_of_cw func74 J ntmps74 J (Sat.refl _ _) ?_
 obtain ⟨o0_0, eo0_0, H0⟩ := bS H0
 refine sr (sq J (oM J (oD (stp_len u27 J) J (oM J (nn (lp (fun f a => slices_IndexFunc_Line_of_i_Cache_place_1_L0 fl a0 a1_0 a1_1 f a = some o0_0) (fun a => o0_0 = .out a) (fun R s h => ∃ v1, R v1 ∧ s = [(0, .slice p0_0 ((a0).length) c0_0), (1, .func (.func 75) #[] #[.pointer (some ⟨q1_0, 0, none⟩), .pointer (some ⟨q1_1, 0, none⟩)]), (7, I ((a0).length : Int)), (8, I v1)] ∧ h = []) ⟨_, eo0_0, J, J⟩ ?_ ?_))))))
 ·rintro fuel _ _ ⟨v1, H1, rfl, rfl⟩
  rcases fuel with _ | fuel
  ·rw [slices_IndexFunc_Line_of_i_Cache_place_1_L0.eq_1] at H1; cases H1
  rw [slices_IndexFunc_Line_of_i_Cache_place_1_L0.eq_2] at H1
  refine sr (oW J (nn (cq (cH J H1 (fun H1 => ?_) (fun H1 => ?_)))))
  ·obtain ⟨x3, e3, H1⟩ := bS H1
   refine kq (cw_block (sr (oM J (ss J (oM J (oM J (oM J (oD (stp_indexAddr u27 ts66 (by decide) J J J (Rdb.ro hr0_0) e3) J (oD (stp_loadN (us := [_, _, _, _, _, _]) ts66 J (Cells.el (Rdb.ro hr0_0) (by decide) e3 0 6 J)) J ?_)))))))))
   obtain ⟨x4, e4, H1⟩ := bS H1
   refine oE (stpU_callF (vals := [_]) (ca := [_, _]) (fun i => 0 + i) cf75 (fun w hw => c_i_Cache_place_1 fl w x3 q1_0 a1_0 q1_1 a1_1 (rp hba1_0 hw) (rp hba1_1 hw) x4 e4) J (yA J)) J ?_
   rintro _ _ ⟨_, ⟨rfl, rfl⟩, rfl⟩
   refine nn (cH J H1 (fun H1 => ?_) (fun H1 => ?_))
   ·refine sr (oM J (sr1 J (kw_bl_ret (kR (ar (kw_bl_ret (xr (kR ?_))))))))
    obtain rfl := sI H1
    obtain rfl := sI H0
    exact kr results74 (rT J) [] ⟨J, J⟩
   obtain ⟨x6, e6, H1⟩ := bS H1
   exact cw_skip (kb (cR (oP e6 J (oM J (ow_nil (ka ⟨_, H1, J, J⟩))))))
  refine cw_exit (kw_nx_exit (ax (kw_bl ?_)))
  obtain rfl := sI H1
  exact kx ⟨_, J, J, J⟩
 rintro _ _ ⟨v1, rfl, rfl, rfl⟩
 refine kw_nx (sr (sn J (cw_ret ?_)))
 obtain rfl := sI H0
 exact kr results74 (rT J) [] ⟨J, J⟩

theorem c_i_Cache_place (fl : Nat) (w : World) (a0 : Ca) (a1 : Int) (a2 : Int) (hn0_0 : n0_0 = (a0.l).length) (hr0_0 : RO w [] (RdL p0_0 c0_0 a0.l)) (r : Int) (H0 : i_Cache_place fl a0 a1 a2 = some r) :
  Ct prog 32 [.agg #[.slice p0_0 n0_0 c0_0, I a0.h], I a1, I a2] w [] (fun rv h' => rv = I r ∧ h' = []) := by
 subst hn0_0
 unfold i_Cache_place at H0
 refine ct_of_cw func32 J ntmps32 J (Sat.refl _ _) ?_
 refine sr (oE (stpU_box 0 J J) J ?_)
 rintro _ _ ⟨b1, rfl, rfl⟩
 refine oE (stpU_box 1 J J) J ?_
 rintro _ _ ⟨b2, rfl, rfl⟩
 refine oE (stpU_box 2 J J) J ?_
 rintro _ _ ⟨b3, rfl, rfl⟩
 obtain ⟨x4, e4, H0⟩ := bS H0
 refine ss J (oAL 0 u29 J ts27 J 0 J (oD (stp_makeFunc (yB J J)) J (oE (uC 3 cf74 (fun w hw => c_slices_IndexFunc_Line_of_i_Cache_place_1 fl w a0.l b3 a2 b2 a1 J (rp hr0_0 hw) (box_pass (id := 2) J hw) (box_pass (id := 1) J hw) x4 e4) (yB J J)) J ?_)))
 rintro _ _ ⟨_, ⟨rfl, rfl⟩, rfl⟩
 refine sn J (cw_ret ?_)
 obtain rfl := sI H0
 exact kr results32 (rT J) [] ⟨J, J⟩

theorem c_i_Allows (fl : Nat) (w : World) (a0 : Int) (a1 : Int) (r : Bool) (H0 : i_Allows fl a0 a1 = some r) :
  Ct prog 11 [I a0, I a1] w [] (fun rv h' => rv = .bool r ∧ h' = []) := by
 unfold i_Allows at H0
 refine ct_of_cw func11 J ntmps11 J (Sat.refl _ _) ?_
 obtain ⟨x1, e1, H0⟩ := bS H0
 refine sr (ss J (oM J (oE (uC 0 cf30 (fun w hw => c_i_RightsValid fl w a0 x1 e1) (yA J)) J ?_)))
 rintro _ _ ⟨_, ⟨rfl, rfl⟩, rfl⟩
 obtain ⟨y2, ey2, H0⟩ := bS H0
 refine oM J (ow_cutY 3 10 y2 ?_ ?_)
 ·rcases Bool.eq_false_or_eq_true x1 with hy2 | hy2
  ·have ey2 := cond_t ey2 hy2
   obtain ⟨x3, e3, ey2⟩ := bS ey2
   refine oG J hy2 (mv J) J (ow_eff (.some J hy2) (uC 0 cf30 (fun w hw => c_i_RightsValid fl w a1 x3 e3) (yA J)) J ?_)
   rintro _ _ ⟨_, ⟨rfl, rfl⟩, rfl⟩
   refine oD (stp_pick_t J hy2 J) J ?_
   obtain rfl := sI ey2
   exact ow_nil (jy 3 0)
  have ey2 := cond_f ey2 hy2
  refine oO J hy2 J (oO J hy2 J (oD (stp_pick_f J hy2 J) J ?_))
  obtain rfl := sI ey2
  exact ow_nil (jy 3 0)
 obtain ⟨y4, ey4, H0⟩ := bS H0
 refine oM J (ow_cutY 5 16 y4 ?_ ?_)
 ·rcases Bool.eq_false_or_eq_true y2 with hy4 | hy4
  ·have ey4 := cond_t ey4 hy4
   refine oG J hy4 (mv J) J (oG J hy4 (mv J) J (oG J hy4 (stp_andNot J J) J (oG J hy4 (stp_eql J J) J (oD (stp_pick_t J hy4 J) J ?_))))
   obtain rfl := sI ey4
   exact ow_nil (jy 5 0)
  have ey4 := cond_f ey4 hy4
  refine oO J hy4 J (oO J hy4 J (oO J hy4 J (oO J hy4 J (oD (stp_pick_f J hy4 J) J ?_))))
  obtain rfl := sI ey4
  exact ow_nil (jy 5 0)
 refine sn J (cw_ret ?_)
 obtain rfl := sI H0
 exact kr results11 (rT J) [] ⟨J, J⟩

theorem c_i_VictimOf (fl : Nat) (w : World) (a0 : Ca) (hn0_0 : n0_0 = (a0.l).length) (hr0_0 : RO w [] (RdL p0_0 c0_0 a0.l)) (r : Int × Bool) (H0 : i_VictimOf fl a0 = some r) :
  Ct prog 78 [.agg #[.slice p0_0 n0_0 c0_0, I a0.h]] w [] (fun rv h' => rv = .tuple #[I r.1, .bool r.2] ∧ h' = []) := by
 subst hn0_0
 unfold i_VictimOf at H0
 refine ct_of_cw func78 J ntmps78 J (Sat.refl _ _) ?_
 refine sr (oE (stpU_box 0 J J) J ?_)
 rintro _ _ ⟨b1, rfl, rfl⟩
 obtain ⟨x2, e2, H0⟩ := bS H0
 refine oS J (sq J (oB2 0 ts29 J (oE (uC 1 cf37 (fun w hw => c_i_CacheValid fl w a0 J (rp hr0_0 hw) x2 e2) (yA J)) J ?_)))
 rintro _ _ ⟨_, ⟨rfl, rfl⟩, rfl⟩
 refine oK J (nn (cH J H0 (fun H0 => ?_) (fun H0 => ?_)))
 ·refine sr (oS J (sr1 J (kR ?_)))
  obtain rfl := sI H0
  exact kr results78 (.cons (.tmp J) (rT J)) [] ⟨J, J⟩
 obtain ⟨o0_0, eo0_0, H0⟩ := bS H0
 refine kq (sr (oAL 0 u29 J ts27 J 0 J (oD (stp_len u27 J) J (oM J (nn (lp (fun f a => i_VictimOf_L0 fl a0 f a = some o0_0) (fun a => o0_0 = .out a) (fun R s h => ∃ v4, R v4 ∧ s = [(1, .pointer (some ⟨b1, 0, none⟩)), (11, .slice p0_0 ((a0.l).length) c0_0), (12, I ((a0.l).length : Int)), (13, I v4)] ∧ h = [(0, [(b1, .cells #[.slice p0_0 ((a0.l).length) c0_0, I a0.h] 29 (0, 0))])]) ⟨_, eo0_0, J, J⟩ ?_ ?_))))))
 ·rintro fuel _ _ ⟨v4, H1, rfl, rfl⟩
  rcases fuel with _ | fuel
  ·rw [i_VictimOf_L0.eq_1] at H1; cases H1
  rw [i_VictimOf_L0.eq_2] at H1
  refine sr (oW J (nn (cq (cH J H1 (fun H1 => ?_) (fun H1 => ?_)))))
  ·obtain ⟨x6, e6, H1⟩ := bS H1
   refine kq (cw_block (sr (oM J (oD (stp_indexAddr u27 ts66 (by decide) J J J (Rdb.ro hr0_0) e6) J (oD (stp_loadN (us := [_, _, _, _, _, _]) ts66 J (Cells.el (Rdb.ro hr0_0) (by decide) e6 0 6 J)) J (oE (stpU_alloc 1 tz66 J) J ?_))))))
   rintro _ _ ⟨b7, rfl, rfl⟩
   refine oS J (oC6 1 ts66 J J (ns (oAL 0 u66 J ts4 J 1 J (oK J (nn (cH J H1 (fun H1 => ?_) (fun H1 => ?_)))))))
   ·refine sr (oM J (oS J (sr1 J (kw_bl_ret (kR (ar (kw_bl_ret (xr (kR ?_)))))))))
    obtain rfl := sI H1
    obtain rfl := sI H0
    exact kr results78 (.cons (.tmp J) (rT J)) [] ⟨J, J⟩
   obtain ⟨x9, e9, H1⟩ := bS H1
   exact cw_skip (kb (cR (oP e9 J (oM J (ow_nil (ka ⟨_, H1, J, J⟩))))))
  refine cw_exit (kw_nx_exit (ax (kw_bl ?_)))
  obtain rfl := sI H1
  exact kx ⟨_, J, J, J⟩
 rintro _ _ ⟨v4, rfl, rfl, rfl⟩
 obtain ⟨o0_1, eo0_1, H0⟩ := bS H0
 refine kw_nx (sr (oAL 1 u29 J ts3 J 0 J (sn J (cq (lp (fun f a => i_VictimOf_L1 fl a0 f a = some o0_1) (fun a => o0_1 = .out a) (fun R s h => ∃ v10, R v10 ∧ s = [(1, .pointer (some ⟨b1, 0, none⟩)), (6, I v10)] ∧ h = [(0, [(b1, .cells #[.slice p0_0 ((a0.l).length) c0_0, I a0.h] 29 (0, 0))])]) ⟨_, eo0_1, J, J⟩ ?_ ?_)))))
 ·rintro fuel _ _ ⟨v10, H1, rfl, rfl⟩
  rcases fuel with _ | fuel
  ·rw [i_VictimOf_L1.eq_1] at H1; cases H1
  rw [i_VictimOf_L1.eq_2] at H1
  obtain ⟨x11, e11, H1⟩ := bS H1
  refine csr (oAL 0 u29 J ts27 J 0 J (oM J (oD (stp_indexAddr u27 ts66 (by decide) J J J (Rdb.ro hr0_0) e11) J (oA 5 u66 J ts4 J (oD (stp_load1 ts4 J (Cells.el (Rdb.ro hr0_0) (by decide) e11 5 1 J)) J (nn (cH J H1 (fun H1 => ?_) (fun H1 => ?_))))))))
  ·obtain ⟨x13, e13, H1⟩ := bS H1
   obtain ⟨x14, e14, H1⟩ := bS H1
   exact kz (cw_block (cR (oM J (oP e13 J (oAL 0 u29 J ts27 J 0 J (oD (stp_len u27 J) J (oD (stp_rem J J e14) J (oS J (ow_nil (kw_bl_normal (ka ⟨_, H1, J, J⟩)))))))))))
  refine cw_exit (kw_nx_exit (ax (kw_bl ?_)))
  obtain rfl := sI H1
  exact kx ⟨_, J, J, J⟩
 rintro _ _ ⟨v10, rfl, rfl, rfl⟩
 refine kw_nx (sr (oM J (oS J (sn J (cw_ret ?_)))))
 obtain rfl := sI H0
 exact kr results78 (.cons (.tmp J) (rT J)) [] ⟨J, J⟩

theorem c_i_Cache_with (fl : Nat) (w : World) (a0 : Ca) (a1 : Int) (a2 : Ln) (hn0_0 : n0_0 = (a0.l).length) (hr0_0 : RO w [] (RdL p0_0 c0_0 a0.l)) (r : Ca) (H0 : i_Cache_with fl a0 a1 a2 = some r) :
  Ct prog 80 [.agg #[.slice p0_0 n0_0 c0_0, I a0.h], I a1, .agg #[.bool a2.va, I a2.tg, I a2.pg, I a2.fr, I a2.ri, .bool a2.wi]] w [] (fun rv h' => SL 66 r.l fun x0 y0 z0 C0 => rv = .agg #[.slice x0 y0 z0, I r.h] ∧ h' = [(0, C0)]) := by
 subst hn0_0
 unfold i_Cache_with at H0
 refine ct_of_cw func80 J ntmps80 J (Sat.refl _ _) ?_
 refine sr (oE (stpU_box 0 J J) J ?_)
 rintro _ _ ⟨b1, rfl, rfl⟩
 refine oE (stpU_box 1 J J) J ?_
 rintro _ _ ⟨b2, rfl, rfl⟩
 refine oE (stpU_alloc 2 tz29 J) J ?_
 rintro _ _ ⟨b3, rfl, rfl⟩
 obtain ⟨x4, e4, H0⟩ := bS H0
 refine nn (cq (rdt g_mixed [.n 0, .n 1, .n 4, .n 5, .d 2, .d 7, .o 2, .n 3, .n 6, .o 7, .n 8] ⟨[[],[0],[],[],[],[0],[],[],[4]], [[],[],[3],[],[],[],[],[4],[4]], [2,7]⟩ (dA 0 J u29 J ts27 J (dL 0 ts27 J (dA 1 J u29 J ts3 J (dL 0 ts3 J (dq J (fun hh => uC 3 cf72 (fun w hw => c_slices_Clone_Line fl w a0.l J (rp hr0_0 hw) x4 e4) (yA J)) (by rintro _ _ ⟨_, ⟨_, _, _, _, _, _, rfl, rfl⟩, rfl⟩; rfl) (dq J (fun hh => stpU_alloc 4 tz29 J) (by rintro _ _ ⟨_, rfl, rfl⟩; rfl) (dp J ?_)))))))))
 rintro _ _ ⟨_, ⟨p5, _, c7, C8, rfl, o8, rfl, rfl⟩, rfl⟩
 refine dV J (fun hh => stpU_call (fun i => i) cf71 (fun w hw => c_clip71 w p5 ((x4).length) c7 (OwnC.len o8).1) (yA J)) J (dD J (stp_build (cs := #[.slice p5 ((x4).length) ((x4).length), I a0.h]) (sP J (sP J sE)) bt29_15) (dp J ?_))
 rintro _ _ ⟨b9, rfl, rfl⟩
 obtain ⟨x10, e10, H0⟩ := bS H0
 refine dC2 4 ts29 J J J (dn (kw_nx (sr (oAL 0 u29 J ts27 J 4 J (oM J (oB6 1 ts66 J (oD (stp_indexAddr u27 ts66 (by decide) J J J (Rdb.own (id := 3) J (OwnC.clip o8)) e10) J (oF (stpU_storeEl (id := 3) (i := 0) a2 (by decide) ts66 J J J (OwnC.clip o8) e10 J J J J) ?_))))))))
 rintro _ _ ⟨C11, rfl, o11⟩
 refine ns (oB2 4 ts29 J (oC2 2 ts29 J J (nn (cw_ret ?_))))
 obtain rfl := sI H0
 exact kr results80 (rC2 2 ts29 J J) [3] (sl (by simp) o11 ⟨J, J⟩)
end Go.Proofs.YtcloffimpakmnaaGreatDoor
