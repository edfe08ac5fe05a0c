/- The walks: functions of the program return what their pure functions say. Printed by a program (gen.py). -/
import Derived.Test.YtbfbfkpcabkchaaGreatDoorVp
import Derived.Test.YtbfbfkpcabkchaaGreatDoorVt
import Derived.Test.YtbfbfkpcabkchaaGreatDoorMan
import Derived.Test.YtbfbfkpcabkchaaGreatDoorMap
import Derived.Test.YtbfbfkpcabkchaaGreatDoorCpy
import Derived.Test.YtbfbfkpcabkchaaGreatDoorVe
import Derived.Test.YtbfbfkpcabkchaaGreatDoorVwaa
import Derived.Test.YtbfbfkpcabkchaaGreatDoorVws
set_option linter.unusedSimpArgs false
set_option linter.unusedVariables false
set_option linter.unusedSectionVars false
namespace Go.Proofs.YtbfbfkpcabkchaaGreatDoor
open Go.RowKit
open Tryz
set_option maxHeartbeats 4000000
set_option maxRecDepth 20000
variable {p0_0 p0_0_0 p0_1 p0_2 p0_3 p0_4 p1_0 p1_1 p1_2 p1_3 p1_4 : Option Addr} {n0_0 n0_0_0 n0_1 n0_2 n0_3 n0_4 n1_0 n1_1 n1_2 n1_3 n1_4 : Nat} {c0_0 c0_0_0 c0_1 c0_2 c0_3 c0_4 c1_0 c1_1 c1_2 c1_3 c1_4 : Nat} {C1_0 C1_1 C1_2 C1_3 : Res}
theorem c_s_l3Unmap (fl : Nat) (w : World) (a0 : T) (a1 : Int) (hn0_0 : n0_0 = (a0.b).length) (hr0_0 : RO w [] (RdL p0_0 c0_0 a0.b)) (hn0_1 : n0_1 = (a0.f).length) (hr0_1 : RO w [] (RdL p0_1 c0_1 a0.f)) (r : T) (H0 : s_l3Unmap fl a0 a1 = some r) :
  Ct prog 138 [.agg #[.slice p0_0 n0_0 c0_0, .slice p0_1 n0_1 c0_1], I a1] w [] (fun rv h' => SL 3 r.b fun x0 y0 z0 C0 => SL 57 r.f fun x1 y1 z1 C1 => rv = .agg #[.slice x0 y0 z0, .slice x1 y1 z1] ∧ h' = [(0, C0), (1, C1)]) := by
 subst hn0_0 hn0_1
 unfold s_l3Unmap at H0
 refine ct_of_cw func138 J ntmps138 J (Sat.refl _ _) ?_
 refine sr (oE (stpU_box 0 J J) J ?_)
 rintro _ _ ⟨b1, rfl, rfl⟩
 refine oE (stpU_alloc 1 tz26 J) J ?_
 rintro _ _ ⟨b2, rfl, rfl⟩
 obtain ⟨x3, e3, H0⟩ := bS H0
 refine ns (oB2 0 ts26 J (oE (uC 2 cf100 (fun w hw => c_s_l3Copy fl w a0 J (rp hr0_0 hw) J (rp hr0_1 hw) x3 e3) (yA J)) J ?_))
 rintro _ _ ⟨_, ⟨p4, _, c6, C7, rfl, o7, p8, _, c10, C11, rfl, o11, rfl, rfl⟩, rfl⟩
 refine oE (stpU_alloc 4 tz26 J) J ?_
 rintro _ _ ⟨b12, rfl, rfl⟩
 obtain ⟨x13, e13, H0⟩ := bS H0
 obtain ⟨x14, e14, H0⟩ := bS H0
 refine oC2 4 ts26 J J (nn (cq (rdt g_mixed (rn 0 11) ⟨[[],[0],[],[],[],[],[],[0]], [], []⟩ (dA 1 J u26 J ts24 J (dL 0 ts24 J (dM J (dD J (stp_indexAddr u24 ts57 (by decide) J J J (Rdb.ro hr0_1) e13) (dA 1 J u57 J ts50 J (dD J (stp_loadN (us := [_, _]) ts50 J (Cells.el (Rdb.ro hr0_1) (by decide) e13 1 2 J)) (dA 0 J u26 J ts23 J (dL 0 ts23 J (dD J (stp_len u23 J) (dV J (fun hh => uC 5 cf77 (fun w hw => c_s_l2Hash fl w x13.k ((a0.b).length : Int) x14 e14) (yB J J)) J ?_)))))))))))))
 refine dS J (dn (kw_nx (sr (oAL 1 u26 J ts24 J 0 J (oM J (oD (stp_indexAddr u24 ts57 (by decide) J J J (Rdb.ro hr0_1) e13) J (oA 4 u57 J ts3 J (oD (stp_load1 ts3 J (Cells.el (Rdb.ro hr0_1) (by decide) e13 4 1 J)) J (ss J (oA 1 u26 J ts24 J ?_))))))))))
 obtain ⟨x15, e15, H0⟩ := bS H0
 refine oL 4 ts24 J (oM J (oD (stp_build (cs := #[.bool false, I 0, I 0, I 0, I (-1)]) (sP J sE) bt57_1) J (oD (stp_indexAddr u24 ts57 (by decide) J J J (Rdb.own (id := 3) J o11) e15) J (oF (stpU_storeEl (id := 3) (i := 0) (⟨false, (⟨0, 0⟩ : K), 0, (-1)⟩ : F) (by decide) ts57 J J J o11 e15 J J J J) ?_))))
 rintro _ _ ⟨C16, rfl, o16⟩
 obtain ⟨x17, e17, H0⟩ := bS H0
 refine nq (oAL 0 u26 J ts23 J 0 J (oM J (oD (stp_indexAddr u23 ts3 (by decide) J J J (Rdb.ro hr0_0) e17) J (oD (stp_load1 ts3 J (Cells.el (Rdb.ro hr0_0) (by decide) e17 0 1 J)) J (oM J (oQ J (nn (cH J H0 (fun H0 => ?_) (fun H0 => ?_)))))))))
 ·obtain ⟨x19, e19, H0⟩ := bS H0
  refine sr (oAL 0 u26 J ts23 J 4 J (oM J (oM J (oD (stp_indexAddr u23 ts3 (by decide) J J J (Rdb.own (id := 2) J o7) e19) J (oF (stpU_storeEl (id := 2) (i := 0) x13.nx (by decide) ts3 J J J o7 e19 J J J J) ?_)))))
  rintro _ _ ⟨C20, rfl, o20⟩
  refine ns (oB2 4 ts26 J (oC2 1 ts26 J J (nr (kR ?_))))
  obtain rfl := sI H0
  exact kr results138 (rC2 1 ts26 J J) [2, 3] (sl (by simp) o20 (sl (by simp) o16 ⟨J, J⟩))
 obtain ⟨o0_0, eo0_0, H0⟩ := bS H0
 refine kq (sr (sn J (lp (fun f a b => s_l3Unmap_L0 fl a0 a1 x13 f a b = some o0_0) (fun a b => o0_0 = .out (a, b)) (fun R s h => ∃ v21 v23 C22, R v21 v23 ∧ s = [(1, I a1), (2, .pointer (some ⟨b1, 0, none⟩)), (4, .pointer (some ⟨b2, 0, none⟩)), (5, .pointer (some ⟨b12, 0, none⟩)), (7, I x13.nx), (8, I v23)] ∧ h = [(0, [(b1, .cells #[.slice p0_0 ((a0.b).length) c0_0, .slice p0_1 ((a0.f).length) c0_1] 26 (0, 0))]), (1, [(b2, .cells #[sN, sN] 26 (0, 0))]), (2, C7), (3, C22), (4, [(b12, .cells #[.slice p4 ((x3.b).length) c6, .slice p8 ((x3.f).length) c10] 26 (0, 0))])] ∧ (x3.f).length = (v21).length ∧ OwnC 57 p8 c10 v21 C22) ⟨_, _, C16, eo0_0, J, J, (by simp), o16⟩ ?_ ?_)))
 ·rintro fuel _ _ ⟨v21, v23, C22, H1, rfl, rfl, hl22, o22⟩
  rcases fuel with _ | fuel
  ·rw [s_l3Unmap_L0.eq_1] at H1; cases H1
  rw [s_l3Unmap_L0.eq_2] at H1
  refine csr (oM J (oAL 1 u26 J ts24 J 0 J (oD (stp_len u24 J) J (oW J (nn (cH J H1 (fun H1 => ?_) (fun H1 => ?_)))))))
  ·obtain ⟨x25, e25, H1⟩ := bS H1
   obtain ⟨y26, ey26, H1⟩ := bS H1
   refine kq (cw_block (sr (oAL 1 u26 J ts24 J 0 J (oM J (oD (stp_indexAddr u24 ts57 (by decide) J J J (Rdb.ro hr0_1) e25) J (oA 0 u57 J ts4 J (oD (stp_load1 ts4 J (Cells.el (Rdb.ro hr0_1) (by decide) e25 0 1 J)) J (oM J (ow_cutY 9 67 y26 ?_ ?_)))))))))
   ·rcases Bool.eq_false_or_eq_true x25.u with hy26 | hy26
    ·have ey26 := cond_t ey26 hy26
     refine oG J hy26 (fA 1 u26 J ts24 J J J) J (oG J hy26 (lB 0 ts24 J J J) J (oG J hy26 (mv J) J (oG J hy26 (stp_indexAddr u24 ts57 (by decide) J J J (Rdb.ro hr0_1) e25) J (oG J hy26 (fA 4 u57 J ts3 J J J) J (oG J hy26 (stp_load1 ts3 J (Cells.el (Rdb.ro hr0_1) (by decide) e25 4 1 J)) J (oG J hy26 (mv J) J (oG J hy26 (stp_eql J J) J (oD (stp_pick_t J hy26 J) J ?_))))))))
     obtain rfl := sI ey26
     exact ow_nil (jy 9 0)
    have ey26 := cond_f ey26 hy26
    refine oO J hy26 J (oO J hy26 J (oO J hy26 J (oO J hy26 J (oO J hy26 J (oO J hy26 J (oO J hy26 J (oO J hy26 J (oD (stp_pick_f J hy26 J) J ?_))))))))
    obtain rfl := sI ey26
    exact ow_nil (jy 9 0)
   refine ow_nil (kw_nx (cH J H1 (fun H1 => ?_) (fun H1 => ?_)))
   ·obtain ⟨x28, e28, H1⟩ := bS H1
    refine cR (oAL 1 u26 J ts24 J 4 J (oM J (oM J (oD (stp_indexAddr u24 ts57 (by decide) J (by simp [hl22]) J (Rdb.own (id := 3) J o22) e28) J (oA 4 u57 J ts3 J (oF (stpU_storeEl (id := 3) (i := 4) (⟨x28.u, x28.k, x28.r, x13.nx⟩ : F) (by decide) ts3 J J J o22 e28 J J J J) ?_))))))
    rintro _ _ ⟨C29, rfl, o29⟩
    obtain ⟨x30, e30, H1⟩ := bS H1
    exact ow_nil (kb (cR (oM J (oP e30 J (oS J (ow_nil (ka ⟨_, _, C29, H1, J, J, (by simp [hl22]), o29⟩)))))))
   obtain ⟨x31, e31, H1⟩ := bS H1
   exact cw_skip (kb (cR (oM J (oP e31 J (oS J (ow_nil (ka ⟨_, _, C22, H1, J, J, (by simp [hl22]), o22⟩)))))))
  refine cw_exit (kw_nx_exit (ax (kw_bl ?_)))
  obtain rfl := sI H1
  exact kx ⟨_, _, C22, J, J, J, (by simp [hl22]), o22⟩
 rintro _ _ ⟨v21, v23, C22, rfl, rfl, rfl, hl22, o22⟩
 refine kw_nx (sr (oB2 4 ts26 J (oC2 1 ts26 J J (nn (cw_ret ?_)))))
 obtain rfl := sI H0
 exact kr results138 (rC2 1 ts26 J J) [2, 3] (sl J o7 (sl (by simp [hl22]) o22 ⟨J, J⟩))

theorem c_s_UnmapPage (fl : Nat) (w : World) (a0 : T) (a1 : K) (hn0_0 : n0_0 = (a0.b).length) (hr0_0 : RO w [] (RdL p0_0 c0_0 a0.b)) (hn0_1 : n0_1 = (a0.f).length) (hr0_1 : RO w [] (RdL p0_1 c0_1 a0.f)) (r : T × Bool) (H0 : s_UnmapPage fl a0 a1 = some r) :
  Ct prog 117 [.agg #[.slice p0_0 n0_0 c0_0, .slice p0_1 n0_1 c0_1], .agg #[I a1.s, I a1.p]] w [] (fun rv h' => SL 3 r.1.b fun x0 y0 z0 C0 => SL 57 r.1.f fun x1 y1 z1 C1 => rv = .tuple #[.agg #[.slice x0 y0 z0, .slice x1 y1 z1], .bool r.2] ∧ h' = [(0, C0), (1, C1)]) := by
 subst hn0_0 hn0_1
 unfold s_UnmapPage at H0
 refine ct_of_cw func117 J ntmps117 J (Sat.refl _ _) ?_
 refine sr (oE (stpU_box 0 J J) J ?_)
 rintro _ _ ⟨b1, rfl, rfl⟩
 refine oE (stpU_box 1 J J) J ?_
 rintro _ _ ⟨b2, rfl, rfl⟩
 refine oE (stpU_alloc 2 tz26 J) J ?_
 rintro _ _ ⟨b3, rfl, rfl⟩
 obtain ⟨x4, e4, H0⟩ := bS H0
 refine ss J (oB2 0 ts26 J (oB2 1 ts50 J (oE (uC 3 cf137 (fun w hw => c_s_FindPage fl w a0 a1 J (rp hr0_0 hw) J (rp hr0_1 hw) x4 e4) (yB J J)) J ?_)))
 rintro _ _ ⟨_, ⟨rfl, rfl⟩, rfl⟩
 refine oMTT J J J (oT J (oS J (oS J (sq J (oM J (oK J (nn (cH J H0 (fun H0 => ?_) (fun H0 => ?_)))))))))
 ·refine sr (oD (stp_build (cs := #[sN, sN]) sE bt26_0) J (oC2 2 ts26 J J (sR J (kA 3 (kA 4 ?_)))))
  obtain rfl := sI H0
  exact kr results117 (.cons (.cellN (us := [_, _]) ts26 J (Cells.box (id := 2) J 2 J)) (rT J)) [3, 4] (sl J oN0 (sl J oN0 ⟨J, J⟩))
 obtain ⟨x6, e6, H0⟩ := bS H0
 refine ks (oB2 0 ts26 J (oM J (oE (uC 5 cf138 (fun w hw => c_s_l3Unmap fl w a0 x4.1 J (rp hr0_0 hw) J (rp hr0_1 hw) x6 e6) (yB J J)) J ?_)))
 rintro _ _ ⟨_, ⟨p7, _, c9, C10, rfl, o10, p11, _, c13, C14, rfl, o14, rfl, rfl⟩, rfl⟩
 refine oC2 2 ts26 J J (sn J (cw_ret ?_))
 obtain rfl := sI H0
 exact kr results117 (.cons (.cellN (us := [_, _]) ts26 J (Cells.box (id := 2) J 2 J)) (rT J)) [5, 6] (sl J o10 (sl J o14 ⟨J, J⟩))

theorem c_s_l4Tag (fl : Nat) (w : World) (a0 : Int) (r : Bool) (H0 : s_l4Tag fl a0 = some r) :
  Ct prog 154 [I a0] w [] (fun rv h' => rv = .bool r ∧ h' = []) := by
 unfold s_l4Tag at H0
 refine ct_of_cw func154 J ntmps154 J (Sat.refl _ _) ?_
 obtain ⟨y1, ey1, H0⟩ := bS H0
 refine sr (ss J (oM J (oI J (oM J (ow_cutY 3 8 y1 ?_ ?_)))))
 ·rcases Bool.eq_false_or_eq_true (decide ((-1) ≤ a0)) with hy1 | hy1
  ·have ey1 := cond_t ey1 hy1
   refine oG J hy1 (mv J) J (oG J hy1 (stp_lss J J) J (oD (stp_pick_t J hy1 J) J ?_))
   obtain rfl := sI ey1
   exact ow_nil (jy 3 0)
  have ey1 := cond_f ey1 hy1
  refine oO J hy1 J (oO J hy1 J (oD (stp_pick_f J hy1 J) J ?_))
  obtain rfl := sI ey1
  exact ow_nil (jy 3 0)
 refine sn J (cw_ret ?_)
 obtain rfl := sI H0
 exact kr results154 (rT J) [] ⟨J, J⟩

theorem c_s_FindLine (fl : Nat) (w : World) (a0 : Ca) (a1 : Int) (a2 : Int) (hn0_0 : n0_0 = (a0.l).length) (hr0_0 : RO w [] (RdL p0_0 c0_0 a0.l)) (r : Int × Bool) (H0 : s_FindLine fl a0 a1 a2 = some r) :
  Ct prog 151 [.agg #[.slice p0_0 n0_0 c0_0, I a0.h], I a1, I a2] w [] (fun rv h' => rv = .tuple #[I r.1, .bool r.2] ∧ h' = []) := by
 subst hn0_0
 unfold s_FindLine at H0
 refine ct_of_cw func151 J ntmps151 J (Sat.refl _ _) ?_
 refine sr (oE (stpU_box 0 J J) J ?_)
 rintro _ _ ⟨b1, rfl, rfl⟩
 obtain ⟨x2, e2, H0⟩ := bS H0
 refine oS J (sq J (oB2 0 ts29 J (oE (uC 1 cf96 (fun w hw => c_s_CacheValid fl w a0 J (rp hr0_0 hw) x2 e2) (yA J)) J ?_)))
 rintro _ _ ⟨_, ⟨rfl, rfl⟩, rfl⟩
 obtain ⟨y3, ey3, H0⟩ := bS H0
 refine oK J (oM J (ow_cutY 4 16 y3 ?_ ?_))
 ·rcases Bool.eq_false_or_eq_true (!x2) with hy3 | hy3
  ·have ey3 := cond_t ey3 hy3
   refine oO J hy3 J (oO J hy3 J (oO J hy3 J (oD (stp_pick_t J hy3 J) J ?_)))
   obtain rfl := sI ey3
   exact ow_nil (jy 4 0)
  have ey3 := cond_f ey3 hy3
  obtain ⟨x4, e4, ey3⟩ := bS ey3
  refine oG J hy3 (mv J) J (ow_eff (.some J hy3) (uC 1 cf154 (fun w hw => c_s_l4Tag fl w a1 x4 e4) (yA J)) J ?_)
  rintro _ _ ⟨_, ⟨rfl, rfl⟩, rfl⟩
  refine oG J hy3 (stp_not J) J (oD (stp_pick_f J hy3 J) J ?_)
  obtain rfl := sI ey3
  exact ow_nil (jy 4 0)
 obtain ⟨y5, ey5, H0⟩ := bS H0
 refine oM J (ow_cutY 4 21 y5 ?_ ?_)
 ·rcases Bool.eq_false_or_eq_true y3 with hy5 | hy5
  ·have ey5 := cond_t ey5 hy5
   refine oO J hy5 J (oO J hy5 J (oO J hy5 J (oD (stp_pick_t J hy5 J) J ?_)))
   obtain rfl := sI ey5
   exact ow_nil (jy 4 0)
  have ey5 := cond_f ey5 hy5
  obtain ⟨x6, e6, ey5⟩ := bS ey5
  refine oG J hy5 (mv J) J (ow_eff (.some J hy5) (uC 1 cf44 (fun w hw => c_s_l1Page fl w a2 x6 e6) (yA J)) J ?_)
  rintro _ _ ⟨_, ⟨rfl, rfl⟩, rfl⟩
  refine oG J hy5 (stp_not J) J (oD (stp_pick_f J hy5 J) J ?_)
  obtain rfl := sI ey5
  exact ow_nil (jy 4 0)
 refine ow_nil (kw_nx (cH J H0 (fun H0 => ?_) (fun H0 => ?_)))
 ·refine sr (oS J (sr1 J (kR ?_)))
  obtain rfl := sI H0
  exact kr results151 (.cons (.tmp J) (rT J)) [] ⟨J, J⟩
 obtain ⟨x8, e8, H0⟩ := bS H0
 refine ks (oB2 0 ts29 J (oM J (oM J (oE (uC 1 cf83 (fun w hw => c_s_l4Find fl w a0 a1 a2 J (rp hr0_0 hw) x8 e8) (yC J J J)) J ?_))))
 rintro _ _ ⟨_, ⟨rfl, rfl⟩, rfl⟩
 refine sq J (oM J (oW J (nn (cH J H0 (fun H0 => ?_) (fun H0 => ?_)))))
 ·refine sr (oS J (sr1 J (kR ?_)))
  obtain rfl := sI H0
  exact kr results151 (.cons (.tmp J) (rT J)) [] ⟨J, J⟩
 refine ks (oM J (oS J (sn J (cw_ret ?_))))
 obtain rfl := sI H0
 exact kr results151 (.cons (.tmp J) (rT J)) [] ⟨J, J⟩

theorem c_s_DropPage (fl : Nat) (w : World) (a0 : Ca) (a1 : Int) (a2 : Int) (hn0_0 : n0_0 = (a0.l).length) (hr0_0 : RO w [] (RdL p0_0 c0_0 a0.l)) (r : Ca × Bool) (H0 : s_DropPage fl a0 a1 a2 = some r) :
  Ct prog 139 [.agg #[.slice p0_0 n0_0 c0_0, I a0.h], I a1, I a2] w [] (fun rv h' => SL 104 r.1.l fun x0 y0 z0 C0 => rv = .tuple #[.agg #[.slice x0 y0 z0, I r.1.h], .bool r.2] ∧ h' = [(0, C0)]) := by
 subst hn0_0
 unfold s_DropPage at H0
 refine ct_of_cw func139 J ntmps139 J (Sat.refl _ _) ?_
 refine sr (oE (stpU_box 0 J J) J ?_)
 rintro _ _ ⟨b1, rfl, rfl⟩
 refine oE (stpU_alloc 1 tz29 J) J ?_
 rintro _ _ ⟨b2, rfl, rfl⟩
 obtain ⟨x3, e3, H0⟩ := bS H0
 refine ss J (oB2 0 ts29 J (oM J (oM J (oE (uC 2 cf151 (fun w hw => c_s_FindLine fl w a0 a1 a2 J (rp hr0_0 hw) x3 e3) (yC J J J)) J ?_))))
 rintro _ _ ⟨_, ⟨rfl, rfl⟩, rfl⟩
 refine oMTT J J J (oS J (sq J (oM J (oK J (nn (cH J H0 (fun H0 => ?_) (fun H0 => ?_)))))))
 ·refine sr (oD (stp_build (cs := #[sN, I 0]) sE bt29_2) J (oC2 1 ts29 J J (sR J (kA 2 ?_))))
  obtain rfl := sI H0
  exact kr results139 (.cons (.cellN (us := [_, _]) ts29 J (Cells.box (id := 1) J 2 J)) (rT J)) [2] (sl J oN0 ⟨J, J⟩)
 obtain ⟨x5, e5, H0⟩ := bS H0
 refine ks (oB2 0 ts29 J (oE (uC 3 cf101 (fun w hw => c_s_l4Copy fl w a0 J (rp hr0_0 hw) x5 e5) (yA J)) J ?_))
 rintro _ _ ⟨_, ⟨p6, _, c8, C9, rfl, o9, rfl, rfl⟩, rfl⟩
 refine oE (stpU_alloc 4 tz29 J) J ?_
 rintro _ _ ⟨b10, rfl, rfl⟩
 obtain ⟨x11, e11, H0⟩ := bS H0
 refine oC2 4 ts29 J J (ns (oAL 0 u29 J ts27 J 4 J (oM J (oD (stp_build (cs := #[.bool false, I 0, I 0, I 0, I 0, .bool false]) sE bt104_11) J (oD (stp_indexAddr u27 ts104 (by decide) J J J (Rdb.own (id := 3) J o9) e11) J (oF (stpU_storeEl (id := 3) (i := 0) (⟨false, 0, 0, 0, 0, false⟩ : Ln) (by decide) ts104 J J J o9 e11 J J J J) ?_))))))
 rintro _ _ ⟨C12, rfl, o12⟩
 refine ns (oB2 4 ts29 J (oC2 1 ts29 J J (sn J (cw_ret ?_))))
 obtain rfl := sI H0
 exact kr results139 (.cons (.cellN (us := [_, _]) ts29 J (Cells.box (id := 1) J 2 J)) (rT J)) [3] (sl (by simp) o12 ⟨J, J⟩)

theorem c_s_l6Forget (fl : Nat) (w : World) (a0 : Mc) (a1 : K) (hn0_0 : n0_0 = (a0.t.b).length) (hr0_0 : RO w [] (RdL p0_0 c0_0 a0.t.b)) (hn0_1 : n0_1 = (a0.t.f).length) (hr0_1 : RO w [] (RdL p0_1 c0_1 a0.t.f)) (hn0_2 : n0_2 = (a0.c.l).length) (hr0_2 : RO w [] (RdL p0_2 c0_2 a0.c.l)) (hn0_3 : n0_3 = (a0.g.o).length) (hr0_3 : RO w [] (RdL p0_3 c0_3 a0.g.o)) (r : Mc) (H0 : s_l6Forget fl a0 a1 = some r) :
  Ct prog 118 [.agg #[.slice p0_0 n0_0 c0_0, .slice p0_1 n0_1 c0_1, .slice p0_2 n0_2 c0_2, I a0.c.h, I a0.g.c, I a0.g.n, I a0.g.r, .slice p0_3 n0_3 c0_3, I a0.s], .agg #[I a1.s, I a1.p]] w [] (fun rv h' => SL 3 r.t.b fun x0 y0 z0 C0 => SL 57 r.t.f fun x1 y1 z1 C1 => SL 104 r.c.l fun x2 y2 z2 C2 => SL 70 r.g.o fun x3 y3 z3 C3 => rv = .agg #[.slice x0 y0 z0, .slice x1 y1 z1, .slice x2 y2 z2, I r.c.h, I r.g.c, I r.g.n, I r.g.r, .slice x3 y3 z3, I r.s] ∧ h' = [(0, C0), (1, C1), (2, C2), (3, C3)]) := by
 subst hn0_0 hn0_1 hn0_2 hn0_3
 unfold s_l6Forget at H0
 refine ct_of_cw func118 J ntmps118 J (Sat.refl _ _) ?_
 refine sr (oE (stpU_box 0 J J) J ?_)
 rintro _ _ ⟨b1, rfl, rfl⟩
 refine oE (stpU_box 1 J J) J ?_
 rintro _ _ ⟨b2, rfl, rfl⟩
 refine oE (stpU_alloc 2 tz34 J) J ?_
 rintro _ _ ⟨b3, rfl, rfl⟩
 obtain ⟨x4, e4, H0⟩ := bS H0
 refine ns (oB9 0 ts34 J (oE (uC 3 cf56 (fun w hw => c_s_l6Copy fl w a0 J (rp hr0_0 hw) J (rp hr0_1 hw) J (rp hr0_2 hw) J (rp hr0_3 hw) x4 e4) (yA J)) J ?_))
 rintro _ _ ⟨_, ⟨p5, _, c7, C8, rfl, o8, p9, _, c11, C12, rfl, o12, p13, _, c15, C16, rfl, o16, p17, _, c19, C20, rfl, o20, rfl, rfl⟩, rfl⟩
 refine oE (stpU_alloc 7 tz34 J) J ?_
 rintro _ _ ⟨b21, rfl, rfl⟩
 obtain ⟨x22, e22, H0⟩ := bS H0
 refine oC9 7 ts34 J J (ns (oB9 0 ts34 J (oAL 0 u50 J ts3 J 1 J (oAL 1 u50 J ts3 J 1 J (oE (uC 8 cf82 (fun w hw => c_s_l6Tag fl w a0 a1.s a1.p J (rp hr0_0 hw) J (rp hr0_1 hw) J (rp hr0_2 hw) J (rp hr0_3 hw) x22 e22) (yC J J J)) J ?_)))))
 rintro _ _ ⟨_, ⟨rfl, rfl⟩, rfl⟩
 refine oMTT J J J (oS J (sq J (oM J (oK J (nn (cH J H0 (fun H0 => ?_) (fun H0 => ?_)))))))
 ·refine sr (oB9 7 ts34 J (oC9 2 ts34 J J (nr (kR ?_))))
  obtain rfl := sI H0
  exact kr results118 (rC9 2 ts34 J J) [3, 4, 5, 6] (sl J o8 (sl J o12 (sl J o16 (sl J o20 ⟨J, J⟩))))
 obtain ⟨x24, e24, H0⟩ := bS H0
 refine ks (oA 2 u34 J ts29 J (oB2 0 ts29 J (oM J (oAL 1 u50 J ts3 J 1 J (oE (uC 8 cf139 (fun w hw => c_s_DropPage fl w a0.c x22.1 a1.p J (rp hr0_2 hw) x24 e24) (yC J J J)) J ?_)))))
 rintro _ _ ⟨_, ⟨p25, _, c27, C28, rfl, o28, rfl, rfl⟩, rfl⟩
 refine oMTT J J J (oE (stpU_alloc 9 tz29 J) J ?_)
 rintro _ _ ⟨b29, rfl, rfl⟩
 refine oC2 9 ts29 J J (sq J (oM J (nn (cH J H0 (fun H0 => ?_) (fun H0 => ?_)))))
 ·refine cR (oB2 9 ts29 J (oA 2 u34 J ts29 J (oC9 7 ts29 J J (ns (oB9 7 ts34 J (oC9 2 ts34 J J (nn (cw_ret ?_))))))))
  obtain rfl := sI H0
  exact kr results118 (rC9 2 ts34 J J) [3, 4, 8, 6] (sl J o8 (sl J o12 (sl J o28 (sl J o20 ⟨J, J⟩))))
 refine ks (oB9 7 ts34 J (oC9 2 ts34 J J (nn (cw_ret ?_))))
 obtain rfl := sI H0
 exact kr results118 (rC9 2 ts34 J J) [3, 4, 5, 6] (sl J o8 (sl J o12 (sl J o16 (sl J o20 ⟨J, J⟩))))

theorem c_s_TakePage (fl : Nat) (w : World) (a0 : Mc) (a1 : K) (hn0_0 : n0_0 = (a0.t.b).length) (hr0_0 : RO w [] (RdL p0_0 c0_0 a0.t.b)) (hn0_1 : n0_1 = (a0.t.f).length) (hr0_1 : RO w [] (RdL p0_1 c0_1 a0.t.f)) (hn0_2 : n0_2 = (a0.c.l).length) (hr0_2 : RO w [] (RdL p0_2 c0_2 a0.c.l)) (hn0_3 : n0_3 = (a0.g.o).length) (hr0_3 : RO w [] (RdL p0_3 c0_3 a0.g.o)) (r : Mc × Bool) (H0 : s_TakePage fl a0 a1 = some r) :
  Ct prog 80 [.agg #[.slice p0_0 n0_0 c0_0, .slice p0_1 n0_1 c0_1, .slice p0_2 n0_2 c0_2, I a0.c.h, I a0.g.c, I a0.g.n, I a0.g.r, .slice p0_3 n0_3 c0_3, I a0.s], .agg #[I a1.s, I a1.p]] w [] (fun rv h' => SL 3 r.1.t.b fun x0 y0 z0 C0 => SL 57 r.1.t.f fun x1 y1 z1 C1 => SL 104 r.1.c.l fun x2 y2 z2 C2 => SL 70 r.1.g.o fun x3 y3 z3 C3 => rv = .tuple #[.agg #[.slice x0 y0 z0, .slice x1 y1 z1, .slice x2 y2 z2, I r.1.c.h, I r.1.g.c, I r.1.g.n, I r.1.g.r, .slice x3 y3 z3, I r.1.s], .bool r.2] ∧ h' = [(0, C0), (1, C1), (2, C2), (3, C3)]) := by
 subst hn0_0 hn0_1 hn0_2 hn0_3
 unfold s_TakePage at H0
 refine ct_of_cw func80 J ntmps80 J (Sat.refl _ _) ?_
 refine sr (oE (stpU_box 0 J J) J ?_)
 rintro _ _ ⟨b1, rfl, rfl⟩
 refine oE (stpU_box 1 J J) J ?_
 rintro _ _ ⟨b2, rfl, rfl⟩
 refine oE (stpU_alloc 2 tz34 J) J ?_
 rintro _ _ ⟨b3, rfl, rfl⟩
 obtain ⟨x4, e4, H0⟩ := bS H0
 refine sq J (oB9 0 ts34 J (oE (uC 3 cf55 (fun w hw => c_s_MachineValid fl w a0 J (rp hr0_0 hw) J (rp hr0_1 hw) J (rp hr0_2 hw) J (rp hr0_3 hw) x4 e4) (yA J)) J ?_))
 rintro _ _ ⟨_, ⟨rfl, rfl⟩, rfl⟩
 refine oK J (nn (cH J H0 (fun H0 => ?_) (fun H0 => ?_)))
 ·refine sr (oD (stp_build (cs := #[sN, sN, sN, I 0, I 0, I 0, I 0, sN, I 0]) sE bt34_6) J (oC9 2 ts34 J J (sR J (kA 3 (kA 4 (kA 5 (kA 6 ?_)))))))
  obtain rfl := sI H0
  exact kr results80 (.cons (.cellN (us := [_, _, _, _, _, _, _, _, _]) ts34 J (Cells.box (id := 2) J 9 J)) (rT J)) [3, 4, 5, 6] (sl J oN0 (sl J oN0 (sl J oN0 (sl J oN0 ⟨J, J⟩))))
 obtain ⟨x6, e6, H0⟩ := bS H0
 refine ks (oA 0 u34 J ts26 J (oB2 0 ts26 J (oB2 1 ts50 J (oE (uC 7 cf117 (fun w hw => c_s_UnmapPage fl w a0.t a1 J (rp hr0_0 hw) J (rp hr0_1 hw) x6 e6) (yB J J)) J ?_))))
 rintro _ _ ⟨_, ⟨p7, _, c9, C10, rfl, o10, p11, _, c13, C14, rfl, o14, rfl, rfl⟩, rfl⟩
 refine oMTT J J J (oE (stpU_alloc 9 tz26 J) J ?_)
 rintro _ _ ⟨b15, rfl, rfl⟩
 refine oC2 9 ts26 J J (sq J (oM J (oK J (nn (cH J H0 (fun H0 => ?_) (fun H0 => ?_))))))
 ·refine sr (oD (stp_build (cs := #[sN, sN, sN, I 0, I 0, I 0, I 0, sN, I 0]) sE bt34_6) J (oC9 2 ts34 J J (sR J (kA 10 (kA 11 (kA 12 (kA 13 ?_)))))))
  obtain rfl := sI H0
  exact kr results80 (.cons (.cellN (us := [_, _, _, _, _, _, _, _, _]) ts34 J (Cells.box (id := 2) J 9 J)) (rT J)) [10, 11, 12, 13] (sl J oN0 (sl J oN0 (sl J oN0 (sl J oN0 ⟨J, J⟩))))
 obtain ⟨x17, e17, H0⟩ := bS H0
 refine ks (oB9 0 ts34 J (oB2 1 ts50 J (oE (uC 14 cf118 (fun w hw => c_s_l6Forget fl w a0 a1 J (rp hr0_0 hw) J (rp hr0_1 hw) J (rp hr0_2 hw) J (rp hr0_3 hw) x17 e17) (yB J J)) J ?_)))
 rintro _ _ ⟨_, ⟨p18, _, c20, C21, rfl, o21, p22, _, c24, C25, rfl, o25, p26, _, c28, C29, rfl, o29, p30, _, c32, C33, rfl, o33, rfl, rfl⟩, rfl⟩
 refine oE (stpU_alloc 18 tz34 J) J ?_
 rintro _ _ ⟨b34, rfl, rfl⟩
 refine oC9 18 ts34 J J (ns (oB2 9 ts26 J (oA 0 u34 J ts26 J (oC9 18 ts26 J J (ns (oB9 18 ts34 J (oC9 2 ts34 J J (sn J (cw_ret ?_)))))))))
 obtain rfl := sI H0
 exact kr results80 (.cons (.cellN (us := [_, _, _, _, _, _, _, _, _]) ts34 J (Cells.box (id := 2) J 9 J)) (rT J)) [7, 8, 16, 17] (sl J o10 (sl J o14 (sl J o29 (sl J o33 ⟨J, J⟩))))

theorem c_s_l6Step (fl : Nat) (w : World) (m0 : Nat) (a0_0 : (List UInt8)) (a0_1 : Int) (a1 : Mc) (hn0_0_0 : n0_0_0 = (a0_0).length) (hr0_0_0 : RO w (hkeys [(0, [(m0, .cells #[.slice p0_0_0 n0_0_0 c0_0_0, I a0_1] 95 (0, 0))]), (1, C1_0), (2, C1_1), (3, C1_2), (4, C1_3)]) (RdL p0_0_0 c0_0_0 a0_0)) (hn1_0 : n1_0 = (a1.t.b).length) (ho1_0 : OwnC 3 p1_0 c1_0 a1.t.b C1_0) (hn1_1 : n1_1 = (a1.t.f).length) (ho1_1 : OwnC 57 p1_1 c1_1 a1.t.f C1_1) (hn1_2 : n1_2 = (a1.c.l).length) (ho1_2 : OwnC 104 p1_2 c1_2 a1.c.l C1_2) (hn1_3 : n1_3 = (a1.g.o).length) (ho1_3 : OwnC 70 p1_3 c1_3 a1.g.o C1_3) (hM : Sat w (hkeys [(0, [(m0, .cells #[.slice p0_0_0 n0_0_0 c0_0_0, I a0_1] 95 (0, 0))]), (1, C1_0), (2, C1_1), (3, C1_2), (4, C1_3)]) w [(0, [(m0, .cells #[.slice p0_0_0 n0_0_0 c0_0_0, I a0_1] 95 (0, 0))]), (1, C1_0), (2, C1_1), (3, C1_2), (4, C1_3)]) (r : Mc × Int) (H0 : s_l6Step fl a0_0 a0_1 a1 = some r) :
  Ct prog 127 [.pointer (some ⟨m0, 0, none⟩), .agg #[.slice p1_0 n1_0 c1_0, .slice p1_1 n1_1 c1_1, .slice p1_2 n1_2 c1_2, I a1.c.h, I a1.g.c, I a1.g.n, I a1.g.r, .slice p1_3 n1_3 c1_3, I a1.s]] w [(0, [(m0, .cells #[.slice p0_0_0 n0_0_0 c0_0_0, I a0_1] 95 (0, 0))]), (1, C1_0), (2, C1_1), (3, C1_2), (4, C1_3)] (fun rv h' => SL 3 r.1.t.b fun x5 y5 z5 C5 => SL 57 r.1.t.f fun x6 y6 z6 C6 => SL 104 r.1.c.l fun x7 y7 z7 C7 => SL 70 r.1.g.o fun x8 y8 z8 C8 => rv = .agg #[.slice x5 y5 z5, .slice x6 y6 z6, .slice x7 y7 z7, I r.1.c.h, I r.1.g.c, I r.1.g.n, I r.1.g.r, .slice x8 y8 z8, I r.1.s] ∧ h' = [(0, [(m0, .cells #[.slice p0_0_0 n0_0_0 c0_0_0, I r.2] 95 (0, 0))]), (1, []), (2, []), (3, []), (4, []), (5, C5), (6, C6), (7, C7), (8, C8)]) := by
 subst hn0_0_0 hn1_0 hn1_1 hn1_2 hn1_3
 unfold s_l6Step at H0
 refine ct_of_cw func127 J ntmps127 J hM ?_
 refine sr (oE (stpU_box 5 J J) J ?_)
 rintro _ _ ⟨b1, rfl, rfl⟩
 refine oE (stpU_alloc 6 tz34 J) J ?_
 rintro _ _ ⟨b2, rfl, rfl⟩
 refine ns (oB9 5 ts34 J (oE (stpU_alloc 7 tz34 J) J ?_))
 rintro _ _ ⟨b3, rfl, rfl⟩
 obtain ⟨x4, e4, H0⟩ := bS H0
 refine oC9 7 ts34 J J (ns (sq J (oM J (oE (uM (rq 0 8) cf23 (fun w hw hb => c_s_l12Rd_pick fl w m0 a0_0 a0_1 8 J (RO.passM hr0_0_0 hw hb) (hw.pass (js := [0]) ⟨0, [], J, J, trivial⟩ (by decide)) x4 e4) (yB J J) ⟨J, (pI (fun _ _ h => h.2) J), trivial⟩) J ?_))))
 rintro _ _ ⟨_, ⟨rfl, rfl⟩, rfl⟩
 refine nn (cw_block (sr (oQ J (sn J (cH J H0 (fun H0 => ?_) (fun H0 => ?_))))))
 ·refine rdt g_mixed (rn 0 10) ⟨[[5],[],[],[0,9],[1,2,3,4],[],[],[],[7]], [[],[],[9],[0],[11,12,13,14],[],[],[],[7]], [2,4]⟩ (dB9 5 ts34 J (dM J (dE J (fun hh => stpU_lit (sz := 1) (l := [0, 1, 2, 3]) [I 0, I 1, I 2, I 3] sl23 9 (sP J (sP J (sP J (sP J sE)))) J J J J J J J J J) ?_)))
  rintro _ _ ⟨p6, C7, rfl, rfl, o7⟩
  obtain ⟨x8, e8, H0⟩ := bS H0
  obtain ⟨x9, e9, H0⟩ := bS H0
  refine dk J (dV J (fun hh => uM (rq 0 10) cf24 (fun w hw hb => c_s_l12Rd_num fl w m0 a0_0 x4.2 ([0, 1, 2, 3]) J (RO.passM hr0_0_0 hw hb) (by simp) (OwnC.passM (id := 9) (hh _ _ J) o7 hw hb ⟨J, trivial⟩) (hw.pass (js := [0]) ⟨0, [], J, (hh _ _ J), trivial⟩ (by decide)) x8 e8) (yB J J) ⟨(hh _ _ J), (pI (fun _ _ h => h.2) J), trivial⟩) J (dE J (fun hh => uC 11 cf148 (fun w hw => c_s_EnterSpace fl w a1 x8.1 J (owp 1 (hh _ _ J) ho1_0 hw) J (owp 2 (hh _ _ J) ho1_1 hw) J (owp 3 (hh _ _ J) ho1_2 hw) J (owp 4 (hh _ _ J) ho1_3 hw) x9 e9) (yB J J)) ?_))
  rintro _ _ ⟨_, ⟨p10, _, c12, C13, rfl, o13, p14, _, c16, C17, rfl, o17, p18, _, c20, C21, rfl, o21, p22, _, c24, C25, rfl, o25, rfl, rfl⟩, rfl⟩
  refine dk J (dM J (dT J (dT J (dC9 7 ts34 J J J (dS J (dn (kb (csr (oM J (oK J (nn ?_)))))))))))
  refine cH J H0 (fun H0 => ?_) (fun H0 => ?_)
  ·refine sr (oB9 5 ts34 J (oC9 6 ts34 J J (nR (kA 15 (kA 16 (kA 17 (kA 18 ?_)))))))
   obtain rfl := sI H0
   exact kr results127 (rC9 6 ts34 J J) [0, 15, 16, 17, 18, 1, 2, 3, 4] (sl J ho1_0 (sl J ho1_1 (sl J ho1_2 (sl J ho1_3 ⟨J, J⟩))))
  refine ks (oB9 7 ts34 J (oC9 6 ts34 J J (nr (kA 19 (kA 20 (kA 21 (kA 22 ?_)))))))
  obtain rfl := sI H0
  exact kr results127 (rC9 6 ts34 J J) [0, 19, 20, 21, 22, 11, 12, 13, 14] (sl J o13 (sl J o17 (sl J o21 (sl J o25 ⟨J, J⟩))))
 obtain ⟨y28, ey28, H0⟩ := bS H0
 refine csr (oQ J (sn J (cw_join (ι := Unit) (fun _ => True) (fun _ => [(0, .pointer (some ⟨m0, 0, none⟩)), (3, .pointer (some ⟨b1, 0, none⟩)), (4, .pointer (some ⟨b2, 0, none⟩)), (5, .pointer (some ⟨b3, 0, none⟩)), (6, .bool false), (9, I x4.1), (20, .bool y28)]) (fun _ => [(0, [(m0, .cells #[.slice p0_0_0 ((a0_0).length) c0_0_0, I x4.2] 95 (0, 0))]), (1, C1_0), (2, C1_1), (3, C1_2), (4, C1_3), (5, [(b1, .cells #[.slice p1_0 ((a1.t.b).length) c1_0, .slice p1_1 ((a1.t.f).length) c1_1, .slice p1_2 ((a1.c.l).length) c1_2, I a1.c.h, I a1.g.c, I a1.g.n, I a1.g.r, .slice p1_3 ((a1.g.o).length) c1_3, I a1.s] 34 (0, 0))]), (6, [(b2, .cells #[sN, sN, sN, I 0, I 0, I 0, I 0, sN, I 0] 34 (0, 0))]), (7, [(b3, .cells #[.slice p1_0 ((a1.t.b).length) c1_0, .slice p1_1 ((a1.t.f).length) c1_1, .slice p1_2 ((a1.c.l).length) c1_2, I a1.c.h, I a1.g.c, I a1.g.n, I a1.g.r, .slice p1_3 ((a1.g.o).length) c1_3, I a1.s] 34 (0, 0))])]) ?_ (fun _ _ => ?_))))
 ·refine cw_cond J (fun h29 => ?_) (fun h29 => ?_)
  ·have ey28 := cond_t ey28 h29
   refine cw_skip ?_
   obtain rfl := sI ey28
   exact kw_join () trivial ⟨J, J, J, J, J, J, J, trivial⟩ ⟨J, J, J, J, J, J, J, J, trivial⟩
  have ey28 := cond_f ey28 h29
  refine sr (oQ J (sn J (cw_cond J (fun h30 => ?_) (fun h30 => ?_))))
  ·have ey28 := cond_t ey28 h30
   refine cw_skip ?_
   obtain rfl := sI ey28
   exact kw_join () trivial ⟨J, J, J, J, J, J, J, trivial⟩ ⟨J, J, J, J, J, J, J, J, trivial⟩
  have ey28 := cond_f ey28 h30
  refine cR (oQ J (oS J (ow_nil ?_)))
  obtain rfl := sI ey28
  exact kw_join () trivial ⟨J, J, J, J, J, J, J, trivial⟩ ⟨J, J, J, J, J, J, J, J, trivial⟩
 refine kw_nx (cH J H0 (fun H0 => ?_) (fun H0 => ?_))
 ·obtain ⟨x32, e32, H0⟩ := bS H0
  obtain ⟨x33, e33, H0⟩ := bS H0
  obtain ⟨x34, e34, H0⟩ := bS H0
  refine rdt g_mixed (rn 0 21) ⟨[[5],[],[0],[],[0],[],[],[],[],[5],[],[0],[],[],[0,26],[1,2,3,4],[],[],[],[7]], [[],[],[0],[],[0],[],[],[],[],[],[],[0],[],[26],[0],[28,29,30,31],[],[],[],[7]], [13,15]⟩ (dB9 5 ts34 J (dM J (dV J (fun hh => uM (rq 0 23) cf23 (fun w hw hb => c_s_l12Rd_pick fl w m0 a0_0 x4.2 3 J (RO.passM hr0_0_0 hw hb) (hw.pass (js := [0]) ⟨0, [], J, (hh _ _ J), trivial⟩ (by decide)) x32 e32) (yB J J) ⟨(hh _ _ J), (pI (fun _ _ h => h.2) J), trivial⟩) J (dM J (dV J (fun hh => uM (rq 0 24) cf149 (fun w hw hb => c_s_l6Page fl w m0 a0_0 x32.2 J (RO.passM hr0_0_0 hw hb) (hw.pass (js := [0]) ⟨0, [], J, (hh _ _ J), trivial⟩ (by decide)) x33 e33) (yA J) ⟨(hh _ _ J), (pI (fun _ _ h => h.2) J), trivial⟩) J (dV J (fun hh => uC 25 cf47 (fun w hw => c_s_KeyFor fl w x32.1 x33.1 x34 e34) (yB J J)) J ?_))))))
  obtain ⟨x35, e35, H0⟩ := bS H0
  refine dM J (dA 0 J u34 J ts26 J (dA 1 J u26 J ts24 J (dL 5 ts24 J (dD J (stp_len u24 J) (dV J (fun hh => uM (rq 0 25) cf23 (fun w hw hb => c_s_l12Rd_pick fl w m0 a0_0 x33.2 ((a1.t.f).length : Int) J (RO.passM hr0_0_0 hw hb) (hw.pass (js := [0]) ⟨0, [], J, (hh _ _ J), trivial⟩ (by decide)) x35 e35) (yB J J) ⟨(hh _ _ J), (pI (fun _ _ h => h.2) J), trivial⟩) J (dM J (dE J (fun hh => stpU_lit (sz := 1) (l := [3, 1, 7]) [I 3, I 1, I 7] sl23 26 (sP J (sP J (sP J sE))) J J J J J J J J J) ?_)))))))
  rintro _ _ ⟨p36, C37, rfl, rfl, o37⟩
  obtain ⟨x38, e38, H0⟩ := bS H0
  obtain ⟨x39, e39, H0⟩ := bS H0
  refine dk J (dV J (fun hh => uM (rq 0 27) cf24 (fun w hw hb => c_s_l12Rd_num fl w m0 a0_0 x35.2 ([3, 1, 7]) J (RO.passM hr0_0_0 hw hb) (by simp) (OwnC.passM (id := 26) (hh _ _ J) o37 hw hb ⟨J, trivial⟩) (hw.pass (js := [0]) ⟨0, [], J, (hh _ _ J), trivial⟩ (by decide)) x38 e38) (yB J J) ⟨(hh _ _ J), (pI (fun _ _ h => h.2) J), trivial⟩) J (dE J (fun hh => uC 28 cf81 (fun w hw => c_s_PutPage fl w a1 x34 x35.1 x38.1 J (owp 1 (hh _ _ J) ho1_0 hw) J (owp 2 (hh _ _ J) ho1_1 hw) J (owp 3 (hh _ _ J) ho1_2 hw) J (owp 4 (hh _ _ J) ho1_3 hw) x39 e39) (yD J J J J)) ?_))
  rintro _ _ ⟨_, ⟨p40, _, c42, C43, rfl, o43, p44, _, c46, C47, rfl, o47, p48, _, c50, C51, rfl, o51, p52, _, c54, C55, rfl, o55, rfl, rfl⟩, rfl⟩
  refine dk J (dM J (dT J (dT J (dC9 7 ts34 J J J (dS J (dn (kb (csr (oM J (oK J (nn ?_)))))))))))
  refine cH J H0 (fun H0 => ?_) (fun H0 => ?_)
  ·refine sr (oB9 5 ts34 J (oC9 6 ts34 J J (nR (kA 32 (kA 33 (kA 34 (kA 35 ?_)))))))
   obtain rfl := sI H0
   exact kr results127 (rC9 6 ts34 J J) [0, 32, 33, 34, 35, 1, 2, 3, 4] (sl J ho1_0 (sl J ho1_1 (sl J ho1_2 (sl J ho1_3 ⟨J, J⟩))))
  refine ks (oB9 7 ts34 J (oC9 6 ts34 J J (nr (kA 36 (kA 37 (kA 38 (kA 39 ?_)))))))
  obtain rfl := sI H0
  exact kr results127 (rC9 6 ts34 J J) [0, 36, 37, 38, 39, 28, 29, 30, 31] (sl J o43 (sl J o47 (sl J o51 (sl J o55 ⟨J, J⟩))))
 obtain ⟨y58, ey58, H0⟩ := bS H0
 refine csr (oQ J (sn J (cw_join (ι := Unit) (fun _ => True) (fun _ => [(0, .pointer (some ⟨m0, 0, none⟩)), (3, .pointer (some ⟨b1, 0, none⟩)), (4, .pointer (some ⟨b2, 0, none⟩)), (5, .pointer (some ⟨b3, 0, none⟩)), (6, .bool false), (9, I x4.1), (43, .bool y58)]) (fun _ => [(0, [(m0, .cells #[.slice p0_0_0 ((a0_0).length) c0_0_0, I x4.2] 95 (0, 0))]), (1, C1_0), (2, C1_1), (3, C1_2), (4, C1_3), (5, [(b1, .cells #[.slice p1_0 ((a1.t.b).length) c1_0, .slice p1_1 ((a1.t.f).length) c1_1, .slice p1_2 ((a1.c.l).length) c1_2, I a1.c.h, I a1.g.c, I a1.g.n, I a1.g.r, .slice p1_3 ((a1.g.o).length) c1_3, I a1.s] 34 (0, 0))]), (6, [(b2, .cells #[sN, sN, sN, I 0, I 0, I 0, I 0, sN, I 0] 34 (0, 0))]), (7, [(b3, .cells #[.slice p1_0 ((a1.t.b).length) c1_0, .slice p1_1 ((a1.t.f).length) c1_1, .slice p1_2 ((a1.c.l).length) c1_2, I a1.c.h, I a1.g.c, I a1.g.n, I a1.g.r, .slice p1_3 ((a1.g.o).length) c1_3, I a1.s] 34 (0, 0))])]) ?_ (fun _ _ => ?_))))
 ·refine cw_cond J (fun h59 => ?_) (fun h59 => ?_)
  ·have ey58 := cond_t ey58 h59
   refine cw_skip ?_
   obtain rfl := sI ey58
   exact kw_join () trivial ⟨J, J, J, J, J, J, J, trivial⟩ ⟨J, J, J, J, J, J, J, J, trivial⟩
  have ey58 := cond_f ey58 h59
  refine cR (oQ J (oS J (ow_nil ?_)))
  obtain rfl := sI ey58
  exact kw_join () trivial ⟨J, J, J, J, J, J, J, trivial⟩ ⟨J, J, J, J, J, J, J, J, trivial⟩
 refine kw_nx (cH J H0 (fun H0 => ?_) (fun H0 => ?_))
 ·obtain ⟨x61, e61, H0⟩ := bS H0
  refine rdt g_mixed (rn 0 14) ⟨[[5],[],[0],[],[],[0,41],[1,2,3,4],[],[],[],[],[],[7]], [[],[],[0],[],[41],[0],[43,44,45,46],[],[],[],[],[],[7]], [4,6]⟩ (dB9 5 ts34 J (dM J (dV J (fun hh => uM (rq 0 40) cf149 (fun w hw hb => c_s_l6Page fl w m0 a0_0 x4.2 J (RO.passM hr0_0_0 hw hb) (hw.pass (js := [0]) ⟨0, [], J, (hh _ _ J), trivial⟩ (by decide)) x61 e61) (yA J) ⟨(hh _ _ J), (pI (fun _ _ h => h.2) J), trivial⟩) J (dM J (dE J (fun hh => stpU_lit (sz := 1) (l := [1, 0, 2]) [I 1, I 0, I 2] sl23 41 (sP J (sP J (sP J sE))) J J J J J J J J J) ?_)))))
  rintro _ _ ⟨p62, C63, rfl, rfl, o63⟩
  obtain ⟨x64, e64, H0⟩ := bS H0
  obtain ⟨x65, e65, H0⟩ := bS H0
  refine dk J (dV J (fun hh => uM (rq 0 42) cf24 (fun w hw hb => c_s_l12Rd_num fl w m0 a0_0 x61.2 ([1, 0, 2]) J (RO.passM hr0_0_0 hw hb) (by simp) (OwnC.passM (id := 41) (hh _ _ J) o63 hw hb ⟨J, trivial⟩) (hw.pass (js := [0]) ⟨0, [], J, (hh _ _ J), trivial⟩ (by decide)) x64 e64) (yB J J) ⟨(hh _ _ J), (pI (fun _ _ h => h.2) J), trivial⟩) J (dE J (fun hh => uC 43 cf49 (fun w hw => c_s_TouchPage fl w a1 x61.1 x64.1 J (owp 1 (hh _ _ J) ho1_0 hw) J (owp 2 (hh _ _ J) ho1_1 hw) J (owp 3 (hh _ _ J) ho1_2 hw) J (owp 4 (hh _ _ J) ho1_3 hw) x65 e65) (yC J J J)) ?_))
  rintro _ _ ⟨_, ⟨p66, _, c68, C69, rfl, o69, p70, _, c72, C73, rfl, o73, p74, _, c76, C77, rfl, o77, p78, _, c80, C81, rfl, o81, rfl, rfl⟩, rfl⟩
  refine dk J (dM J (dT J (dT J (dT J (dT J (dC9 7 ts34 J J J (dS J (dn (kb (csr (oM J ?_)))))))))))
  refine oK J (nn (cH J H0 (fun H0 => ?_) (fun H0 => ?_)))
  ·refine sr (oB9 5 ts34 J (oC9 6 ts34 J J (nR (kA 47 (kA 48 (kA 49 (kA 50 ?_)))))))
   obtain rfl := sI H0
   exact kr results127 (rC9 6 ts34 J J) [0, 47, 48, 49, 50, 1, 2, 3, 4] (sl J ho1_0 (sl J ho1_1 (sl J ho1_2 (sl J ho1_3 ⟨J, J⟩))))
  refine ks (oB9 7 ts34 J (oC9 6 ts34 J J (nr (kA 51 (kA 52 (kA 53 (kA 54 ?_)))))))
  obtain rfl := sI H0
  exact kr results127 (rC9 6 ts34 J J) [0, 51, 52, 53, 54, 43, 44, 45, 46] (sl J o69 (sl J o73 (sl J o77 (sl J o81 ⟨J, J⟩))))
 refine sr (oQ J (sn J (cH J H0 (fun H0 => ?_) (fun H0 => ?_))))
 ·refine rdt g_mixed (rn 0 10) ⟨[[5],[],[],[0,55],[1,2,3,4],[],[],[],[7]], [[],[],[55],[0],[57,58,59,60],[],[],[],[7]], [2,4]⟩ (dB9 5 ts34 J (dM J (dE J (fun hh => stpU_lit (sz := 1) (l := [200, 201]) [I 200, I 201] sl23 55 (sP J (sP J sE)) J J J J J J J J J) ?_)))
  rintro _ _ ⟨p84, C85, rfl, rfl, o85⟩
  obtain ⟨x86, e86, H0⟩ := bS H0
  obtain ⟨x87, e87, H0⟩ := bS H0
  refine dk J (dV J (fun hh => uM (rq 0 56) cf24 (fun w hw hb => c_s_l12Rd_num fl w m0 a0_0 x4.2 ([200, 201]) J (RO.passM hr0_0_0 hw hb) (by simp) (OwnC.passM (id := 55) (hh _ _ J) o85 hw hb ⟨J, trivial⟩) (hw.pass (js := [0]) ⟨0, [], J, (hh _ _ J), trivial⟩ (by decide)) x86 e86) (yB J J) ⟨(hh _ _ J), (pI (fun _ _ h => h.2) J), trivial⟩) J (dE J (fun hh => uC 57 cf150 (fun w hw => c_s_WirePage fl w a1 x86.1 J (owp 1 (hh _ _ J) ho1_0 hw) J (owp 2 (hh _ _ J) ho1_1 hw) J (owp 3 (hh _ _ J) ho1_2 hw) J (owp 4 (hh _ _ J) ho1_3 hw) x87 e87) (yB J J)) ?_))
  rintro _ _ ⟨_, ⟨p88, _, c90, C91, rfl, o91, p92, _, c94, C95, rfl, o95, p96, _, c98, C99, rfl, o99, p100, _, c102, C103, rfl, o103, rfl, rfl⟩, rfl⟩
  refine dk J (dM J (dT J (dT J (dC9 7 ts34 J J J (dS J (dn (kb (csr (oM J (oK J (nn ?_)))))))))))
  refine cH J H0 (fun H0 => ?_) (fun H0 => ?_)
  ·refine sr (oB9 5 ts34 J (oC9 6 ts34 J J (nR (kA 61 (kA 62 (kA 63 (kA 64 ?_)))))))
   obtain rfl := sI H0
   exact kr results127 (rC9 6 ts34 J J) [0, 61, 62, 63, 64, 1, 2, 3, 4] (sl J ho1_0 (sl J ho1_1 (sl J ho1_2 (sl J ho1_3 ⟨J, J⟩))))
  refine ks (oB9 7 ts34 J (oC9 6 ts34 J J (nr (kA 65 (kA 66 (kA 67 (kA 68 ?_)))))))
  obtain rfl := sI H0
  exact kr results127 (rC9 6 ts34 J J) [0, 65, 66, 67, 68, 57, 58, 59, 60] (sl J o91 (sl J o95 (sl J o99 (sl J o103 ⟨J, J⟩))))
 refine sr (oQ J (sn J (cH J H0 (fun H0 => ?_) (fun H0 => ?_))))
 ·obtain ⟨x106, e106, H0⟩ := bS H0
  obtain ⟨x107, e107, H0⟩ := bS H0
  obtain ⟨x108, e108, H0⟩ := bS H0
  obtain ⟨x109, e109, H0⟩ := bS H0
  refine rdt g_mixed (rn 0 12) ⟨[[5],[],[0],[],[0],[],[1,2,3,4],[],[],[],[7]], [[],[],[0],[],[0],[],[71,72,73,74],[],[],[],[7]], [6]⟩ (dB9 5 ts34 J (dM J (dV J (fun hh => uM (rq 0 69) cf23 (fun w hw hb => c_s_l12Rd_pick fl w m0 a0_0 x4.2 3 J (RO.passM hr0_0_0 hw hb) (hw.pass (js := [0]) ⟨0, [], J, (hh _ _ J), trivial⟩ (by decide)) x106 e106) (yB J J) ⟨(hh _ _ J), (pI (fun _ _ h => h.2) J), trivial⟩) J (dM J (dV J (fun hh => uM (rq 0 70) cf149 (fun w hw hb => c_s_l6Page fl w m0 a0_0 x106.2 J (RO.passM hr0_0_0 hw hb) (hw.pass (js := [0]) ⟨0, [], J, (hh _ _ J), trivial⟩ (by decide)) x107 e107) (yA J) ⟨(hh _ _ J), (pI (fun _ _ h => h.2) J), trivial⟩) J (dV J (fun hh => uC 71 cf47 (fun w hw => c_s_KeyFor fl w x106.1 x107.1 x108 e108) (yB J J)) J (dE J (fun hh => uC 71 cf80 (fun w hw => c_s_TakePage fl w a1 x108 J (owp 1 (hh _ _ J) ho1_0 hw) J (owp 2 (hh _ _ J) ho1_1 hw) J (owp 3 (hh _ _ J) ho1_2 hw) J (owp 4 (hh _ _ J) ho1_3 hw) x109 e109) (yB J J)) ?_)))))))
  rintro _ _ ⟨_, ⟨p110, _, c112, C113, rfl, o113, p114, _, c116, C117, rfl, o117, p118, _, c120, C121, rfl, o121, p122, _, c124, C125, rfl, o125, rfl, rfl⟩, rfl⟩
  refine dk J (dM J (dT J (dT J (dC9 7 ts34 J J J (dS J (dn (kb (csr (oM J (oK J (nn ?_)))))))))))
  refine cH J H0 (fun H0 => ?_) (fun H0 => ?_)
  ·refine sr (oB9 5 ts34 J (oC9 6 ts34 J J (nR (kA 75 (kA 76 (kA 77 (kA 78 ?_)))))))
   obtain rfl := sI H0
   exact kr results127 (rC9 6 ts34 J J) [0, 75, 76, 77, 78, 1, 2, 3, 4] (sl J ho1_0 (sl J ho1_1 (sl J ho1_2 (sl J ho1_3 ⟨J, J⟩))))
  refine ks (oB9 7 ts34 J (oC9 6 ts34 J J (nr (kA 79 (kA 80 (kA 81 (kA 82 ?_)))))))
  obtain rfl := sI H0
  exact kr results127 (rC9 6 ts34 J J) [0, 79, 80, 81, 82, 71, 72, 73, 74] (sl J o113 (sl J o117 (sl J o121 (sl J o125 ⟨J, J⟩))))
 refine cw_skip (kb (csr (oM J (oK J (nn (cH J H0 (fun H0 => ?_) (fun H0 => ?_)))))))
 ·refine sr (oB9 5 ts34 J (oC9 6 ts34 J J (nR (kA 83 (kA 84 (kA 85 (kA 86 ?_)))))))
  obtain rfl := sI H0
  exact kr results127 (rC9 6 ts34 J J) [0, 83, 84, 85, 86, 1, 2, 3, 4] (sl J ho1_0 (sl J ho1_1 (sl J ho1_2 (sl J ho1_3 ⟨J, J⟩))))
 refine ks (oB9 7 ts34 J (oC9 6 ts34 J J (nr (kA 87 (kA 88 (kA 89 (kA 90 ?_)))))))
 obtain rfl := sI H0
 exact kr results127 (rC9 6 ts34 J J) [0, 87, 88, 89, 90, 1, 2, 3, 4] (sl J ho1_0 (sl J ho1_1 (sl J ho1_2 (sl J ho1_3 ⟨J, J⟩))))

theorem c_s_l6Draw (fl : Nat) (w : World) (m0 : Nat) (a0_0 : (List UInt8)) (a0_1 : Int) (hn0_0_0 : n0_0_0 = (a0_0).length) (hr0_0_0 : RO w (hkeys [(0, [(m0, .cells #[.slice p0_0_0 n0_0_0 c0_0_0, I a0_1] 95 (0, 0))])]) (RdL p0_0_0 c0_0_0 a0_0)) (hM : Sat w (hkeys [(0, [(m0, .cells #[.slice p0_0_0 n0_0_0 c0_0_0, I a0_1] 95 (0, 0))])]) w [(0, [(m0, .cells #[.slice p0_0_0 n0_0_0 c0_0_0, I a0_1] 95 (0, 0))])]) (r : Mc × Int) (H0 : s_l6Draw fl a0_0 a0_1 = some r) :
  Ct prog 88 [.pointer (some ⟨m0, 0, none⟩)] w [(0, [(m0, .cells #[.slice p0_0_0 n0_0_0 c0_0_0, I a0_1] 95 (0, 0))])] (fun rv h' => SL 3 r.1.t.b fun x1 y1 z1 C1 => SL 57 r.1.t.f fun x2 y2 z2 C2 => SL 104 r.1.c.l fun x3 y3 z3 C3 => SL 70 r.1.g.o fun x4 y4 z4 C4 => rv = .agg #[.slice x1 y1 z1, .slice x2 y2 z2, .slice x3 y3 z3, I r.1.c.h, I r.1.g.c, I r.1.g.n, I r.1.g.r, .slice x4 y4 z4, I r.1.s] ∧ h' = [(0, [(m0, .cells #[.slice p0_0_0 n0_0_0 c0_0_0, I r.2] 95 (0, 0))]), (1, C1), (2, C2), (3, C3), (4, C4)]) := by
 subst hn0_0_0
 unfold s_l6Draw at H0
 refine ct_of_cw func88 J ntmps88 J hM ?_
 refine sr (oE (stpU_alloc 1 tz34 J) J ?_)
 rintro _ _ ⟨b1, rfl, rfl⟩
 refine ns (oM J (oE (stpU_lit (sz := 1) (l := [6, 4, 8]) [I 6, I 4, I 8] sl23 2 (sP J (sP J (sP J sE))) J J J J J J J J J) J ?_))
 rintro _ _ ⟨p2, C3, rfl, rfl, o3⟩
 obtain ⟨x4, e4, H0⟩ := bS H0
 refine oE (uM (rq 0 3) cf24 (fun w hw hb => c_s_l12Rd_num fl w m0 a0_0 a0_1 ([6, 4, 8]) J (RO.passM hr0_0_0 hw hb) (by simp) (OwnC.passM (id := 2) J o3 hw hb ⟨J, trivial⟩) (hw.pass (js := [0]) ⟨0, [], J, J, trivial⟩ (by decide)) x4 e4) (yB J J) ⟨J, (pI (fun _ _ h => h.2) J), trivial⟩) J ?_
 rintro _ _ ⟨_, ⟨rfl, rfl⟩, rfl⟩
 refine oM J (oE (stpU_lit (sz := 1) (l := [4, 2, 1]) [I 4, I 2, I 1] sl23 4 (sP J (sP J (sP J sE))) J J J J J J J J J) J ?_)
 rintro _ _ ⟨p5, C6, rfl, rfl, o6⟩
 obtain ⟨x7, e7, H0⟩ := bS H0
 refine oE (uM (rq 0 5) cf24 (fun w hw hb => c_s_l12Rd_num fl w m0 a0_0 x4.2 ([4, 2, 1]) J (RO.passM hr0_0_0 hw hb) (by simp) (OwnC.passM (id := 4) J o6 hw hb ⟨J, trivial⟩) (hw.pass (js := [0]) ⟨0, [], J, J, trivial⟩ (by decide)) x7 e7) (yB J J) ⟨J, (pI (fun _ _ h => h.2) J), trivial⟩) J ?_
 rintro _ _ ⟨_, ⟨rfl, rfl⟩, rfl⟩
 refine oM J (oE (stpU_lit (sz := 1) (l := [3, 2, 4, 1]) [I 3, I 2, I 4, I 1] sl23 6 (sP J (sP J (sP J (sP J sE)))) J J J J J J J J J) J ?_)
 rintro _ _ ⟨p8, C9, rfl, rfl, o9⟩
 obtain ⟨x10, e10, H0⟩ := bS H0
 refine oE (uM (rq 0 7) cf24 (fun w hw hb => c_s_l12Rd_num fl w m0 a0_0 x7.2 ([3, 2, 4, 1]) J (RO.passM hr0_0_0 hw hb) (by simp) (OwnC.passM (id := 6) J o9 hw hb ⟨J, trivial⟩) (hw.pass (js := [0]) ⟨0, [], J, J, trivial⟩ (by decide)) x10 e10) (yB J J) ⟨J, (pI (fun _ _ h => h.2) J), trivial⟩) J ?_
 rintro _ _ ⟨_, ⟨rfl, rfl⟩, rfl⟩
 refine oM J (oE (stpU_lit (sz := 1) (l := [2, 3, 1]) [I 2, I 3, I 1] sl23 8 (sP J (sP J (sP J sE))) J J J J J J J J J) J ?_)
 rintro _ _ ⟨p11, C12, rfl, rfl, o12⟩
 obtain ⟨x13, e13, H0⟩ := bS H0
 refine oE (uM (rq 0 9) cf24 (fun w hw hb => c_s_l12Rd_num fl w m0 a0_0 x10.2 ([2, 3, 1]) J (RO.passM hr0_0_0 hw hb) (by simp) (OwnC.passM (id := 8) J o12 hw hb ⟨J, trivial⟩) (hw.pass (js := [0]) ⟨0, [], J, J, trivial⟩ (by decide)) x13 e13) (yB J J) ⟨J, (pI (fun _ _ h => h.2) J), trivial⟩) J ?_
 rintro _ _ ⟨_, ⟨rfl, rfl⟩, rfl⟩
 obtain ⟨x14, e14, H0⟩ := bS H0
 refine oE (uC 10 cf126 (fun w hw => c_s_NewMachine fl w x4.1 x7.1 x10.1 x13.1 x14 e14) (yD J J J J)) J ?_
 rintro _ _ ⟨_, ⟨p15, _, c17, C18, rfl, o18, p19, _, c21, C22, rfl, o22, p23, _, c25, C26, rfl, o26, p27, _, c29, C30, rfl, o30, rfl, rfl⟩, rfl⟩
 refine oMTT J J J (oE (stpU_alloc 14 tz34 J) J ?_)
 rintro _ _ ⟨b31, rfl, rfl⟩
 obtain ⟨x32, e32, H0⟩ := bS H0
 refine oC9 14 ts34 J J (sq J (oM J (oE (uM (rq 0 15) cf23 (fun w hw hb => c_s_l12Rd_pick fl w m0 a0_0 x13.2 10 J (RO.passM hr0_0_0 hw hb) (hw.pass (js := [0]) ⟨0, [], J, J, trivial⟩ (by decide)) x32 e32) (yB J J) ⟨J, (pI (fun _ _ h => h.2) J), trivial⟩) J ?_)))
 rintro _ _ ⟨_, ⟨rfl, rfl⟩, rfl⟩
 obtain ⟨x33, e33, H0⟩ := bS H0
 obtain ⟨o0_0, eo0_0, H0⟩ := bS H0
 refine oP e33 J (sn J (lp (fun f a b c d e g i j k l m => s_l6Draw_L0 fl a0_0 f a b c d e g i j k l m = some o0_0) (fun a b c d e g i j k l m => o0_0 = .out (a, b, c, d, e, g, i, j, k, l, m)) (fun R s h => ∃ v34 v35 v40 v45 v50 v51 v52 v53 v54 v59 v60 p36 n37 c38 C39 p41 n42 c43 C44 p46 n47 c48 C49 p55 n56 c57 C58, R v34 v35 v40 v45 v50 v51 v52 v53 v54 v59 v60 ∧ s = [(0, .pointer (some ⟨m0, 0, none⟩)), (2, .pointer (some ⟨b1, 0, none⟩)), (3, .pointer (some ⟨b31, 0, none⟩)), (5, I v60)] ∧ h = [(0, [(m0, .cells #[.slice p0_0_0 ((a0_0).length) c0_0_0, I v34] 95 (0, 0))]), (1, [(b1, .cells #[sN, sN, sN, I 0, I 0, I 0, I 0, sN, I 0] 34 (0, 0))]), (10, C39), (11, C44), (12, C49), (13, C58), (14, [(b31, .cells #[.slice p36 n37 c38, .slice p41 n42 c43, .slice p46 n47 c48, I v50, I v51, I v52, I v53, .slice p55 n56 c57, I v59] 34 (0, 0))])] ∧ n37 = (v35).length ∧ OwnC 3 p36 c38 v35 C39 ∧ n42 = (v40).length ∧ OwnC 57 p41 c43 v40 C44 ∧ n47 = (v45).length ∧ OwnC 104 p46 c48 v45 C49 ∧ n56 = (v54).length ∧ OwnC 70 p55 c57 v54 C58) ⟨_, _, _, _, _, _, _, _, _, _, _, p15, ((x14.1.t.b).length), c17, C18, p19, ((x14.1.t.f).length), c21, C22, p23, ((x14.1.c.l).length), c25, C26, p27, ((x14.1.g.o).length), c29, C30, eo0_0, J, J, J, o18, J, o22, J, o26, J, o30⟩ ?_ ?_))
 ·rintro fuel _ _ ⟨v34, v35, v40, v45, v50, v51, v52, v53, v54, v59, v60, p36, _, c38, C39, p41, _, c43, C44, p46, _, c48, C49, p55, _, c57, C58, H1, rfl, rfl, rfl, o39, rfl, o44, rfl, o49, rfl, o58⟩
  rcases fuel with _ | fuel
  ·rw [s_l6Draw_L0.eq_1] at H1; cases H1
  rw [s_l6Draw_L0.eq_2] at H1
  refine csr (oM J (oJ J (nn (cH J H1 (fun H1 => ?_) (fun H1 => ?_)))))
  ·obtain ⟨x62, e62, H1⟩ := bS H1
   refine kq (cw_block (cR (oM J (oB9 14 ts34 J (oE (uM (fun i => bif Nat.beq i 0 then 0 else bif Nat.beq i 1 then 10 else bif Nat.beq i 2 then 11 else bif Nat.beq i 3 then 12 else bif Nat.beq i 4 then 13 else 16 + i) cf127 (fun w hw hb => c_s_l6Step fl w m0 a0_0 v34 (⟨(⟨v35, v40⟩ : T), (⟨v45, v50⟩ : Ca), (⟨v51, v52, v53, v54⟩ : Tg), v59⟩ : Mc) J (RO.passM hr0_0_0 hw hb) J o39 J o44 J o49 J o58 (hw.pass (js := [0, 10, 11, 12, 13]) ⟨0, [10, 11, 12, 13], J, J, 10, [11, 12, 13], J, J, 11, [12, 13], J, J, 12, [13], J, J, 13, [], J, J, trivial⟩ (by decide)) x62 e62) (yB J J) ⟨J, (fun _ _ hp => by obtain ⟨_, _, _, _, _, _, _, _, _, _, _, _, _, _, _, _, _, _, _, _, _, _, _, _, _, rfl⟩ := hp; exact ⟨_, J⟩), J, (fun _ _ hp => by obtain ⟨_, _, _, _, _, _, _, _, _, _, _, _, _, _, _, _, _, _, _, _, _, _, _, _, _, rfl⟩ := hp; exact ⟨_, J⟩), J, (fun _ _ hp => by obtain ⟨_, _, _, _, _, _, _, _, _, _, _, _, _, _, _, _, _, _, _, _, _, _, _, _, _, rfl⟩ := hp; exact ⟨_, J⟩), J, (fun _ _ hp => by obtain ⟨_, _, _, _, _, _, _, _, _, _, _, _, _, _, _, _, _, _, _, _, _, _, _, _, _, rfl⟩ := hp; exact ⟨_, J⟩), J, (fun _ _ hp => by obtain ⟨_, _, _, _, _, _, _, _, _, _, _, _, _, _, _, _, _, _, _, _, _, _, _, _, _, rfl⟩ := hp; exact ⟨_, J⟩), trivial⟩) J ?_)))))
   rintro _ _ ⟨_, ⟨p63, _, c65, C66, rfl, o66, p67, _, c69, C70, rfl, o70, p71, _, c73, C74, rfl, o74, p75, _, c77, C78, rfl, o78, rfl, rfl⟩, rfl⟩
   obtain ⟨x79, e79, H1⟩ := bS H1
   exact oC9 14 ts34 J J (ow_nil (kb (cR (oM J (oD (stp_sub J J e79) J (oS J (ow_nil (kaS [0, 1, 21, 22, 23, 24, 14] ⟨_, _, _, _, _, _, _, _, _, _, _, p63, ((x62.1.t.b).length), c65, C66, p67, ((x62.1.t.f).length), c69, C70, p71, ((x62.1.c.l).length), c73, C74, p75, ((x62.1.g.o).length), c77, C78, H1, J, J, J, o66, J, o70, J, o74, J, o78⟩))))))))
  refine cw_exit (kw_nx_exit (ax (kw_bl ?_)))
  obtain rfl := sI H1
  exact kx ⟨_, _, _, _, _, _, _, _, _, _, _, p36, ((v35).length), c38, C39, p41, ((v40).length), c43, C44, p46, ((v45).length), c48, C49, p55, ((v54).length), c57, C58, J, J, J, J, o39, J, o44, J, o49, J, o58⟩
 rintro _ _ ⟨v34, v35, v40, v45, v50, v51, v52, v53, v54, v59, v60, p36, _, c38, C39, p41, _, c43, C44, p46, _, c48, C49, p55, _, c57, C58, rfl, rfl, rfl, rfl, o39, rfl, o44, rfl, o49, rfl, o58⟩
 refine kw_nx (sr (oB9 14 ts34 J (oC9 1 ts34 J J (nn (cw_ret ?_)))))
 obtain rfl := sI H0
 exact kr results88 (rC9 1 ts34 J J) [0, 10, 11, 12, 13] (sl J o39 (sl J o44 (sl J o49 (sl J o58 ⟨J, J⟩))))

theorem c_s_NewMemory (fl : Nat) (w : World) (a0 : Mc) (hn0_0 : n0_0 = (a0.t.b).length) (hr0_0 : RO w [] (RdL p0_0 c0_0 a0.t.b)) (hn0_1 : n0_1 = (a0.t.f).length) (hr0_1 : RO w [] (RdL p0_1 c0_1 a0.t.f)) (hn0_2 : n0_2 = (a0.c.l).length) (hr0_2 : RO w [] (RdL p0_2 c0_2 a0.c.l)) (hn0_3 : n0_3 = (a0.g.o).length) (hr0_3 : RO w [] (RdL p0_3 c0_3 a0.g.o)) (r : Mm × Bool) (H0 : s_NewMemory fl a0 = some r) :
  Ct prog 87 [.agg #[.slice p0_0 n0_0 c0_0, .slice p0_1 n0_1 c0_1, .slice p0_2 n0_2 c0_2, I a0.c.h, I a0.g.c, I a0.g.n, I a0.g.r, .slice p0_3 n0_3 c0_3, I a0.s]] w [] (fun rv h' => SL 3 r.1.m.t.b fun x0 y0 z0 C0 => SL 57 r.1.m.t.f fun x1 y1 z1 C1 => SL 104 r.1.m.c.l fun x2 y2 z2 C2 => SL 70 r.1.m.g.o fun x3 y3 z3 C3 => SL 4 r.1.k fun x4 y4 z4 C4 => rv = .tuple #[.agg #[.slice x0 y0 z0, .slice x1 y1 z1, .slice x2 y2 z2, I r.1.m.c.h, I r.1.m.g.c, I r.1.m.g.n, I r.1.m.g.r, .slice x3 y3 z3, I r.1.m.s, .slice x4 y4 z4, I r.1.h], .bool r.2] ∧ h' = [(0, C0), (1, C1), (2, C2), (3, C3), (4, C4)]) := by
 subst hn0_0 hn0_1 hn0_2 hn0_3
 unfold s_NewMemory at H0
 refine ct_of_cw func87 J ntmps87 J (Sat.refl _ _) ?_
 refine sr (oE (stpU_box 0 J J) J ?_)
 rintro _ _ ⟨b1, rfl, rfl⟩
 refine oE (stpU_alloc 1 tz37 J) J ?_
 rintro _ _ ⟨b2, rfl, rfl⟩
 obtain ⟨x3, e3, H0⟩ := bS H0
 refine sq J (oB9 0 ts34 J (oE (uC 2 cf55 (fun w hw => c_s_MachineValid fl w a0 J (rp hr0_0 hw) J (rp hr0_1 hw) J (rp hr0_2 hw) J (rp hr0_3 hw) x3 e3) (yA J)) J ?_))
 rintro _ _ ⟨_, ⟨rfl, rfl⟩, rfl⟩
 refine oK J (nn (cH J H0 (fun H0 => ?_) (fun H0 => ?_)))
 ·refine sr (oD (stp_build (cs := #[sN, sN, sN, I 0, I 0, I 0, I 0, sN, I 0, sN, I 0]) sE bt37_19) J (oC11 1 ts37 J J (sR J (kA 2 (kA 3 (kA 4 (kA 5 (kA 6 ?_))))))))
  obtain rfl := sI H0
  exact kr results87 (.cons (.cellN (us := [_, _, _, _, _, _, _, _, _, _, _]) ts37 J (Cells.box (id := 1) J 11 J)) (rT J)) [2, 3, 4, 5, 6] (sl J oN0 (sl J oN0 (sl J oN0 (sl J oN0 (sl J oN0 ⟨J, J⟩)))))
 obtain ⟨x5, e5, H0⟩ := bS H0
 obtain ⟨x22, e22, H0⟩ := bS H0
 refine kq (rdt g_mixed [.n 0, .n 2, .n 3, .n 4, .n 5, .d 1, .n 6, .o 1, .n 7, .n 8, .n 9] ⟨[[0],[],[],[],[0],[],[],[],[1]], [[],[7,8,9,10],[],[],[],[],[11],[],[1]], [1,6]⟩ (dB9 0 ts34 J (dA 0 J u34 J ts26 J (dA 1 J u26 J ts24 J (dL 0 ts24 J (dD J (stp_len u24 J) (dq J (fun hh => uC 7 cf56 (fun w hw => c_s_l6Copy fl w a0 J (rp hr0_0 hw) J (rp hr0_1 hw) J (rp hr0_2 hw) J (rp hr0_3 hw) x5 e5) (yA J)) (by rintro _ _ ⟨_, ⟨_, _, _, _, _, _, _, _, _, _, _, _, _, _, _, _, _, _, _, _, _, _, _, _, rfl, rfl⟩, rfl⟩; rfl) (dE J (fun hh => stpU_make sl35 J 11 J J e22) ?_))))))))
 rintro _ _ ⟨p23, C24, rfl, rfl, o24⟩
 refine dk J (dp J ?_)
 rintro _ _ ⟨_, ⟨p6, _, c8, C9, rfl, o9, p10, _, c12, C13, rfl, o13, p14, _, c16, C17, rfl, o17, p18, _, c20, C21, rfl, o21, rfl, rfl⟩, rfl⟩
 refine dD J (stp_build (cs := #[.slice p6 ((x5.t.b).length) c8, .slice p10 ((x5.t.f).length) c12, .slice p14 ((x5.c.l).length) c16, I x5.c.h, I x5.g.c, I x5.g.n, I x5.g.r, .slice p18 ((x5.g.o).length) c20, I x5.s, .slice p23 x22 x22, I 0]) (sP J (sP J sE)) bt37_20) (dC11 1 ts37 J J J (dS J (dn (kw_nx (cw_ret ?_)))))
 obtain rfl := sI H0
 exact kr results87 (.cons (.cellN (us := [_, _, _, _, _, _, _, _, _, _, _]) ts37 J (Cells.box (id := 1) J 11 J)) (rT J)) [7, 8, 9, 10, 11] (sl J o9 (sl J o13 (sl J o17 (sl J o21 (sl (by simp) o24 ⟨J, J⟩)))))

theorem c_s_l7Pages (fl : Nat) (w : World) (m0 : Nat) (a0_0 : (List UInt8)) (a0_1 : Int) (hn0_0_0 : n0_0_0 = (a0_0).length) (hr0_0_0 : RO w (hkeys [(0, [(m0, .cells #[.slice p0_0_0 n0_0_0 c0_0_0, I a0_1] 95 (0, 0))])]) (RdL p0_0_0 c0_0_0 a0_0)) (hM : Sat w (hkeys [(0, [(m0, .cells #[.slice p0_0_0 n0_0_0 c0_0_0, I a0_1] 95 (0, 0))])]) w [(0, [(m0, .cells #[.slice p0_0_0 n0_0_0 c0_0_0, I a0_1] 95 (0, 0))])]) (r : (List Int) × Int) (H0 : s_l7Pages fl a0_0 a0_1 = some r) :
  Ct prog 22 [.pointer (some ⟨m0, 0, none⟩)] w [(0, [(m0, .cells #[.slice p0_0_0 n0_0_0 c0_0_0, I a0_1] 95 (0, 0))])] (fun rv h' => SL 3 r.1 fun x1 y1 z1 C1 => rv = .slice x1 y1 z1 ∧ h' = [(0, [(m0, .cells #[.slice p0_0_0 n0_0_0 c0_0_0, I r.2] 95 (0, 0))]), (1, C1)]) := by
 subst hn0_0_0
 unfold s_l7Pages at H0
 refine ct_of_cw func22 J ntmps22 J hM ?_
 refine sr (ss J (oE (stpU_lit0 sl23 1) J ?_))
 rintro _ _ ⟨p1, C2, rfl, rfl, o2⟩
 refine sq J (oM J (oE (stpU_lit (sz := 1) (l := [5, 3, 8, 2, 12, 0]) [I 5, I 3, I 8, I 2, I 12, I 0] sl23 2 (sP J (sP J (sP J (sP J (sP J (sP J sE)))))) J J J J J J J J J) J ?_))
 rintro _ _ ⟨p3, C4, rfl, rfl, o4⟩
 obtain ⟨x5, e5, H0⟩ := bS H0
 refine oE (uM (rq 0 3) cf24 (fun w hw hb => c_s_l12Rd_num fl w m0 a0_0 a0_1 ([5, 3, 8, 2, 12, 0]) J (RO.passM hr0_0_0 hw hb) (by simp) (OwnC.passM (id := 2) J o4 hw hb ⟨J, trivial⟩) (hw.pass (js := [0]) ⟨0, [], J, J, trivial⟩ (by decide)) x5 e5) (yB J J) ⟨J, (pI (fun _ _ h => h.2) J), trivial⟩) J ?_
 rintro _ _ ⟨_, ⟨rfl, rfl⟩, rfl⟩
 obtain ⟨o0_0, eo0_0, H0⟩ := bS H0
 refine sn J (lp (fun f a b c => s_l7Pages_L0 fl a0_0 f a b c = some o0_0) (fun a b c => o0_0 = .out (a, b, c)) (fun R s h => ∃ v6 v7 v12 p8 n9 c10 C11, R v6 v7 v12 ∧ s = [(0, .pointer (some ⟨m0, 0, none⟩)), (3, .slice p8 n9 c10), (4, I v12)] ∧ h = [(0, [(m0, .cells #[.slice p0_0_0 ((a0_0).length) c0_0_0, I v6] 95 (0, 0))]), (1, C11)] ∧ n9 = (v7).length ∧ OwnC 3 p8 c10 v7 C11) ⟨_, _, _, p1, 0, 0, C2, eo0_0, J, J, (by simp), o2⟩ ?_ ?_)
 ·rintro fuel _ _ ⟨v6, v7, v12, p8, _, c10, C11, H1, rfl, rfl, rfl, o11⟩
  rcases fuel with _ | fuel
  ·rw [s_l7Pages_L0.eq_1] at H1; cases H1
  rw [s_l7Pages_L0.eq_2] at H1
  refine csr (oM J (oJ J (nn (cH J H1 (fun H1 => ?_) (fun H1 => ?_)))))
  ·refine kq (cw_block (cR (oM J (oM J (oE (stpU_lit (sz := 1) (l := [1, 2, 3, 4, 5, 6, 7, 200, 201]) [I 1, I 2, I 3, I 4, I 5, I 6, I 7, I 200, I 201] sl23 4 (sP J (sP J (sP J (sP J (sP J (sP J (sP J (sP J (sP J sE))))))))) J J J J J J J J J) J ?_)))))
   rintro _ _ ⟨p14, C15, rfl, rfl, o15⟩
   obtain ⟨x16, e16, H1⟩ := bS H1
   refine oE (uM (rq 0 5) cf24 (fun w hw hb => c_s_l12Rd_num fl w m0 a0_0 v6 ([1, 2, 3, 4, 5, 6, 7, 200, 201]) J (RO.passM hr0_0_0 hw hb) (by simp) (OwnC.passM (id := 4) J o15 hw hb ⟨J, trivial⟩) (hw.pass (js := [0]) ⟨0, [], J, J, trivial⟩ (by decide)) x16 e16) (yB J J) ⟨J, (pI (fun _ _ h => h.2) J), trivial⟩) J ?_
   rintro _ _ ⟨_, ⟨rfl, rfl⟩, rfl⟩
   refine oE (stpU_lit (sz := 1) (l := [x16.1]) [I x16.1] sl23 6 (sP J sE) J J J J J J J J J) J ?_
   rintro _ _ ⟨p17, C18, rfl, rfl, o18⟩
   obtain ⟨x19, e19, H1⟩ := bS H1
   refine oE (stpU_append sl23 J (id := 1) J J J (by simp) J o11 (Rdb.own (id := 6) J o18) e19) J ?_
   rintro _ _ ⟨p20, c21, C22, rfl, rfl, o22⟩
   obtain ⟨x23, e23, H1⟩ := bS H1
   exact oS J (ow_nil (kb (cR (oM J (oD (stp_sub J J e23) J (oS J (ow_nil (ka ⟨_, _, _, p20, ((x19).length), c21, C22, H1, J, J, J, o22⟩))))))))
  refine cw_exit (kw_nx_exit (ax (kw_bl ?_)))
  obtain rfl := sI H1
  exact kx ⟨_, _, _, p8, ((v7).length), c10, C11, J, J, J, J, o11⟩
 rintro _ _ ⟨v6, v7, v12, p8, _, c10, C11, rfl, rfl, rfl, rfl, o11⟩
 refine kw_nx (sr (oM J (sn J (cw_ret ?_))))
 obtain rfl := sI H0
 exact kr results22 (rT J) [0, 1] (sl J o11 ⟨J, J⟩)

theorem c_s_MemoryValid (fl : Nat) (w : World) (a0 : Mm) (hn0_0 : n0_0 = (a0.m.t.b).length) (hr0_0 : RO w [] (RdL p0_0 c0_0 a0.m.t.b)) (hn0_1 : n0_1 = (a0.m.t.f).length) (hr0_1 : RO w [] (RdL p0_1 c0_1 a0.m.t.f)) (hn0_2 : n0_2 = (a0.m.c.l).length) (hr0_2 : RO w [] (RdL p0_2 c0_2 a0.m.c.l)) (hn0_3 : n0_3 = (a0.m.g.o).length) (hr0_3 : RO w [] (RdL p0_3 c0_3 a0.m.g.o)) (hn0_4 : n0_4 = (a0.k).length) (hr0_4 : RO w [] (RdL p0_4 c0_4 a0.k)) (r : Bool) (H0 : s_MemoryValid fl a0 = some r) :
  Ct prog 26 [.agg #[.slice p0_0 n0_0 c0_0, .slice p0_1 n0_1 c0_1, .slice p0_2 n0_2 c0_2, I a0.m.c.h, I a0.m.g.c, I a0.m.g.n, I a0.m.g.r, .slice p0_3 n0_3 c0_3, I a0.m.s, .slice p0_4 n0_4 c0_4, I a0.h]] w [] (fun rv h' => rv = .bool r ∧ h' = []) := by
 subst hn0_0 hn0_1 hn0_2 hn0_3 hn0_4
 unfold s_MemoryValid at H0
 refine ct_of_cw func26 J ntmps26 J (Sat.refl _ _) ?_
 refine sr (oE (stpU_box 0 J J) J ?_)
 rintro _ _ ⟨b1, rfl, rfl⟩
 obtain ⟨x2, e2, H0⟩ := bS H0
 refine sq J (oA 0 u37 J ts34 J (oB9 0 ts34 J (oE (uC 1 cf55 (fun w hw => c_s_MachineValid fl w a0.m J (rp hr0_0 hw) J (rp hr0_1 hw) J (rp hr0_2 hw) J (rp hr0_3 hw) x2 e2) (yA J)) J ?_)))
 rintro _ _ ⟨_, ⟨rfl, rfl⟩, rfl⟩
 obtain ⟨y3, ey3, H0⟩ := bS H0
 refine oK J (oM J (ow_cutY 10 18 y3 ?_ ?_))
 ·rcases Bool.eq_false_or_eq_true (!x2) with hy3 | hy3
  ·have ey3 := cond_t ey3 hy3
   refine oO J hy3 J (oO J hy3 J (oO J hy3 J (oO J hy3 J (oO J hy3 J (oO J hy3 J (oO J hy3 J (oO J hy3 J (oO J hy3 J (oD (stp_pick_t J hy3 J) J ?_)))))))))
   obtain rfl := sI ey3
   exact ow_nil (jy 10 0)
  have ey3 := cond_f ey3 hy3
  refine oG J hy3 (fA 9 u37 J ts35 J J J) J (oG J hy3 (lB 0 ts35 J J J) J (oG J hy3 (stp_len u35 J) J (oG J hy3 (fA 0 u37 J ts34 J J J) J (oG J hy3 (fA 0 u34 J ts26 J J J) J (oG J hy3 (fA 1 u26 J ts24 J J J) J (oG J hy3 (lB 0 ts24 J J J) J (oG J hy3 (stp_len u24 J) J (oG J hy3 (stp_neq J J) J (oD (stp_pick_f J hy3 J) J ?_)))))))))
  obtain rfl := sI ey3
  exact ow_nil (jy 10 0)
 obtain ⟨y4, ey4, H0⟩ := bS H0
 refine oM J (ow_cutY 4 23 y4 ?_ ?_)
 ·rcases Bool.eq_false_or_eq_true y3 with hy4 | hy4
  ·have ey4 := cond_t ey4 hy4
   refine oO J hy4 J (oO J hy4 J (oO J hy4 J (oD (stp_pick_t J hy4 J) J ?_)))
   obtain rfl := sI ey4
   exact ow_nil (jy 4 0)
  have ey4 := cond_f ey4 hy4
  refine oG J hy4 (fA 10 u37 J ts3 J J J) J (oG J hy4 (lB 0 ts3 J J J) J (oG J hy4 (stp_lss J J) J (oD (stp_pick_f J hy4 J) J ?_)))
  obtain rfl := sI ey4
  exact ow_nil (jy 4 0)
 obtain ⟨y5, ey5, H0⟩ := bS H0
 refine oM J (ow_cutY 7 31 y5 ?_ ?_)
 ·rcases Bool.eq_false_or_eq_true y4 with hy5 | hy5
  ·have ey5 := cond_t ey5 hy5
   refine oO J hy5 J (oO J hy5 J (oO J hy5 J (oO J hy5 J (oO J hy5 J (oO J hy5 J (oD (stp_pick_t J hy5 J) J ?_))))))
   obtain rfl := sI ey5
   exact ow_nil (jy 7 0)
  have ey5 := cond_f ey5 hy5
  refine oG J hy5 (fA 10 u37 J ts3 J J J) J (oG J hy5 (lB 0 ts3 J J J) J (oG J hy5 (fA 9 u37 J ts35 J J J) J (oG J hy5 (lB 0 ts35 J J J) J (oG J hy5 (stp_len u35 J) J (oG J hy5 (stp_geq J J) J (oD (stp_pick_f J hy5 J) J ?_))))))
  obtain rfl := sI ey5
  exact ow_nil (jy 7 0)
 refine ow_nil (kw_nx (cH J H0 (fun H0 => ?_) (fun H0 => ?_)))
 ·refine sr (sr1 J (kR ?_))
  obtain rfl := sI H0
  exact kr results26 (rT J) [] ⟨J, J⟩
 obtain ⟨o0_0, eo0_0, H0⟩ := bS H0
 refine kq (sr (sn J (lp (fun f a => s_MemoryValid_L0 fl a0 f a = some o0_0) (fun a => o0_0 = .out a) (fun R s h => ∃ v7, R v7 ∧ s = [(1, .pointer (some ⟨b1, 0, none⟩)), (3, I v7)] ∧ h = [(0, [(b1, .cells #[.slice p0_0 ((a0.m.t.b).length) c0_0, .slice p0_1 ((a0.m.t.f).length) c0_1, .slice p0_2 ((a0.m.c.l).length) c0_2, I a0.m.c.h, I a0.m.g.c, I a0.m.g.n, I a0.m.g.r, .slice p0_3 ((a0.m.g.o).length) c0_3, I a0.m.s, .slice p0_4 ((a0.k).length) c0_4, I a0.h] 37 (0, 0))])]) ⟨_, eo0_0, J, J⟩ ?_ ?_)))
 ·rintro fuel _ _ ⟨v7, H1, rfl, rfl⟩
  rcases fuel with _ | fuel
  ·rw [s_MemoryValid_L0.eq_1] at H1; cases H1
  rw [s_MemoryValid_L0.eq_2] at H1
  refine csr (oM J (oAL 9 u37 J ts35 J 0 J (oD (stp_len u35 J) J (oW J (nn (cH J H1 (fun H1 => ?_) (fun H1 => ?_)))))))
  ·obtain ⟨x9, e9, H1⟩ := bS H1
   obtain ⟨y10, ey10, H1⟩ := bS H1
   refine kq (cw_block (sr (oAL 9 u37 J ts35 J 0 J (oM J (oD (stp_indexAddr u35 ts4 (by decide) J J J (Rdb.ro hr0_4) e9) J (oD (stp_load1 ts4 J (Cells.el (Rdb.ro hr0_4) (by decide) e9 0 1 J)) J (oM J (ow_cutY 10 54 y10 ?_ ?_))))))))
   ·rcases Bool.eq_false_or_eq_true x9 with hy10 | hy10
    ·have ey10 := cond_t ey10 hy10
     obtain ⟨x11, e11, ey10⟩ := bS ey10
     refine oG J hy10 (fA 0 u37 J ts34 J J J) J (oG J hy10 (fA 0 u34 J ts26 J J J) J (oG J hy10 (fA 1 u26 J ts24 J J J) J (oG J hy10 (lB 0 ts24 J J J) J (oG J hy10 (mv J) J (oG J hy10 (stp_indexAddr u24 ts57 (by decide) J J J (Rdb.ro hr0_1) e11) J (oG J hy10 (fA 0 u57 J ts4 J J J) J (oG J hy10 (stp_load1 ts4 J (Cells.el (Rdb.ro hr0_1) (by decide) e11 0 1 J)) J (oG J hy10 (stp_not J) J (oD (stp_pick_t J hy10 J) J ?_)))))))))
     obtain rfl := sI ey10
     exact ow_nil (jy 10 0)
    have ey10 := cond_f ey10 hy10
    refine oO J hy10 J (oO J hy10 J (oO J hy10 J (oO J hy10 J (oO J hy10 J (oO J hy10 J (oO J hy10 J (oO J hy10 J (oO J hy10 J (oD (stp_pick_f J hy10 J) J ?_)))))))))
    obtain rfl := sI ey10
    exact ow_nil (jy 10 0)
   refine ow_nil (kw_nx (cH J H1 (fun H1 => ?_) (fun H1 => ?_)))
   ·refine sr (sr1 J (kw_bl_ret (kR (ar (kw_bl_ret (xr (kR ?_)))))))
    obtain rfl := sI H1
    obtain rfl := sI H0
    exact kr results26 (rT J) [] ⟨J, J⟩
   obtain ⟨x13, e13, H1⟩ := bS H1
   exact cw_skip (kb (cR (oM J (oP e13 J (oS J (ow_nil (ka ⟨_, H1, J, J⟩)))))))
  refine cw_exit (kw_nx_exit (ax (kw_bl ?_)))
  obtain rfl := sI H1
  exact kx ⟨_, J, J, J⟩
 rintro _ _ ⟨v7, rfl, rfl, rfl⟩
 refine kw_nx (sr (sn J (cw_ret ?_)))
 obtain rfl := sI H0
 exact kr results26 (rT J) [] ⟨J, J⟩

theorem c_s_l7Copy (fl : Nat) (w : World) (a0 : Mm) (hn0_0 : n0_0 = (a0.m.t.b).length) (hr0_0 : RO w [] (RdL p0_0 c0_0 a0.m.t.b)) (hn0_1 : n0_1 = (a0.m.t.f).length) (hr0_1 : RO w [] (RdL p0_1 c0_1 a0.m.t.f)) (hn0_2 : n0_2 = (a0.m.c.l).length) (hr0_2 : RO w [] (RdL p0_2 c0_2 a0.m.c.l)) (hn0_3 : n0_3 = (a0.m.g.o).length) (hr0_3 : RO w [] (RdL p0_3 c0_3 a0.m.g.o)) (hn0_4 : n0_4 = (a0.k).length) (hr0_4 : RO w [] (RdL p0_4 c0_4 a0.k)) (r : Mm) (H0 : s_l7Copy fl a0 = some r) :
  Ct prog 27 [.agg #[.slice p0_0 n0_0 c0_0, .slice p0_1 n0_1 c0_1, .slice p0_2 n0_2 c0_2, I a0.m.c.h, I a0.m.g.c, I a0.m.g.n, I a0.m.g.r, .slice p0_3 n0_3 c0_3, I a0.m.s, .slice p0_4 n0_4 c0_4, I a0.h]] w [] (fun rv h' => SL 3 r.m.t.b fun x0 y0 z0 C0 => SL 57 r.m.t.f fun x1 y1 z1 C1 => SL 104 r.m.c.l fun x2 y2 z2 C2 => SL 70 r.m.g.o fun x3 y3 z3 C3 => SL 4 r.k fun x4 y4 z4 C4 => rv = .agg #[.slice x0 y0 z0, .slice x1 y1 z1, .slice x2 y2 z2, I r.m.c.h, I r.m.g.c, I r.m.g.n, I r.m.g.r, .slice x3 y3 z3, I r.m.s, .slice x4 y4 z4, I r.h] ∧ h' = [(0, C0), (1, C1), (2, C2), (3, C3), (4, C4)]) := by
 subst hn0_0 hn0_1 hn0_2 hn0_3 hn0_4
 unfold s_l7Copy at H0
 refine ct_of_cw func27 J ntmps27 J (Sat.refl _ _) ?_
 refine sr (oE (stpU_box 0 J J) J ?_)
 rintro _ _ ⟨b1, rfl, rfl⟩
 refine oE (stpU_alloc 1 tz37 J) J ?_
 rintro _ _ ⟨b2, rfl, rfl⟩
 obtain ⟨x3, e3, H0⟩ := bS H0
 refine nn (cq (rdt g_mixed [.n 0, .n 1, .n 4, .n 5, .n 7, .n 8, .d 2, .n 3, .o 2, .n 6, .n 9, .n 10] ⟨[[],[0],[],[],[],[0],[6],[],[0],[],[1]], [[],[],[2,3,4,5],[6],[],[],[6],[],[],[],[1]], [2,3,6]⟩ (dA 0 J u37 J ts34 J (dB9 0 ts34 J (dA 9 J u37 J ts35 J (dL 0 ts35 J (dA 10 J u37 J ts3 J (dL 0 ts3 J (dq J (fun hh => uC 2 cf56 (fun w hw => c_s_l6Copy fl w a0.m J (rp hr0_0 hw) J (rp hr0_1 hw) J (rp hr0_2 hw) J (rp hr0_3 hw) x3 e3) (yA J)) (by rintro _ _ ⟨_, ⟨_, _, _, _, _, _, _, _, _, _, _, _, _, _, _, _, _, _, _, _, _, _, _, _, rfl, rfl⟩, rfl⟩; rfl) (dE J (fun hh => stpU_lit0 sl35 6) ?_))))))))))
 rintro _ _ ⟨p20, C21, rfl, rfl, o21⟩
 refine dk J (dp J ?_)
 rintro _ _ ⟨_, ⟨p4, _, c6, C7, rfl, o7, p8, _, c10, C11, rfl, o11, p12, _, c14, C15, rfl, o15, p16, _, c18, C19, rfl, o19, rfl, rfl⟩, rfl⟩
 obtain ⟨x22, e22, H0⟩ := bS H0
 refine dE J (fun hh => stpU_append sl35 J (id := 6) J (by simp) J J (hh _ _ J) o21 (Rdb.ro hr0_4) e22) ?_
 rintro _ _ ⟨p23, c24, C25, rfl, rfl, o25⟩
 refine dk J (dD J (stp_build (cs := #[.slice p4 ((x3.t.b).length) c6, .slice p8 ((x3.t.f).length) c10, .slice p12 ((x3.c.l).length) c14, I x3.c.h, I x3.g.c, I x3.g.n, I x3.g.r, .slice p16 ((x3.g.o).length) c18, I x3.s, .slice p23 ((x22).length) c24, I a0.h]) (sP J (sP J (sP J sE))) bt37_21) (dC11 1 ts37 J J J (dn (kw_nx (cw_ret ?_)))))
 obtain rfl := sI H0
 exact kr results27 (rC11 1 ts37 J J) [2, 3, 4, 5, 6] (sl J o7 (sl J o11 (sl J o15 (sl J o19 (sl J o25 ⟨J, J⟩)))))

theorem c_s_l7Free (fl : Nat) (w : World) (a0 : T) (hn0_0 : n0_0 = (a0.b).length) (hr0_0 : RO w [] (RdL p0_0 c0_0 a0.b)) (hn0_1 : n0_1 = (a0.f).length) (hr0_1 : RO w [] (RdL p0_1 c0_1 a0.f)) (r : Int) (H0 : s_l7Free fl a0 = some r) :
  Ct prog 78 [.agg #[.slice p0_0 n0_0 c0_0, .slice p0_1 n0_1 c0_1]] w [] (fun rv h' => rv = I r ∧ h' = []) := by
 subst hn0_0 hn0_1
 unfold s_l7Free at H0
 refine ct_of_cw func78 J ntmps78 J (Sat.refl _ _) ?_
 refine sr (oE (stpU_box 0 J J) J ?_)
 rintro _ _ ⟨b1, rfl, rfl⟩
 obtain ⟨o0_0, eo0_0, H0⟩ := bS H0
 refine sq J (sn J (lp (fun f a => s_l7Free_L0 fl a0 f a = some o0_0) (fun a => o0_0 = .out a) (fun R s h => ∃ v2, R v2 ∧ s = [(1, .pointer (some ⟨b1, 0, none⟩)), (3, I v2)] ∧ h = [(0, [(b1, .cells #[.slice p0_0 ((a0.b).length) c0_0, .slice p0_1 ((a0.f).length) c0_1] 26 (0, 0))])]) ⟨_, eo0_0, J, J⟩ ?_ ?_))
 ·rintro fuel _ _ ⟨v2, H1, rfl, rfl⟩
  rcases fuel with _ | fuel
  ·rw [s_l7Free_L0.eq_1] at H1; cases H1
  rw [s_l7Free_L0.eq_2] at H1
  refine csr (oM J (oAL 1 u26 J ts24 J 0 J (oD (stp_len u24 J) J (oW J (nn (cH J H1 (fun H1 => ?_) (fun H1 => ?_)))))))
  ·obtain ⟨x4, e4, H1⟩ := bS H1
   refine kq (cw_block (sr (oAL 1 u26 J ts24 J 0 J (oM J (oD (stp_indexAddr u24 ts57 (by decide) J J J (Rdb.ro hr0_1) e4) J (oA 0 u57 J ts4 J (oD (stp_load1 ts4 J (Cells.el (Rdb.ro hr0_1) (by decide) e4 0 1 J)) J (oK J (nn (cH J H1 (fun H1 => ?_) (fun H1 => ?_)))))))))))
   ·refine sr (oM J (sr1 J (kw_bl_ret (kR (ar (kw_bl_ret (xr (kR ?_))))))))
    obtain rfl := sI H1
    obtain rfl := sI H0
    exact kr results78 (rT J) [] ⟨J, J⟩
   obtain ⟨x6, e6, H1⟩ := bS H1
   exact cw_skip (kb (cR (oM J (oP e6 J (oS J (ow_nil (ka ⟨_, H1, J, J⟩)))))))
  refine cw_exit (kw_nx_exit (ax (kw_bl ?_)))
  obtain rfl := sI H1
  exact kx ⟨_, J, J, J⟩
 rintro _ _ ⟨v2, rfl, rfl, rfl⟩
 refine kw_nx (sr (sn J (cw_ret ?_)))
 obtain rfl := sI H0
 exact kr results78 (rT J) [] ⟨J, J⟩

theorem c_s_l7Wired (fl : Nat) (w : World) (a0 : Mc) (a1 : Int) (hn0_0 : n0_0 = (a0.t.b).length) (hr0_0 : RO w [] (RdL p0_0 c0_0 a0.t.b)) (hn0_1 : n0_1 = (a0.t.f).length) (hr0_1 : RO w [] (RdL p0_1 c0_1 a0.t.f)) (hn0_2 : n0_2 = (a0.c.l).length) (hr0_2 : RO w [] (RdL p0_2 c0_2 a0.c.l)) (hn0_3 : n0_3 = (a0.g.o).length) (hr0_3 : RO w [] (RdL p0_3 c0_3 a0.g.o)) (r : Bool) (H0 : s_l7Wired fl a0 a1 = some r) :
  Ct prog 116 [.agg #[.slice p0_0 n0_0 c0_0, .slice p0_1 n0_1 c0_1, .slice p0_2 n0_2 c0_2, I a0.c.h, I a0.g.c, I a0.g.n, I a0.g.r, .slice p0_3 n0_3 c0_3, I a0.s], I a1] w [] (fun rv h' => rv = .bool r ∧ h' = []) := by
 subst hn0_0 hn0_1 hn0_2 hn0_3
 unfold s_l7Wired at H0
 refine ct_of_cw func116 J ntmps116 J (Sat.refl _ _) ?_
 refine sr (oE (stpU_box 0 J J) J ?_)
 rintro _ _ ⟨b1, rfl, rfl⟩
 obtain ⟨o0_0, eo0_0, H0⟩ := bS H0
 refine sq J (sn J (lp (fun f a => s_l7Wired_L0 fl a0 a1 f a = some o0_0) (fun a => o0_0 = .out a) (fun R s h => ∃ v2, R v2 ∧ s = [(1, I a1), (2, .pointer (some ⟨b1, 0, none⟩)), (5, I v2)] ∧ h = [(0, [(b1, .cells #[.slice p0_0 ((a0.t.b).length) c0_0, .slice p0_1 ((a0.t.f).length) c0_1, .slice p0_2 ((a0.c.l).length) c0_2, I a0.c.h, I a0.g.c, I a0.g.n, I a0.g.r, .slice p0_3 ((a0.g.o).length) c0_3, I a0.s] 34 (0, 0))])]) ⟨_, eo0_0, J, J⟩ ?_ ?_))
 ·rintro fuel _ _ ⟨v2, H1, rfl, rfl⟩
  rcases fuel with _ | fuel
  ·rw [s_l7Wired_L0.eq_1] at H1; cases H1
  rw [s_l7Wired_L0.eq_2] at H1
  refine csr (oM J (oA 2 u34 J ts29 J (oAL 0 u29 J ts27 J 0 J (oD (stp_len u27 J) J (oW J (nn (cH J H1 (fun H1 => ?_) (fun H1 => ?_))))))))
  ·obtain ⟨x4, e4, H1⟩ := bS H1
   refine kq (cw_block (sr (oA 2 u34 J ts29 J (oAL 0 u29 J ts27 J 0 J (oM J (oD (stp_indexAddr u27 ts104 (by decide) J J J (Rdb.ro hr0_2) e4) J (oD (stp_loadN (us := [_, _, _, _, _, _]) ts104 J (Cells.el (Rdb.ro hr0_2) (by decide) e4 0 6 J)) J (oE (stpU_alloc 1 tz104 J) J ?_))))))))
   rintro _ _ ⟨b5, rfl, rfl⟩
   obtain ⟨y6, ey6, H1⟩ := bS H1
   refine oC6 1 ts104 J J (ns (oAL 0 u104 J ts4 J 1 J (oM J (ow_cutY 3 26 y6 ?_ ?_))))
   ·rcases Bool.eq_false_or_eq_true x4.va with hy6 | hy6
    ·have ey6 := cond_t ey6 hy6
     refine oG J hy6 (fA 5 u104 J ts4 J J J) J (oG J hy6 (lB 1 ts4 J J J) J (oD (stp_pick_t J hy6 J) J ?_))
     obtain rfl := sI ey6
     exact ow_nil (jy 3 0)
    have ey6 := cond_f ey6 hy6
    refine oO J hy6 J (oO J hy6 J (oD (stp_pick_f J hy6 J) J ?_))
    obtain rfl := sI ey6
    exact ow_nil (jy 3 0)
   obtain ⟨y7, ey7, H1⟩ := bS H1
   refine oM J (ow_cutY 5 32 y7 ?_ ?_)
   ·rcases Bool.eq_false_or_eq_true y6 with hy7 | hy7
    ·have ey7 := cond_t ey7 hy7
     refine oG J hy7 (fA 3 u104 J ts3 J J J) J (oG J hy7 (lB 1 ts3 J J J) J (oG J hy7 (mv J) J (oG J hy7 (stp_eql J J) J (oD (stp_pick_t J hy7 J) J ?_))))
     obtain rfl := sI ey7
     exact ow_nil (jy 5 0)
    have ey7 := cond_f ey7 hy7
    refine oO J hy7 J (oO J hy7 J (oO J hy7 J (oO J hy7 J (oD (stp_pick_f J hy7 J) J ?_))))
    obtain rfl := sI ey7
    exact ow_nil (jy 5 0)
   refine ow_nil (kw_nx (cH J H1 (fun H1 => ?_) (fun H1 => ?_)))
   ·refine sr (sr1 J (kw_bl_ret (kR (ar (kw_bl_ret (xr (kR ?_)))))))
    obtain rfl := sI H1
    obtain rfl := sI H0
    exact kr results116 (rT J) [] ⟨J, J⟩
   obtain ⟨x9, e9, H1⟩ := bS H1
   exact cw_skip (kb (cR (oM J (oP e9 J (oS J (ow_nil (ka ⟨_, H1, J, J⟩)))))))
  refine cw_exit (kw_nx_exit (ax (kw_bl ?_)))
  obtain rfl := sI H1
  exact kx ⟨_, J, J, J⟩
 rintro _ _ ⟨v2, rfl, rfl, rfl⟩
 refine kw_nx (sr (sn J (cw_ret ?_)))
 obtain rfl := sI H0
 exact kr results116 (rT J) [] ⟨J, J⟩

theorem c_s_l7Clock (fl : Nat) (w : World) (a0 : Mm) (hn0_0 : n0_0 = (a0.m.t.b).length) (hr0_0 : RO w [] (RdL p0_0 c0_0 a0.m.t.b)) (hn0_1 : n0_1 = (a0.m.t.f).length) (hr0_1 : RO w [] (RdL p0_1 c0_1 a0.m.t.f)) (hn0_2 : n0_2 = (a0.m.c.l).length) (hr0_2 : RO w [] (RdL p0_2 c0_2 a0.m.c.l)) (hn0_3 : n0_3 = (a0.m.g.o).length) (hr0_3 : RO w [] (RdL p0_3 c0_3 a0.m.g.o)) (hn0_4 : n0_4 = (a0.k).length) (hr0_4 : RO w [] (RdL p0_4 c0_4 a0.k)) (r : Mm × Int) (H0 : s_l7Clock fl a0 = some r) :
  Ct prog 79 [.agg #[.slice p0_0 n0_0 c0_0, .slice p0_1 n0_1 c0_1, .slice p0_2 n0_2 c0_2, I a0.m.c.h, I a0.m.g.c, I a0.m.g.n, I a0.m.g.r, .slice p0_3 n0_3 c0_3, I a0.m.s, .slice p0_4 n0_4 c0_4, I a0.h]] w [] (fun rv h' => SL 3 r.1.m.t.b fun x0 y0 z0 C0 => SL 57 r.1.m.t.f fun x1 y1 z1 C1 => SL 104 r.1.m.c.l fun x2 y2 z2 C2 => SL 70 r.1.m.g.o fun x3 y3 z3 C3 => SL 4 r.1.k fun x4 y4 z4 C4 => rv = .tuple #[.agg #[.slice x0 y0 z0, .slice x1 y1 z1, .slice x2 y2 z2, I r.1.m.c.h, I r.1.m.g.c, I r.1.m.g.n, I r.1.m.g.r, .slice x3 y3 z3, I r.1.m.s, .slice x4 y4 z4, I r.1.h], I r.2] ∧ h' = [(0, C0), (1, C1), (2, C2), (3, C3), (4, C4)]) := by
 subst hn0_0 hn0_1 hn0_2 hn0_3 hn0_4
 unfold s_l7Clock at H0
 refine ct_of_cw func79 J ntmps79 J (Sat.refl _ _) ?_
 refine sr (oE (stpU_box 0 J J) J ?_)
 rintro _ _ ⟨b1, rfl, rfl⟩
 refine oE (stpU_alloc 1 tz37 J) J ?_
 rintro _ _ ⟨b2, rfl, rfl⟩
 obtain ⟨x3, e3, H0⟩ := bS H0
 refine ss J (oB11 0 ts37 J (oE (uC 2 cf27 (fun w hw => c_s_l7Copy fl w a0 J (rp hr0_0 hw) J (rp hr0_1 hw) J (rp hr0_2 hw) J (rp hr0_3 hw) J (rp hr0_4 hw) x3 e3) (yA J)) J ?_))
 rintro _ _ ⟨_, ⟨p4, _, c6, C7, rfl, o7, p8, _, c10, C11, rfl, o11, p12, _, c14, C15, rfl, o15, p16, _, c18, C19, rfl, o19, p20, _, c22, C23, rfl, o23, rfl, rfl⟩, rfl⟩
 refine oE (stpU_alloc 7 tz37 J) J ?_
 rintro _ _ ⟨b24, rfl, rfl⟩
 obtain ⟨o0_0, eo0_0, H0⟩ := bS H0
 refine oC11 7 ts37 J J (ns (oAL 9 u37 J ts35 J 7 J (oD (stp_len u35 J) J (sq J (sn J (lp (fun f a b c => s_l7Clock_L0 fl x3 f a b c = some o0_0) (fun a b c => o0_0 = .out (a, b, c)) (fun R s h => ∃ v25 v26 v28 C27, R v25 v26 v28 ∧ s = [(2, .pointer (some ⟨b2, 0, none⟩)), (4, .pointer (some ⟨b24, 0, none⟩)), (5, I ((x3.k).length : Int)), (6, I v28)] ∧ h = [(1, [(b2, .cells #[sN, sN, sN, I 0, I 0, I 0, I 0, sN, I 0, sN, I 0] 37 (0, 0))]), (2, C7), (3, C11), (4, C15), (5, C19), (6, C27), (7, [(b24, .cells #[.slice p4 ((x3.m.t.b).length) c6, .slice p8 ((x3.m.t.f).length) c10, .slice p12 ((x3.m.c.l).length) c14, I x3.m.c.h, I x3.m.g.c, I x3.m.g.n, I x3.m.g.r, .slice p16 ((x3.m.g.o).length) c18, I x3.m.s, .slice p20 ((x3.k).length) c22, I v25] 37 (0, 0))])] ∧ (x3.k).length = (v26).length ∧ OwnC 4 p20 c22 v26 C27) ⟨_, _, _, C23, eo0_0, J, J, J, o23⟩ ?_ ?_))))))
 ·rintro fuel _ _ ⟨v25, v26, v28, C27, H1, rfl, rfl, hl27, o27⟩
  rcases fuel with _ | fuel
  ·rw [s_l7Clock_L0.eq_1] at H1; cases H1
  rw [s_l7Clock_L0.eq_2] at H1
  obtain ⟨x29, e29, H1⟩ := bS H1
  refine csr (oM J (oM J (oD (stp_mul J J e29) J (oW J (nn (cH J H1 (fun H1 => ?_) (fun H1 => ?_)))))))
  ·obtain ⟨x31, e31, H1⟩ := bS H1
   obtain ⟨x32, e32, H1⟩ := bS H1
   refine kq (cw_block (sr (oAL 10 u37 J ts3 J 7 J (ss J (oM J (oP e31 J (oM J (oD (stp_rem J J e32) J ?_))))))))
   obtain ⟨x33, e33, H1⟩ := bS H1
   refine oA 10 u37 J ts3 J (oC11 7 ts3 J J (nq (oA 0 u37 J ts34 J (oA 0 u34 J ts26 J (oAL 1 u26 J ts24 J 7 J (oM J (oD (stp_indexAddr u24 ts57 (by decide) J J J (Rdb.own (id := 3) J o11) e33) J (oA 0 u57 J ts4 J (oD (stp_load1 ts4 J (Cells.el (Rdb.own (id := 3) J o11) (by decide) e33 0 1 J)) J (oK J ?_))))))))))
   obtain ⟨y34, ey34, H1⟩ := bS H1
   refine oM J (ow_cutY 5 40 y34 ?_ ?_)
   ·rcases Bool.eq_false_or_eq_true (!x33.u) with hy34 | hy34
    ·have ey34 := cond_t ey34 hy34
     refine oO J hy34 J (oO J hy34 J (oO J hy34 J (oO J hy34 J (oD (stp_pick_t J hy34 J) J ?_))))
     obtain rfl := sI ey34
     exact ow_nil (jy 5 0)
    have ey34 := cond_f ey34 hy34
    obtain ⟨x35, e35, ey34⟩ := bS ey34
    refine oG J hy34 (fA 0 u37 J ts34 J J J) J (oG J hy34 (stp_loadN (us := [_, _, _, _, _, _, _, _, _]) ts34 J (Cells.box (id := 7) J 9 J)) J (oG J hy34 (mv J) J (ow_eff (.some J hy34) (uC 8 cf116 (fun w hw => c_s_l7Wired fl w x3.m v25 J (owp 2 J o7 hw) J (owp 3 J o11 hw) J (owp 4 J o15 hw) J (owp 5 J o19 hw) x35 e35) (yB J J)) J ?_)))
    rintro _ _ ⟨_, ⟨rfl, rfl⟩, rfl⟩
    refine oD (stp_pick_f J hy34 J) J ?_
    obtain rfl := sI ey34
    exact ow_nil (jy 5 0)
   refine ow_nil (kw_nx (cH J H1 (fun H1 => ?_) (fun H1 => ?_)))
   ·obtain ⟨x37, e37, H1⟩ := bS H1
    exact cw_exit (kw_nx_exit (kw_bl (kw_nx (cR (oM J (oP e37 J (oS J (ow_nil (ka ⟨_, _, _, C27, H1, J, J, (by simp [hl27]), o27⟩)))))))))
   obtain ⟨x38, e38, H1⟩ := bS H1
   refine kq (sr (oAL 9 u37 J ts35 J 7 J (oM J (oD (stp_indexAddr u35 ts4 (by decide) J (by simp [hl27]) J (Rdb.own (id := 6) J o27) e38) J (oD (stp_load1 ts4 J (Cells.el (Rdb.own (id := 6) J o27) (by decide) e38 0 1 J)) J (oK J (nn (cH J H1 (fun H1 => ?_) (fun H1 => ?_)))))))))
   ·refine sr (oB11 7 ts37 J (oM J (oC11 1 ts37 J J (sR J (kw_bl_ret (kR (ar (kw_bl_ret (xr (kR ?_))))))))))
    obtain rfl := sI H1
    obtain rfl := sI H0
    exact kr results79 (.cons (.cellN (us := [_, _, _, _, _, _, _, _, _, _, _]) ts37 J (Cells.box (id := 1) J 11 J)) (rT J)) [2, 3, 4, 5, 6] (sl J o7 (sl J o11 (sl J o15 (sl J o19 (sl (by simp [hl27]) o27 ⟨J, J⟩)))))
   refine kz (cR (oAL 9 u37 J ts35 J 7 J (oM J (oD (stp_indexAddr u35 ts4 (by decide) J (by simp [hl27]) J (Rdb.own (id := 6) J o27) e38) J (oF (stpU_storeEl (id := 6) (i := 0) false (by decide) ts4 J J J o27 e38 J J J J) ?_)))))
   rintro _ _ ⟨C40, rfl, o40⟩
   obtain ⟨x41, e41, H1⟩ := bS H1
   exact ow_nil (kb (cR (oM J (oP e41 J (oS J (ow_nil (ka ⟨_, _, _, C40, H1, J, J, (by simp [hl27]), o40⟩)))))))
  refine cw_exit (kw_nx_exit (ax (kw_bl ?_)))
  obtain rfl := sI H1
  exact kx ⟨_, _, _, C27, J, J, J, (by simp [hl27]), o27⟩
 rintro _ _ ⟨v25, v26, v28, C27, rfl, rfl, rfl, hl27, o27⟩
 refine kw_nx (sr (oB11 7 ts37 J (oC11 1 ts37 J J (sn J (cw_ret ?_)))))
 obtain rfl := sI H0
 exact kr results79 (.cons (.cellN (us := [_, _, _, _, _, _, _, _, _, _, _]) ts37 J (Cells.box (id := 1) J 11 J)) (rT J)) [2, 3, 4, 5, 6] (sl J o7 (sl J o11 (sl J o15 (sl J o19 (sl (by simp [hl27]) o27 ⟨J, J⟩)))))

theorem c_s_l7Bring (fl : Nat) (w : World) (a0 : Mm) (a1 : Int) (a2 : Int) (hn0_0 : n0_0 = (a0.m.t.b).length) (hr0_0 : RO w [] (RdL p0_0 c0_0 a0.m.t.b)) (hn0_1 : n0_1 = (a0.m.t.f).length) (hr0_1 : RO w [] (RdL p0_1 c0_1 a0.m.t.f)) (hn0_2 : n0_2 = (a0.m.c.l).length) (hr0_2 : RO w [] (RdL p0_2 c0_2 a0.m.c.l)) (hn0_3 : n0_3 = (a0.m.g.o).length) (hr0_3 : RO w [] (RdL p0_3 c0_3 a0.m.g.o)) (hn0_4 : n0_4 = (a0.k).length) (hr0_4 : RO w [] (RdL p0_4 c0_4 a0.k)) (r : Mm × Bool) (H0 : s_l7Bring fl a0 a1 a2 = some r) :
  Ct prog 48 [.agg #[.slice p0_0 n0_0 c0_0, .slice p0_1 n0_1 c0_1, .slice p0_2 n0_2 c0_2, I a0.m.c.h, I a0.m.g.c, I a0.m.g.n, I a0.m.g.r, .slice p0_3 n0_3 c0_3, I a0.m.s, .slice p0_4 n0_4 c0_4, I a0.h], I a1, I a2] w [] (fun rv h' => SL 3 r.1.m.t.b fun x0 y0 z0 C0 => SL 57 r.1.m.t.f fun x1 y1 z1 C1 => SL 104 r.1.m.c.l fun x2 y2 z2 C2 => SL 70 r.1.m.g.o fun x3 y3 z3 C3 => SL 4 r.1.k fun x4 y4 z4 C4 => rv = .tuple #[.agg #[.slice x0 y0 z0, .slice x1 y1 z1, .slice x2 y2 z2, I r.1.m.c.h, I r.1.m.g.c, I r.1.m.g.n, I r.1.m.g.r, .slice x3 y3 z3, I r.1.m.s, .slice x4 y4 z4, I r.1.h], .bool r.2] ∧ h' = [(0, C0), (1, C1), (2, C2), (3, C3), (4, C4)]) := by
 subst hn0_0 hn0_1 hn0_2 hn0_3 hn0_4
 unfold s_l7Bring at H0
 refine ct_of_cw func48 J ntmps48 J (Sat.refl _ _) ?_
 refine sr (oE (stpU_box 0 J J) J ?_)
 rintro _ _ ⟨b1, rfl, rfl⟩
 refine oE (stpU_alloc 1 tz37 J) J ?_
 rintro _ _ ⟨b2, rfl, rfl⟩
 obtain ⟨x3, e3, H0⟩ := bS H0
 refine ss J (oB11 0 ts37 J (oE (uC 2 cf27 (fun w hw => c_s_l7Copy fl w a0 J (rp hr0_0 hw) J (rp hr0_1 hw) J (rp hr0_2 hw) J (rp hr0_3 hw) J (rp hr0_4 hw) x3 e3) (yA J)) J ?_))
 rintro _ _ ⟨_, ⟨p4, _, c6, C7, rfl, o7, p8, _, c10, C11, rfl, o11, p12, _, c14, C15, rfl, o15, p16, _, c18, C19, rfl, o19, p20, _, c22, C23, rfl, o23, rfl, rfl⟩, rfl⟩
 refine oE (stpU_alloc 7 tz37 J) J ?_
 rintro _ _ ⟨b24, rfl, rfl⟩
 obtain ⟨x25, e25, H0⟩ := bS H0
 refine oC11 7 ts37 J J (ns (oA 0 u37 J ts34 J (oA 0 u34 J ts26 J (oB2 0 ts26 J (oE (uC 8 cf78 (fun w hw => c_s_l7Free fl w a0.m.t J (rp hr0_0 hw) J (rp hr0_1 hw) x25 e25) (yA J)) J ?_)))))
 rintro _ _ ⟨_, ⟨rfl, rfl⟩, rfl⟩
 refine sq J (oM J (oW J (nn (cH J H0 (fun H0 => ?_) (fun H0 => ?_)))))
 ·obtain ⟨x27, e27, H0⟩ := bS H0
  refine sr (oB11 0 ts37 J (oE (uC 8 cf79 (fun w hw => c_s_l7Clock fl w a0 J (rp hr0_0 hw) J (rp hr0_1 hw) J (rp hr0_2 hw) J (rp hr0_3 hw) J (rp hr0_4 hw) x27 e27) (yA J)) J ?_))
  rintro _ _ ⟨_, ⟨p28, _, c30, C31, rfl, o31, p32, _, c34, C35, rfl, o35, p36, _, c38, C39, rfl, o39, p40, _, c42, C43, rfl, o43, p44, _, c46, C47, rfl, o47, rfl, rfl⟩, rfl⟩
  refine oMTT J J J (oC11 7 ts37 J J (sq J (oM J (oW J (nn (cH J H0 (fun H0 => ?_) (fun H0 => ?_)))))))
  ·refine sr (oD (stp_build (cs := #[sN, sN, sN, I 0, I 0, I 0, I 0, sN, I 0, sN, I 0]) sE bt37_19) J (oC11 1 ts37 J J (sR J (kR (kA 13 (kA 14 (kA 15 (kA 16 (kA 17 ?_)))))))))
   obtain rfl := sI H0
   exact kr results48 (.cons (.cellN (us := [_, _, _, _, _, _, _, _, _, _, _]) ts37 J (Cells.box (id := 1) J 11 J)) (rT J)) [13, 14, 15, 16, 17] (sl J oN0 (sl J oN0 (sl J oN0 (sl J oN0 (sl J oN0 ⟨J, J⟩)))))
  obtain ⟨x49, e49, H0⟩ := bS H0
  refine ks (oAL 9 u37 J ts35 J 7 J (oM J (oD (stp_indexAddr u35 ts4 (by decide) J J J (Rdb.own (id := 12) J o47) e49) J (oF (stpU_storeEl (id := 12) (i := 0) false (by decide) ts4 J J J o47 e49 J J J J) ?_))))
  rintro _ _ ⟨C50, rfl, o50⟩
  obtain ⟨x51, e51, H0⟩ := bS H0
  obtain ⟨x52, e52, H0⟩ := bS H0
  refine nn (cq (rdt g_mixed [.n 0, .n 1, .n 2, .n 3, .n 4, .n 5, .n 6, .n 7, .n 8, .n 9, .d 10, .d 14, .o 10, .n 11, .n 12, .n 13, .o 14, .n 15, .n 16] ⟨[[],[7],[],[],[],[7],[],[9],[],[9],[8,9,10,11],[],[],[],[],[22]], [[],[],[],[],[],[],[],[],[],[],[18,19,20,21],[],[],[],[22],[22]], [10,14]⟩ (dA 0 J u37 J ts34 J (dB9 7 ts34 J (dA 0 J u37 J ts34 J (dA 0 J u34 J ts26 J (dA 1 J u26 J ts24 J (dL 7 ts24 J (dM J (dD J (stp_indexAddr u24 ts57 (by decide) J J J (Rdb.own (id := 9) J o35) e51) (dA 1 J u57 J ts50 J (dD J (stp_loadN (us := [_, _]) ts50 J (Cells.el (Rdb.own (id := 9) J o35) (by decide) e51 1 2 J)) (dq J (fun hh => uC 18 cf80 (fun w hw => c_s_TakePage fl w x27.1.m x51.k J (owp 8 (hh _ _ J) o31 hw) J (owp 9 (hh _ _ J) o35 hw) J (owp 10 (hh _ _ J) o39 hw) J (owp 11 (hh _ _ J) o43 hw) x52 e52) (yB J J)) (by rintro _ _ ⟨_, ⟨_, _, _, _, _, _, _, _, _, _, _, _, _, _, _, _, _, _, _, _, _, _, _, _, rfl, rfl⟩, rfl⟩; rfl) ?_)))))))))))))
  refine dq J (fun hh => stpU_alloc 22 tz34 J) (by rintro _ _ ⟨_, rfl, rfl⟩; rfl) (dp J ?_)
  rintro _ _ ⟨_, ⟨p53, _, c55, C56, rfl, o56, p57, _, c59, C60, rfl, o60, p61, _, c63, C64, rfl, o64, p65, _, c67, C68, rfl, o68, rfl, rfl⟩, rfl⟩
  refine dM J (dT J (dT J (dp J ?_)))
  rintro _ _ ⟨b69, rfl, rfl⟩
  refine dC9 22 ts34 J J J (dS J (dn (kw_nx (cR (oB9 22 ts34 J (oA 0 u37 J ts34 J (oC11 7 ts34 J J (nn (cq (rdt g_mixed [.n 0, .n 1, .n 2, .n 3, .n 4, .n 5, .n 6, .n 7, .n 8, .d 9, .d 13, .o 9, .n 10, .n 11, .n 12, .o 13, .n 14, .n 15] ⟨[[],[7],[],[],[7],[],[],[],[],[18,19,20,21],[],[],[],[],[27]], [[],[],[],[],[],[],[],[],[],[23,24,25,26],[],[],[],[27],[27]], [9,13]⟩ (dA 0 J u37 J ts34 J (dB9 7 ts34 J (dA 0 J u37 J ts34 J ?_)))))))))))))
  obtain ⟨x70, e70, H0⟩ := bS H0
  obtain ⟨x71, e71, H0⟩ := bS H0
  refine dA 8 J u34 J ts3 J (dL 7 ts3 J (dM J (dV J (fun hh => uC 23 cf47 (fun w hw => c_s_KeyFor fl w x52.1.s a1 x70 e70) (yB J J)) J (dM J (dM J (dq J (fun hh => uC 23 cf81 (fun w hw => c_s_PutPage fl w x52.1 x70 x27.2 a2 J (owp 18 (hh _ _ J) o56 hw) J (owp 19 (hh _ _ J) o60 hw) J (owp 20 (hh _ _ J) o64 hw) J (owp 21 (hh _ _ J) o68 hw) x71 e71) (yD J J J J)) (by rintro _ _ ⟨_, ⟨_, _, _, _, _, _, _, _, _, _, _, _, _, _, _, _, _, _, _, _, _, _, _, _, rfl, rfl⟩, rfl⟩; rfl) (dq J (fun hh => stpU_alloc 27 tz34 J) (by rintro _ _ ⟨_, rfl, rfl⟩; rfl) (dp J ?_))))))))
  rintro _ _ ⟨_, ⟨p72, _, c74, C75, rfl, o75, p76, _, c78, C79, rfl, o79, p80, _, c82, C83, rfl, o83, p84, _, c86, C87, rfl, o87, rfl, rfl⟩, rfl⟩
  refine dM J (dT J (dT J (dp J ?_)))
  rintro _ _ ⟨b88, rfl, rfl⟩
  refine dC9 27 ts34 J J J (dS J (dn (kw_nx (sr (oB9 27 ts34 J (oA 0 u37 J ts34 J (oC11 7 ts34 J J (ns (oB11 7 ts37 J (oM J (oC11 1 ts37 J J (oS J ?_))))))))))))
  refine nn (cw_ret ?_)
  obtain rfl := sI H0
  exact kr results48 (.cons (.cellN (us := [_, _, _, _, _, _, _, _, _, _, _]) ts37 J (Cells.box (id := 1) J 11 J)) (rT J)) [23, 24, 25, 26, 12] (sl J o75 (sl J o79 (sl J o83 (sl J o87 (sl (by simp) o50 ⟨J, J⟩)))))
 obtain ⟨x89, e89, H0⟩ := bS H0
 obtain ⟨x90, e90, H0⟩ := bS H0
 refine kq (rdt g_mixed [.n 0, .n 1, .n 2, .n 3, .n 4, .n 5, .n 6, .n 7, .n 8, .d 9, .d 13, .o 9, .n 10, .n 11, .n 12, .o 13, .n 14, .n 15] ⟨[[],[7],[],[],[7],[],[],[],[],[2,3,4,5],[],[],[],[],[32]], [[],[],[],[],[],[],[],[],[],[28,29,30,31],[],[],[],[32],[32]], [9,13]⟩ (dA 0 J u37 J ts34 J (dB9 7 ts34 J (dA 0 J u37 J ts34 J (dA 8 J u34 J ts3 J (dL 7 ts3 J (dM J (dV J (fun hh => uC 28 cf47 (fun w hw => c_s_KeyFor fl w x3.m.s a1 x89 e89) (yB J J)) J (dM J (dM J (dq J (fun hh => uC 28 cf81 (fun w hw => c_s_PutPage fl w x3.m x89 x25 a2 J (owp 2 (hh _ _ J) o7 hw) J (owp 3 (hh _ _ J) o11 hw) J (owp 4 (hh _ _ J) o15 hw) J (owp 5 (hh _ _ J) o19 hw) x90 e90) (yD J J J J)) (by rintro _ _ ⟨_, ⟨_, _, _, _, _, _, _, _, _, _, _, _, _, _, _, _, _, _, _, _, _, _, _, _, rfl, rfl⟩, rfl⟩; rfl) ?_)))))))))))
 refine dq J (fun hh => stpU_alloc 32 tz34 J) (by rintro _ _ ⟨_, rfl, rfl⟩; rfl) (dp J ?_)
 rintro _ _ ⟨_, ⟨p91, _, c93, C94, rfl, o94, p95, _, c97, C98, rfl, o98, p99, _, c101, C102, rfl, o102, p103, _, c105, C106, rfl, o106, rfl, rfl⟩, rfl⟩
 refine dM J (dT J (dT J (dp J ?_)))
 rintro _ _ ⟨b107, rfl, rfl⟩
 refine dC9 32 ts34 J J J (dS J (dn (kw_nx (sr (oB9 32 ts34 J (oA 0 u37 J ts34 J (oC11 7 ts34 J J (ns (oB11 7 ts37 J (oM J (oC11 1 ts37 J J (oS J ?_))))))))))))
 refine nn (cw_ret ?_)
 obtain rfl := sI H0
 exact kr results48 (.cons (.cellN (us := [_, _, _, _, _, _, _, _, _, _, _]) ts37 J (Cells.box (id := 1) J 11 J)) (rT J)) [28, 29, 30, 31, 6] (sl J o94 (sl J o98 (sl J o102 (sl J o106 (sl J o23 ⟨J, J⟩)))))

theorem c_s_UsePage (fl : Nat) (w : World) (a0 : Mm) (a1 : Int) (a2 : Int) (a3 : Int) (hn0_0 : n0_0 = (a0.m.t.b).length) (hr0_0 : RO w [] (RdL p0_0 c0_0 a0.m.t.b)) (hn0_1 : n0_1 = (a0.m.t.f).length) (hr0_1 : RO w [] (RdL p0_1 c0_1 a0.m.t.f)) (hn0_2 : n0_2 = (a0.m.c.l).length) (hr0_2 : RO w [] (RdL p0_2 c0_2 a0.m.c.l)) (hn0_3 : n0_3 = (a0.m.g.o).length) (hr0_3 : RO w [] (RdL p0_3 c0_3 a0.m.g.o)) (hn0_4 : n0_4 = (a0.k).length) (hr0_4 : RO w [] (RdL p0_4 c0_4 a0.k)) (r : Mm × Int × Int × Bool) (H0 : s_UsePage fl a0 a1 a2 a3 = some r) :
  Ct prog 19 [.agg #[.slice p0_0 n0_0 c0_0, .slice p0_1 n0_1 c0_1, .slice p0_2 n0_2 c0_2, I a0.m.c.h, I a0.m.g.c, I a0.m.g.n, I a0.m.g.r, .slice p0_3 n0_3 c0_3, I a0.m.s, .slice p0_4 n0_4 c0_4, I a0.h], I a1, I a2, I a3] w [] (fun rv h' => SL 3 r.1.m.t.b fun x0 y0 z0 C0 => SL 57 r.1.m.t.f fun x1 y1 z1 C1 => SL 104 r.1.m.c.l fun x2 y2 z2 C2 => SL 70 r.1.m.g.o fun x3 y3 z3 C3 => SL 4 r.1.k fun x4 y4 z4 C4 => rv = .tuple #[.agg #[.slice x0 y0 z0, .slice x1 y1 z1, .slice x2 y2 z2, I r.1.m.c.h, I r.1.m.g.c, I r.1.m.g.n, I r.1.m.g.r, .slice x3 y3 z3, I r.1.m.s, .slice x4 y4 z4, I r.1.h], I r.2.1, I r.2.2.1, .bool r.2.2.2] ∧ h' = [(0, C0), (1, C1), (2, C2), (3, C3), (4, C4)]) := by
 subst hn0_0 hn0_1 hn0_2 hn0_3 hn0_4
 unfold s_UsePage at H0
 refine ct_of_cw func19 J ntmps19 J (Sat.refl _ _) ?_
 refine sr (oE (stpU_box 0 J J) J ?_)
 rintro _ _ ⟨b1, rfl, rfl⟩
 refine oE (stpU_alloc 1 tz37 J) J ?_
 rintro _ _ ⟨b2, rfl, rfl⟩
 obtain ⟨x3, e3, H0⟩ := bS H0
 refine oS J (oS J (sq J (oB11 0 ts37 J (oE (uC 2 cf26 (fun w hw => c_s_MemoryValid fl w a0 J (rp hr0_0 hw) J (rp hr0_1 hw) J (rp hr0_2 hw) J (rp hr0_3 hw) J (rp hr0_4 hw) x3 e3) (yA J)) J ?_))))
 rintro _ _ ⟨_, ⟨rfl, rfl⟩, rfl⟩
 obtain ⟨y4, ey4, H0⟩ := bS H0
 refine oK J (oM J (ow_cutY 4 29 y4 ?_ ?_))
 ·rcases Bool.eq_false_or_eq_true (!x3) with hy4 | hy4
  ·have ey4 := cond_t ey4 hy4
   refine oO J hy4 J (oO J hy4 J (oO J hy4 J (oD (stp_pick_t J hy4 J) J ?_)))
   obtain rfl := sI ey4
   exact ow_nil (jy 4 0)
  have ey4 := cond_f ey4 hy4
  obtain ⟨x5, e5, ey4⟩ := bS ey4
  refine oG J hy4 (mv J) J (ow_eff (.some J hy4) (uC 2 cf44 (fun w hw => c_s_l1Page fl w a1 x5 e5) (yA J)) J ?_)
  rintro _ _ ⟨_, ⟨rfl, rfl⟩, rfl⟩
  refine oG J hy4 (stp_not J) J (oD (stp_pick_f J hy4 J) J ?_)
  obtain rfl := sI ey4
  exact ow_nil (jy 4 0)
 obtain ⟨y6, ey6, H0⟩ := bS H0
 refine oM J (ow_cutY 4 34 y6 ?_ ?_)
 ·rcases Bool.eq_false_or_eq_true y4 with hy6 | hy6
  ·have ey6 := cond_t ey6 hy6
   refine oO J hy6 J (oO J hy6 J (oO J hy6 J (oD (stp_pick_t J hy6 J) J ?_)))
   obtain rfl := sI ey6
   exact ow_nil (jy 4 0)
  have ey6 := cond_f ey6 hy6
  obtain ⟨x7, e7, ey6⟩ := bS ey6
  refine oG J hy6 (mv J) J (ow_eff (.some J hy6) (uC 2 cf45 (fun w hw => c_s_RightsValid fl w a2 x7 e7) (yA J)) J ?_)
  rintro _ _ ⟨_, ⟨rfl, rfl⟩, rfl⟩
  refine oG J hy6 (stp_not J) J (oD (stp_pick_f J hy6 J) J ?_)
  obtain rfl := sI ey6
  exact ow_nil (jy 4 0)
 obtain ⟨y8, ey8, H0⟩ := bS H0
 refine oM J (ow_cutY 4 39 y8 ?_ ?_)
 ·rcases Bool.eq_false_or_eq_true y6 with hy8 | hy8
  ·have ey8 := cond_t ey8 hy8
   refine oO J hy8 J (oO J hy8 J (oO J hy8 J (oD (stp_pick_t J hy8 J) J ?_)))
   obtain rfl := sI ey8
   exact ow_nil (jy 4 0)
  have ey8 := cond_f ey8 hy8
  obtain ⟨x9, e9, ey8⟩ := bS ey8
  refine oG J hy8 (mv J) J (ow_eff (.some J hy8) (uC 2 cf45 (fun w hw => c_s_RightsValid fl w a3 x9 e9) (yA J)) J ?_)
  rintro _ _ ⟨_, ⟨rfl, rfl⟩, rfl⟩
  refine oG J hy8 (stp_not J) J (oD (stp_pick_f J hy8 J) J ?_)
  obtain rfl := sI ey8
  exact ow_nil (jy 4 0)
 refine ow_nil (kw_nx (cH J H0 (fun H0 => ?_) (fun H0 => ?_)))
 ·refine sr (oD (stp_build (cs := #[sN, sN, sN, I 0, I 0, I 0, I 0, sN, I 0, sN, I 0]) sE bt37_19) J (oC11 1 ts37 J J (oS J (oS J (sR J (kA 2 (kA 3 (kA 4 (kA 5 (kA 6 ?_))))))))))
  obtain rfl := sI H0
  exact kr results19 (.cons (.cellN (us := [_, _, _, _, _, _, _, _, _, _, _]) ts37 J (Cells.box (id := 1) J 11 J)) (.cons (.tmp J) (.cons (.tmp J) (rT J)))) [2, 3, 4, 5, 6] (sl J oN0 (sl J oN0 (sl J oN0 (sl J oN0 (sl J oN0 ⟨J, J⟩)))))
 obtain ⟨x11, e11, H0⟩ := bS H0
 refine ks (oB11 0 ts37 J (oE (uC 7 cf27 (fun w hw => c_s_l7Copy fl w a0 J (rp hr0_0 hw) J (rp hr0_1 hw) J (rp hr0_2 hw) J (rp hr0_3 hw) J (rp hr0_4 hw) x11 e11) (yA J)) J ?_))
 rintro _ _ ⟨_, ⟨p12, _, c14, C15, rfl, o15, p16, _, c18, C19, rfl, o19, p20, _, c22, C23, rfl, o23, p24, _, c26, C27, rfl, o27, p28, _, c30, C31, rfl, o31, rfl, rfl⟩, rfl⟩
 refine oE (stpU_alloc 12 tz37 J) J ?_
 rintro _ _ ⟨b32, rfl, rfl⟩
 obtain ⟨x33, e33, H0⟩ := bS H0
 obtain ⟨x34, e34, H0⟩ := bS H0
 refine oC11 12 ts37 J J (nn (cq (rdt g_mixed (rn 0 14) ⟨[[],[],[0],[],[],[0]], [], []⟩ (dA 0 J u37 J ts34 J (dA 0 J u34 J ts26 J (dB2 0 ts26 J (dA 0 J u37 J ts34 J (dA 8 J u34 J ts3 J (dL 0 ts3 J (dM J (dV J (fun hh => uC 13 cf47 (fun w hw => c_s_KeyFor fl w a0.m.s a1 x33 e33) (yB J J)) J (dV J (fun hh => uC 13 cf46 (fun w hw => c_s_l3Find fl w a0.m.t x33 J (rp hr0_0 hw) J (rp hr0_1 hw) x34 e34) (yB J J)) J (dM J ?_)))))))))))))
 refine dT J (dT J (dS J (dS J (dn (kw_nx (sr (oM J (oW J (sq J (oM J ?_))))))))))
 refine nn (cH J H0 (fun H0 => ?_) (fun H0 => ?_))
 ·obtain ⟨x36, e36, H0⟩ := bS H0
  refine sr (oB11 0 ts37 J (oM J (oM J (oE (uC 13 cf48 (fun w hw => c_s_l7Bring fl w a0 a1 a3 J (rp hr0_0 hw) J (rp hr0_1 hw) J (rp hr0_2 hw) J (rp hr0_3 hw) J (rp hr0_4 hw) x36 e36) (yC J J J)) J ?_))))
  rintro _ _ ⟨_, ⟨p37, _, c39, C40, rfl, o40, p41, _, c43, C44, rfl, o44, p45, _, c47, C48, rfl, o48, p49, _, c51, C52, rfl, o52, p53, _, c55, C56, rfl, o56, rfl, rfl⟩, rfl⟩
  refine oMTT J J J (oE (stpU_alloc 18 tz37 J) J ?_)
  rintro _ _ ⟨b57, rfl, rfl⟩
  refine oC11 18 ts37 J J (sq J (oM J (oK J (nn (cH J H0 (fun H0 => ?_) (fun H0 => ?_))))))
  ·refine sr (oD (stp_build (cs := #[sN, sN, sN, I 0, I 0, I 0, I 0, sN, I 0, sN, I 0]) sE bt37_19) J (oC11 1 ts37 J J (oS J (oS J (sR J (kR (kA 19 (kA 20 (kA 21 (kA 22 ?_))))))))))
   refine kA 23 ?_
   obtain rfl := sI H0
   exact kr results19 (.cons (.cellN (us := [_, _, _, _, _, _, _, _, _, _, _]) ts37 J (Cells.box (id := 1) J 11 J)) (.cons (.tmp J) (.cons (.tmp J) (rT J)))) [19, 20, 21, 22, 23] (sl J oN0 (sl J oN0 (sl J oN0 (sl J oN0 (sl J oN0 ⟨J, J⟩)))))
  obtain ⟨x59, e59, H0⟩ := bS H0
  refine kz (cR (oB11 18 ts37 J (oC11 12 ts37 J J (ns (oA 0 u37 J ts34 J (oB9 12 ts34 J (oM J (oM J (oE (uC 24 cf49 (fun w hw => c_s_TouchPage fl w x36.1.m a1 a2 J (owp 13 J o40 hw) J (owp 14 J o44 hw) J (owp 15 J o48 hw) J (owp 16 J o52 hw) x59 e59) (yC J J J)) J ?_)))))))))
  rintro _ _ ⟨_, ⟨p60, _, c62, C63, rfl, o63, p64, _, c66, C67, rfl, o67, p68, _, c70, C71, rfl, o71, p72, _, c74, C75, rfl, o75, rfl, rfl⟩, rfl⟩
  refine oMTT J J J (oT J (oT J (oE (stpU_alloc 28 tz34 J) J ?_)))
  rintro _ _ ⟨b76, rfl, rfl⟩
  refine oC9 28 ts34 J J (oS J (oS J (ss J (oB9 28 ts34 J (oA 0 u37 J ts34 J (oC11 12 ts34 J J (ns (oAL 9 u37 J ts35 J 12 J (oM J ?_)))))))))
  obtain ⟨x77, e77, H0⟩ := bS H0
  refine oD (stp_indexAddr u35 ts4 (by decide) J J J (Rdb.own (id := 17) J o56) e77) J (oF (stpU_storeEl (id := 17) (i := 0) true (by decide) ts4 J J J o56 e77 J J J J) ?_)
  rintro _ _ ⟨C78, rfl, o78⟩
  obtain ⟨y79, ey79, H0⟩ := bS H0
  refine nq (oM J (oM J (ow_cutY 3 89 y79 ?_ ?_)))
  ·rcases Bool.eq_false_or_eq_true (decide (x34.1 < 0)) with hy79 | hy79
   ·have ey79 := cond_t ey79 hy79
    refine oG J hy79 (mv J) J (oG J hy79 (stp_eql J J) J (oD (stp_pick_t J hy79 J) J ?_))
    obtain rfl := sI ey79
    exact ow_nil (jy 3 0)
   have ey79 := cond_f ey79 hy79
   refine oO J hy79 J (oO J hy79 J (oD (stp_pick_f J hy79 J) J ?_))
   obtain rfl := sI ey79
   exact ow_nil (jy 3 0)
  refine ow_nil (kw_nx (cH J H0 (fun H0 => ?_) (fun H0 => ?_)))
  ·refine cR (ss J (oB11 12 ts37 J (oM J (oM J (oC11 1 ts37 J J (oS J (oS J (sn J (cw_ret ?_)))))))))
   obtain rfl := sI H0
   exact kr results19 (.cons (.cellN (us := [_, _, _, _, _, _, _, _, _, _, _]) ts37 J (Cells.box (id := 1) J 11 J)) (.cons (.tmp J) (.cons (.tmp J) (rT J)))) [24, 25, 26, 27, 17] (sl J o63 (sl J o67 (sl J o71 (sl J o75 (sl (by simp) o78 ⟨J, J⟩)))))
  refine ks (oB11 12 ts37 J (oM J (oM J (oC11 1 ts37 J J (oS J (oS J (sn J (cw_ret ?_))))))))
  obtain rfl := sI H0
  exact kr results19 (.cons (.cellN (us := [_, _, _, _, _, _, _, _, _, _, _]) ts37 J (Cells.box (id := 1) J 11 J)) (.cons (.tmp J) (.cons (.tmp J) (rT J)))) [24, 25, 26, 27, 17] (sl J o63 (sl J o67 (sl J o71 (sl J o75 (sl (by simp) o78 ⟨J, J⟩)))))
 obtain ⟨x81, e81, H0⟩ := bS H0
 refine ks (oA 0 u37 J ts34 J (oB9 12 ts34 J (oM J (oM J (oE (uC 29 cf49 (fun w hw => c_s_TouchPage fl w x11.m a1 a2 J (owp 7 J o15 hw) J (owp 8 J o19 hw) J (owp 9 J o23 hw) J (owp 10 J o27 hw) x81 e81) (yC J J J)) J ?_)))))
 rintro _ _ ⟨_, ⟨p82, _, c84, C85, rfl, o85, p86, _, c88, C89, rfl, o89, p90, _, c92, C93, rfl, o93, p94, _, c96, C97, rfl, o97, rfl, rfl⟩, rfl⟩
 refine oMTT J J J (oT J (oT J (oE (stpU_alloc 33 tz34 J) J ?_)))
 rintro _ _ ⟨b98, rfl, rfl⟩
 refine oC9 33 ts34 J J (oS J (oS J (ss J (oB9 33 ts34 J (oA 0 u37 J ts34 J (oC11 12 ts34 J J (ns (oAL 9 u37 J ts35 J 12 J (oM J ?_)))))))))
 obtain ⟨x99, e99, H0⟩ := bS H0
 refine oD (stp_indexAddr u35 ts4 (by decide) J J J (Rdb.own (id := 11) J o31) e99) J (oF (stpU_storeEl (id := 11) (i := 0) true (by decide) ts4 J J J o31 e99 J J J J) ?_)
 rintro _ _ ⟨C100, rfl, o100⟩
 obtain ⟨y101, ey101, H0⟩ := bS H0
 refine nq (oM J (oM J (ow_cutY 3 89 y101 ?_ ?_)))
 ·rcases Bool.eq_false_or_eq_true (decide (x34.1 < 0)) with hy101 | hy101
  ·have ey101 := cond_t ey101 hy101
   refine oG J hy101 (mv J) J (oG J hy101 (stp_eql J J) J (oD (stp_pick_t J hy101 J) J ?_))
   obtain rfl := sI ey101
   exact ow_nil (jy 3 0)
  have ey101 := cond_f ey101 hy101
  refine oO J hy101 J (oO J hy101 J (oD (stp_pick_f J hy101 J) J ?_))
  obtain rfl := sI ey101
  exact ow_nil (jy 3 0)
 refine ow_nil (kw_nx (cH J H0 (fun H0 => ?_) (fun H0 => ?_)))
 ·refine cR (ss J (oB11 12 ts37 J (oM J (oM J (oC11 1 ts37 J J (oS J (oS J (sn J (cw_ret ?_)))))))))
  obtain rfl := sI H0
  exact kr results19 (.cons (.cellN (us := [_, _, _, _, _, _, _, _, _, _, _]) ts37 J (Cells.box (id := 1) J 11 J)) (.cons (.tmp J) (.cons (.tmp J) (rT J)))) [29, 30, 31, 32, 11] (sl J o85 (sl J o89 (sl J o93 (sl J o97 (sl (by simp) o100 ⟨J, J⟩)))))
 refine ks (oB11 12 ts37 J (oM J (oM J (oC11 1 ts37 J J (oS J (oS J (sn J (cw_ret ?_))))))))
 obtain rfl := sI H0
 exact kr results19 (.cons (.cellN (us := [_, _, _, _, _, _, _, _, _, _, _]) ts37 J (Cells.box (id := 1) J 11 J)) (.cons (.tmp J) (.cons (.tmp J) (rT J)))) [29, 30, 31, 32, 11] (sl J o85 (sl J o89 (sl J o93 (sl J o97 (sl (by simp) o100 ⟨J, J⟩)))))

theorem c_s_UsePages (fl : Nat) (w : World) (a0 : Mm) (a1 : (List Int)) (hn0_0 : n0_0 = (a0.m.t.b).length) (hr0_0 : RO w [] (RdL p0_0 c0_0 a0.m.t.b)) (hn0_1 : n0_1 = (a0.m.t.f).length) (hr0_1 : RO w [] (RdL p0_1 c0_1 a0.m.t.f)) (hn0_2 : n0_2 = (a0.m.c.l).length) (hr0_2 : RO w [] (RdL p0_2 c0_2 a0.m.c.l)) (hn0_3 : n0_3 = (a0.m.g.o).length) (hr0_3 : RO w [] (RdL p0_3 c0_3 a0.m.g.o)) (hn0_4 : n0_4 = (a0.k).length) (hr0_4 : RO w [] (RdL p0_4 c0_4 a0.k)) (hn1_0 : n1_0 = (a1).length) (hr1_0 : RO w [] (RdL p1_0 c1_0 a1)) (r : Mm × (List Int) × Bool) (H0 : s_UsePages fl a0 a1 = some r) :
  Ct prog 10 [.agg #[.slice p0_0 n0_0 c0_0, .slice p0_1 n0_1 c0_1, .slice p0_2 n0_2 c0_2, I a0.m.c.h, I a0.m.g.c, I a0.m.g.n, I a0.m.g.r, .slice p0_3 n0_3 c0_3, I a0.m.s, .slice p0_4 n0_4 c0_4, I a0.h], .slice p1_0 n1_0 c1_0] w [] (fun rv h' => SL 3 r.1.m.t.b fun x0 y0 z0 C0 => SL 57 r.1.m.t.f fun x1 y1 z1 C1 => SL 104 r.1.m.c.l fun x2 y2 z2 C2 => SL 70 r.1.m.g.o fun x3 y3 z3 C3 => SL 4 r.1.k fun x4 y4 z4 C4 => SL 3 r.2.1 fun x5 y5 z5 C5 => rv = .tuple #[.agg #[.slice x0 y0 z0, .slice x1 y1 z1, .slice x2 y2 z2, I r.1.m.c.h, I r.1.m.g.c, I r.1.m.g.n, I r.1.m.g.r, .slice x3 y3 z3, I r.1.m.s, .slice x4 y4 z4, I r.1.h], .slice x5 y5 z5, .bool r.2.2] ∧ h' = [(0, C0), (1, C1), (2, C2), (3, C3), (4, C4), (5, C5)]) := by
 subst hn0_0 hn0_1 hn0_2 hn0_3 hn0_4 hn1_0
 unfold s_UsePages at H0
 refine ct_of_cw func10 J ntmps10 J (Sat.refl _ _) ?_
 refine sr (oE (stpU_box 0 J J) J ?_)
 rintro _ _ ⟨b1, rfl, rfl⟩
 refine oE (stpU_alloc 1 tz37 J) J ?_
 rintro _ _ ⟨b2, rfl, rfl⟩
 obtain ⟨x3, e3, H0⟩ := bS H0
 refine oS J (sq J (oB11 0 ts37 J (oE (uC 2 cf26 (fun w hw => c_s_MemoryValid fl w a0 J (rp hr0_0 hw) J (rp hr0_1 hw) J (rp hr0_2 hw) J (rp hr0_3 hw) J (rp hr0_4 hw) x3 e3) (yA J)) J ?_)))
 rintro _ _ ⟨_, ⟨rfl, rfl⟩, rfl⟩
 obtain ⟨y4, ey4, H0⟩ := bS H0
 refine oK J (oM J (ow_cutY 4 21 y4 ?_ ?_))
 ·rcases Bool.eq_false_or_eq_true (!x3) with hy4 | hy4
  ·have ey4 := cond_t ey4 hy4
   refine oO J hy4 J (oO J hy4 J (oO J hy4 J (oD (stp_pick_t J hy4 J) J ?_)))
   obtain rfl := sI ey4
   exact ow_nil (jy 4 0)
  have ey4 := cond_f ey4 hy4
  refine oG J hy4 (mv J) J (oG J hy4 (stp_len u23 J) J (oG J hy4 (stp_gtr J J) J (oD (stp_pick_f J hy4 J) J ?_)))
  obtain rfl := sI ey4
  exact ow_nil (jy 4 0)
 refine ow_nil (kw_nx (cH J H0 (fun H0 => ?_) (fun H0 => ?_)))
 ·refine sr (oD (stp_build (cs := #[sN, sN, sN, I 0, I 0, I 0, I 0, sN, I 0, sN, I 0]) sE bt37_19) J (oE (stpU_lit0 sl23 2) J ?_))
  rintro _ _ ⟨p6, C7, rfl, rfl, o7⟩
  refine oC11 1 ts37 J J (oS J (sR J (kA 3 (kA 4 (kA 5 (kA 6 (kA 7 ?_)))))))
  obtain rfl := sI H0
  exact kr results10 (.cons (.cellN (us := [_, _, _, _, _, _, _, _, _, _, _]) ts37 J (Cells.box (id := 1) J 11 J)) (.cons (.tmp J) (rT J))) [3, 4, 5, 6, 7, 2] (sl J oN0 (sl J oN0 (sl J oN0 (sl J oN0 (sl J oN0 (sl (by simp) o7 ⟨J, J⟩))))))
 obtain ⟨x8, e8, H0⟩ := bS H0
 refine ks (oB11 0 ts37 J (oE (uC 8 cf27 (fun w hw => c_s_l7Copy fl w a0 J (rp hr0_0 hw) J (rp hr0_1 hw) J (rp hr0_2 hw) J (rp hr0_3 hw) J (rp hr0_4 hw) x8 e8) (yA J)) J ?_))
 rintro _ _ ⟨_, ⟨p9, _, c11, C12, rfl, o12, p13, _, c15, C16, rfl, o16, p17, _, c19, C20, rfl, o20, p21, _, c23, C24, rfl, o24, p25, _, c27, C28, rfl, o28, rfl, rfl⟩, rfl⟩
 refine oE (stpU_alloc 13 tz37 J) J ?_
 rintro _ _ ⟨b29, rfl, rfl⟩
 obtain ⟨x30, e30, H0⟩ := bS H0
 refine oC11 13 ts37 J J (ns (oE (stpU_make sl23 J 14 J J e30) J ?_))
 rintro _ _ ⟨p31, C32, rfl, rfl, o32⟩
 obtain ⟨o0_0, eo0_0, H0⟩ := bS H0
 refine sq J (sn J (lp (fun f a b c d e g i j k l m n p => s_UsePages_L0 fl a1 f a b c d e g i j k l m n p = some o0_0) (fun a b c d e g i j k l m n p => o0_0 = .out (a, b, c, d, e, g, i, j, k, l, m, n, p)) (fun R s h => ∃ v33 v38 v43 v44 v49 v50 v51 v52 v53 v58 v59 v64 v66 p34 n35 c36 C37 p39 n40 c41 C42 p45 n46 c47 C48 p54 n55 c56 C57 p60 n61 c62 C63 C65, R v33 v38 v43 v44 v49 v50 v51 v52 v53 v58 v59 v64 v66 ∧ s = [(1, .slice p1_0 ((a1).length) c1_0), (4, .pointer (some ⟨b2, 0, none⟩)), (7, .pointer (some ⟨b29, 0, none⟩)), (8, .slice p31 x30 x30), (9, I v66)] ∧ h = [(1, [(b2, .cells #[sN, sN, sN, I 0, I 0, I 0, I 0, sN, I 0, sN, I 0] 37 (0, 0))]), (8, C37), (9, C42), (10, C48), (11, C57), (12, C63), (13, [(b29, .cells #[.slice p34 n35 c36, .slice p39 n40 c41, .slice p45 n46 c47, I v49, I v50, I v51, I v52, .slice p54 n55 c56, I v58, .slice p60 n61 c62, I v43] 37 (0, 0))]), (14, C65)] ∧ n35 = (v33).length ∧ OwnC 3 p34 c36 v33 C37 ∧ n40 = (v38).length ∧ OwnC 57 p39 c41 v38 C42 ∧ n46 = (v44).length ∧ OwnC 104 p45 c47 v44 C48 ∧ n55 = (v53).length ∧ OwnC 70 p54 c56 v53 C57 ∧ n61 = (v59).length ∧ OwnC 4 p60 c62 v59 C63 ∧ x30 = (v64).length ∧ OwnC 3 p31 x30 v64 C65) ⟨_, _, _, _, _, _, _, _, _, _, _, _, _, p9, ((x8.m.t.b).length), c11, C12, p13, ((x8.m.t.f).length), c15, C16, p17, ((x8.m.c.l).length), c19, C20, p21, ((x8.m.g.o).length), c23, C24, p25, ((x8.k).length), c27, C28, C32, eo0_0, J, J, J, o12, J, o16, J, o20, J, o24, J, o28, (by simp), o32⟩ ?_ ?_))
 ·rintro fuel _ _ ⟨v33, v38, v43, v44, v49, v50, v51, v52, v53, v58, v59, v64, v66, p34, _, c36, C37, p39, _, c41, C42, p45, _, c47, C48, p54, _, c56, C57, p60, _, c62, C63, C65, H1, rfl, rfl, rfl, o37, rfl, o42, rfl, o48, rfl, o57, rfl, o63, hl65, o65⟩
  rcases fuel with _ | fuel
  ·rw [s_UsePages_L0.eq_1] at H1; cases H1
  rw [s_UsePages_L0.eq_2] at H1
  refine csr (oM J (oM J (oD (stp_len u23 J) J (oW J (nn (cH J H1 (fun H1 => ?_) (fun H1 => ?_)))))))
  ·obtain ⟨x68, e68, H1⟩ := bS H1
   obtain ⟨x69, e69, H1⟩ := bS H1
   refine kq (cw_block (cq (rdt g_mixed [.n 0, .n 1, .n 2, .n 3, .n 4, .d 5, .d 11, .o 5, .n 6, .n 7, .n 8, .n 9, .n 10, .o 11, .n 12, .n 13, .n 14, .n 15] ⟨[[13],[],[],[],[],[8,9,10,11,12],[],[],[],[],[],[],[20]], [[],[],[],[],[],[15,16,17,18,19],[],[],[],[],[],[20],[20]], [5,11]⟩ (dB11 13 ts37 J (dM J (dM J (dD J (stp_indexAddr u23 ts3 (by decide) J J J (Rdb.ro hr1_0) e68) (dD J (stp_load1 ts3 J (Cells.el (Rdb.ro hr1_0) (by decide) e68 0 1 J)) (dq J (fun hh => uC 15 cf19 (fun w hw => c_s_UsePage fl w (⟨(⟨(⟨v33, v38⟩ : T), (⟨v44, v49⟩ : Ca), (⟨v50, v51, v52, v53⟩ : Tg), v58⟩ : Mc), v59, v43⟩ : Mm) x68 1 1 J (owp 8 (hh _ _ J) o37 hw) J (owp 9 (hh _ _ J) o42 hw) J (owp 10 (hh _ _ J) o48 hw) J (owp 11 (hh _ _ J) o57 hw) J (owp 12 (hh _ _ J) o63 hw) x69 e69) (yD J J J J)) (by rintro _ _ ⟨_, ⟨_, _, _, _, _, _, _, _, _, _, _, _, _, _, _, _, _, _, _, _, _, _, _, _, _, _, _, _, _, _, rfl, rfl⟩, rfl⟩; rfl) ?_)))))))))
   refine dq J (fun hh => stpU_alloc 20 tz37 J) (by rintro _ _ ⟨_, rfl, rfl⟩; rfl) (dp J ?_)
   rintro _ _ ⟨_, ⟨p70, _, c72, C73, rfl, o73, p74, _, c76, C77, rfl, o77, p78, _, c80, C81, rfl, o81, p82, _, c84, C85, rfl, o85, p86, _, c88, C89, rfl, o89, rfl, rfl⟩, rfl⟩
   refine dM J (dT J (dT J (dT J (dT J (dp J ?_)))))
   rintro _ _ ⟨b90, rfl, rfl⟩
   refine dC11 20 ts37 J J J (dS J (dS J (dS J (dn (kw_nx (csr (oM J (oK J (nn (cH J H1 (fun H1 => ?_) (fun H1 => ?_)))))))))))
   ·refine sr (oD (stp_build (cs := #[sN, sN, sN, I 0, I 0, I 0, I 0, sN, I 0, sN, I 0]) sE bt37_19) J (oE (stpU_lit0 sl23 21) J ?_))
    rintro _ _ ⟨p92, C93, rfl, rfl, o93⟩
    refine oC11 1 ts37 J J (oS J (sR J (kw_bl_ret (kR (ar (kw_bl_ret (xr (kR (kA 22 (kA 23 ?_))))))))))
    refine kA 24 (kA 25 (kA 26 ?_))
    obtain rfl := sI H1
    obtain rfl := sI H0
    exact kr results10 (.cons (.cellN (us := [_, _, _, _, _, _, _, _, _, _, _]) ts37 J (Cells.box (id := 1) J 11 J)) (.cons (.tmp J) (rT J))) [22, 23, 24, 25, 26, 21] (sl J oN0 (sl J oN0 (sl J oN0 (sl J oN0 (sl J oN0 (sl (by simp) o93 ⟨J, J⟩))))))
   obtain ⟨x94, e94, H1⟩ := bS H1
   obtain ⟨x95, e95, H1⟩ := bS H1
   refine ks (oB11 20 ts37 J (oC11 13 ts37 J J (nn (cR (oM J (oM J (oM J (oM J (oD (stp_indexAddr u23 ts3 (by decide) J (by simp [hl65]) J (Rdb.own (id := 14) J o65) e94) J (oD (stp_load1 ts3 J (Cells.el (Rdb.own (id := 14) J o65) (by decide) e94 0 1 J)) J (oP e95 J ?_)))))))))))
   refine oD (stp_indexAddr u23 ts3 (by decide) J (by simp [hl65]) J (Rdb.own (id := 14) J o65) e94) J (oF (stpU_storeEl (id := 14) (i := 0) x95 (by decide) ts3 J J J o65 e94 J J J J) ?_)
   rintro _ _ ⟨C96, rfl, o96⟩
   obtain ⟨x97, e97, H1⟩ := bS H1
   exact ow_nil (kb (cR (oM J (oP e97 J (oS J (ow_nil (kaS [1, 15, 16, 17, 18, 19, 13, 14] ⟨_, _, _, _, _, _, _, _, _, _, _, _, _, p70, ((x69.1.m.t.b).length), c72, C73, p74, ((x69.1.m.t.f).length), c76, C77, p78, ((x69.1.m.c.l).length), c80, C81, p82, ((x69.1.m.g.o).length), c84, C85, p86, ((x69.1.k).length), c88, C89, C96, H1, J, J, J, o73, J, o77, J, o81, J, o85, J, o89, (by simp [hl65]), o96⟩)))))))
  refine cw_exit (kw_nx_exit (ax (kw_bl ?_)))
  obtain rfl := sI H1
  exact kx ⟨_, _, _, _, _, _, _, _, _, _, _, _, _, p34, ((v33).length), c36, C37, p39, ((v38).length), c41, C42, p45, ((v44).length), c47, C48, p54, ((v53).length), c56, C57, p60, ((v59).length), c62, C63, C65, J, J, J, J, o37, J, o42, J, o48, J, o57, J, o63, (by simp [hl65]), o65⟩
 rintro _ _ ⟨v33, v38, v43, v44, v49, v50, v51, v52, v53, v58, v59, v64, v66, p34, _, c36, C37, p39, _, c41, C42, p45, _, c47, C48, p54, _, c56, C57, p60, _, c62, C63, C65, rfl, rfl, rfl, rfl, o37, rfl, o42, rfl, o48, rfl, o57, rfl, o63, hl65, o65⟩
 refine kw_nx (sr (oB11 13 ts37 J (oM J (oC11 1 ts37 J J (oS J (sn J (cw_ret ?_)))))))
 obtain rfl := sI H0
 exact kr results10 (.cons (.cellN (us := [_, _, _, _, _, _, _, _, _, _, _]) ts37 J (Cells.box (id := 1) J 11 J)) (.cons (.tmp J) (rT J))) [8, 9, 10, 11, 12, 14] (sl J o37 (sl J o42 (sl J o48 (sl J o57 (sl J o63 (sl (by simp [hl65]) o65 ⟨J, J⟩))))))

theorem c_s_ClearMarks (fl : Nat) (w : World) (a0 : Mm) (hn0_0 : n0_0 = (a0.m.t.b).length) (hr0_0 : RO w [] (RdL p0_0 c0_0 a0.m.t.b)) (hn0_1 : n0_1 = (a0.m.t.f).length) (hr0_1 : RO w [] (RdL p0_1 c0_1 a0.m.t.f)) (hn0_2 : n0_2 = (a0.m.c.l).length) (hr0_2 : RO w [] (RdL p0_2 c0_2 a0.m.c.l)) (hn0_3 : n0_3 = (a0.m.g.o).length) (hr0_3 : RO w [] (RdL p0_3 c0_3 a0.m.g.o)) (hn0_4 : n0_4 = (a0.k).length) (hr0_4 : RO w [] (RdL p0_4 c0_4 a0.k)) (r : Mm × Bool) (H0 : s_ClearMarks fl a0 = some r) :
  Ct prog 89 [.agg #[.slice p0_0 n0_0 c0_0, .slice p0_1 n0_1 c0_1, .slice p0_2 n0_2 c0_2, I a0.m.c.h, I a0.m.g.c, I a0.m.g.n, I a0.m.g.r, .slice p0_3 n0_3 c0_3, I a0.m.s, .slice p0_4 n0_4 c0_4, I a0.h]] w [] (fun rv h' => SL 3 r.1.m.t.b fun x0 y0 z0 C0 => SL 57 r.1.m.t.f fun x1 y1 z1 C1 => SL 104 r.1.m.c.l fun x2 y2 z2 C2 => SL 70 r.1.m.g.o fun x3 y3 z3 C3 => SL 4 r.1.k fun x4 y4 z4 C4 => rv = .tuple #[.agg #[.slice x0 y0 z0, .slice x1 y1 z1, .slice x2 y2 z2, I r.1.m.c.h, I r.1.m.g.c, I r.1.m.g.n, I r.1.m.g.r, .slice x3 y3 z3, I r.1.m.s, .slice x4 y4 z4, I r.1.h], .bool r.2] ∧ h' = [(0, C0), (1, C1), (2, C2), (3, C3), (4, C4)]) := by
 subst hn0_0 hn0_1 hn0_2 hn0_3 hn0_4
 unfold s_ClearMarks at H0
 refine ct_of_cw func89 J ntmps89 J (Sat.refl _ _) ?_
 refine sr (oE (stpU_box 0 J J) J ?_)
 rintro _ _ ⟨b1, rfl, rfl⟩
 refine oE (stpU_alloc 1 tz37 J) J ?_
 rintro _ _ ⟨b2, rfl, rfl⟩
 obtain ⟨x3, e3, H0⟩ := bS H0
 refine sq J (oB11 0 ts37 J (oE (uC 2 cf26 (fun w hw => c_s_MemoryValid fl w a0 J (rp hr0_0 hw) J (rp hr0_1 hw) J (rp hr0_2 hw) J (rp hr0_3 hw) J (rp hr0_4 hw) x3 e3) (yA J)) J ?_))
 rintro _ _ ⟨_, ⟨rfl, rfl⟩, rfl⟩
 refine oK J (nn (cH J H0 (fun H0 => ?_) (fun H0 => ?_)))
 ·refine sr (oD (stp_build (cs := #[sN, sN, sN, I 0, I 0, I 0, I 0, sN, I 0, sN, I 0]) sE bt37_19) J (oC11 1 ts37 J J (sR J (kA 2 (kA 3 (kA 4 (kA 5 (kA 6 ?_))))))))
  obtain rfl := sI H0
  exact kr results89 (.cons (.cellN (us := [_, _, _, _, _, _, _, _, _, _, _]) ts37 J (Cells.box (id := 1) J 11 J)) (rT J)) [2, 3, 4, 5, 6] (sl J oN0 (sl J oN0 (sl J oN0 (sl J oN0 (sl J oN0 ⟨J, J⟩)))))
 obtain ⟨x5, e5, H0⟩ := bS H0
 refine ks (oB11 0 ts37 J (oE (uC 7 cf27 (fun w hw => c_s_l7Copy fl w a0 J (rp hr0_0 hw) J (rp hr0_1 hw) J (rp hr0_2 hw) J (rp hr0_3 hw) J (rp hr0_4 hw) x5 e5) (yA J)) J ?_))
 rintro _ _ ⟨_, ⟨p6, _, c8, C9, rfl, o9, p10, _, c12, C13, rfl, o13, p14, _, c16, C17, rfl, o17, p18, _, c20, C21, rfl, o21, p22, _, c24, C25, rfl, o25, rfl, rfl⟩, rfl⟩
 refine oE (stpU_alloc 12 tz37 J) J ?_
 rintro _ _ ⟨b26, rfl, rfl⟩
 obtain ⟨x27, e27, H0⟩ := bS H0
 refine oC11 12 ts37 J J (ns (oAL 9 u37 J ts35 J 0 J (oD (stp_len u35 J) J (oE (stpU_make sl35 J 13 J J e27) J ?_))))
 rintro _ _ ⟨p28, C29, rfl, rfl, o29⟩
 refine oA 9 u37 J ts35 J (oC11 12 ts35 J J (ns (oB11 12 ts37 J (oC11 1 ts37 J J (sn J (cw_ret ?_))))))
 obtain rfl := sI H0
 exact kr results89 (.cons (.cellN (us := [_, _, _, _, _, _, _, _, _, _, _]) ts37 J (Cells.box (id := 1) J 11 J)) (rT J)) [7, 8, 9, 10, 13] (sl J o9 (sl J o13 (sl J o17 (sl J o21 (sl (by simp) o29 ⟨J, J⟩)))))

theorem c_s_l7Draw (fl : Nat) (w : World) (m0 : Nat) (a0_0 : (List UInt8)) (a0_1 : Int) (hn0_0_0 : n0_0_0 = (a0_0).length) (hr0_0_0 : RO w (hkeys [(0, [(m0, .cells #[.slice p0_0_0 n0_0_0 c0_0_0, I a0_1] 95 (0, 0))])]) (RdL p0_0_0 c0_0_0 a0_0)) (hM : Sat w (hkeys [(0, [(m0, .cells #[.slice p0_0_0 n0_0_0 c0_0_0, I a0_1] 95 (0, 0))])]) w [(0, [(m0, .cells #[.slice p0_0_0 n0_0_0 c0_0_0, I a0_1] 95 (0, 0))])]) (r : Mm × Int) (H0 : s_l7Draw fl a0_0 a0_1 = some r) :
  Ct prog 51 [.pointer (some ⟨m0, 0, none⟩)] w [(0, [(m0, .cells #[.slice p0_0_0 n0_0_0 c0_0_0, I a0_1] 95 (0, 0))])] (fun rv h' => SL 3 r.1.m.t.b fun x1 y1 z1 C1 => SL 57 r.1.m.t.f fun x2 y2 z2 C2 => SL 104 r.1.m.c.l fun x3 y3 z3 C3 => SL 70 r.1.m.g.o fun x4 y4 z4 C4 => SL 4 r.1.k fun x5 y5 z5 C5 => rv = .agg #[.slice x1 y1 z1, .slice x2 y2 z2, .slice x3 y3 z3, I r.1.m.c.h, I r.1.m.g.c, I r.1.m.g.n, I r.1.m.g.r, .slice x4 y4 z4, I r.1.m.s, .slice x5 y5 z5, I r.1.h] ∧ h' = [(0, [(m0, .cells #[.slice p0_0_0 n0_0_0 c0_0_0, I r.2] 95 (0, 0))]), (1, C1), (2, C2), (3, C3), (4, C4), (5, C5)]) := by
 subst hn0_0_0
 unfold s_l7Draw at H0
 refine ct_of_cw func51 J ntmps51 J hM ?_
 refine sr (oE (stpU_alloc 1 tz37 J) J ?_)
 rintro _ _ ⟨b1, rfl, rfl⟩
 obtain ⟨x2, e2, H0⟩ := bS H0
 refine ns (oM J (oE (uM (rq 0 2) cf88 (fun w hw hb => c_s_l6Draw fl w m0 a0_0 a0_1 J (RO.passM hr0_0_0 hw hb) (hw.pass (js := [0]) ⟨0, [], J, J, trivial⟩ (by decide)) x2 e2) (yA J) ⟨J, (fun _ _ hp => by obtain ⟨_, _, _, _, _, _, _, _, _, _, _, _, _, _, _, _, _, _, _, _, _, _, _, _, _, rfl⟩ := hp; exact ⟨_, J⟩), trivial⟩) J ?_))
 rintro _ _ ⟨_, ⟨p3, _, c5, C6, rfl, o6, p7, _, c9, C10, rfl, o10, p11, _, c13, C14, rfl, o14, p15, _, c17, C18, rfl, o18, rfl, rfl⟩, rfl⟩
 obtain ⟨x19, e19, H0⟩ := bS H0
 refine oE (uC 7 cf87 (fun w hw => c_s_NewMemory fl w x2.1 J (owp 3 J o6 hw) J (owp 4 J o10 hw) J (owp 5 J o14 hw) J (owp 6 J o18 hw) x19 e19) (yA J)) J ?_
 rintro _ _ ⟨_, ⟨p20, _, c22, C23, rfl, o23, p24, _, c26, C27, rfl, o27, p28, _, c30, C31, rfl, o31, p32, _, c34, C35, rfl, o35, p36, _, c38, C39, rfl, o39, rfl, rfl⟩, rfl⟩
 refine oMTT J J J (oE (stpU_alloc 12 tz37 J) J ?_)
 rintro _ _ ⟨b40, rfl, rfl⟩
 obtain ⟨x41, e41, H0⟩ := bS H0
 refine oC11 12 ts37 J J (sn J (cq (rdt g_mixed [.n 0, .n 1, .d 2, .d 8, .o 2, .n 3, .n 4, .n 5, .n 6, .n 7, .o 8, .n 9, .n 10, .n 11] ⟨[[12],[],[0],[7,8,9,10,11,14],[],[],[],[],[],[15]], [[],[],[0,14],[16,17,18,19,20,21],[],[],[],[],[15],[15]], [2,3,8]⟩ (dB11 12 ts37 J (dM J (dq J (fun hh => uM (rq 0 13) cf22 (fun w hw hb => c_s_l7Pages fl w m0 a0_0 x2.2 J (RO.passM hr0_0_0 hw hb) (hw.pass (js := [0]) ⟨0, [], J, (hh _ _ J), trivial⟩ (by decide)) x41 e41) (yA J) ⟨(hh _ _ J), (fun _ _ hp => by obtain ⟨_, _, _, _, _, _, _, rfl⟩ := hp; exact ⟨_, J⟩), trivial⟩) (by rintro _ _ ⟨_, ⟨_, _, _, _, _, _, rfl, rfl⟩, rfl⟩; rfl) (dq J (fun hh => stpU_alloc 15 tz37 J) (by rintro _ _ ⟨_, rfl, rfl⟩; rfl) (dp J ?_))))))))
 rintro _ _ ⟨_, ⟨p42, _, c44, C45, rfl, o45, rfl, rfl⟩, rfl⟩
 obtain ⟨x47, e47, H0⟩ := bS H0
 refine dE J (fun hh => uC 16 cf10 (fun w hw => c_s_UsePages fl w x19.1 x41.1 J (owp 7 (hh _ _ J) o23 hw) J (owp 8 (hh _ _ J) o27 hw) J (owp 9 (hh _ _ J) o31 hw) J (owp 10 (hh _ _ J) o35 hw) J (owp 11 (hh _ _ J) o39 hw) J (owp 14 (hh _ _ J) o45 hw) x47 e47) (yB J J)) ?_
 rintro _ _ ⟨_, ⟨p48, _, c50, C51, rfl, o51, p52, _, c54, C55, rfl, o55, p56, _, c58, C59, rfl, o59, p60, _, c62, C63, rfl, o63, p64, _, c66, C67, rfl, o67, p68, _, c70, C71, rfl, o71, rfl, rfl⟩, rfl⟩
 refine dk J (dM J (dT J (dT J (dT J (dp J ?_)))))
 rintro _ _ ⟨b46, rfl, rfl⟩
 refine dC11 15 ts37 J J J (dS J (dS J (dn (kw_nx (csr (oM J (nn (cH J H0 (fun H0 => ?_) (fun H0 => ?_)))))))))
 ·obtain ⟨x73, e73, H0⟩ := bS H0
  refine cR (oB11 15 ts37 J (oC11 12 ts37 J J (nq (oM J (oE (uM (rq 0 22) cf23 (fun w hw hb => c_s_l12Rd_pick fl w m0 a0_0 x41.2 3 J (RO.passM hr0_0_0 hw hb) (hw.pass (js := [0]) ⟨0, [], J, J, trivial⟩ (by decide)) x73 e73) (yB J J) ⟨J, (pI (fun _ _ h => h.2) J), trivial⟩) J ?_)))))
  rintro _ _ ⟨_, ⟨rfl, rfl⟩, rfl⟩
  refine oQ J (nn (cH J H0 (fun H0 => ?_) (fun H0 => ?_)))
  ·obtain ⟨x75, e75, H0⟩ := bS H0
   refine cR (oB11 12 ts37 J (oE (uC 23 cf89 (fun w hw => c_s_ClearMarks fl w x47.1 J (owp 16 J o51 hw) J (owp 17 J o55 hw) J (owp 18 J o59 hw) J (owp 19 J o63 hw) J (owp 20 J o67 hw) x75 e75) (yA J)) J ?_))
   rintro _ _ ⟨_, ⟨p76, _, c78, C79, rfl, o79, p80, _, c82, C83, rfl, o83, p84, _, c86, C87, rfl, o87, p88, _, c90, C91, rfl, o91, p92, _, c94, C95, rfl, o95, rfl, rfl⟩, rfl⟩
   refine oMTT J J J (oC11 12 ts37 J J (ns (oB11 12 ts37 J (oC11 1 ts37 J J (nn (cw_ret ?_))))))
   obtain rfl := sI H0
   exact kr results51 (rC11 1 ts37 J J) [0, 23, 24, 25, 26, 27] (sl J o79 (sl J o83 (sl J o87 (sl J o91 (sl J o95 ⟨J, J⟩)))))
  refine ks (oB11 12 ts37 J (oC11 1 ts37 J J (nn (cw_ret ?_))))
  obtain rfl := sI H0
  exact kr results51 (rC11 1 ts37 J J) [0, 16, 17, 18, 19, 20] (sl J o51 (sl J o55 (sl J o59 (sl J o63 (sl J o67 ⟨J, J⟩)))))
 obtain ⟨x96, e96, H0⟩ := bS H0
 refine kq (sr (oM J (oE (uM (rq 0 28) cf23 (fun w hw hb => c_s_l12Rd_pick fl w m0 a0_0 x41.2 3 J (RO.passM hr0_0_0 hw hb) (hw.pass (js := [0]) ⟨0, [], J, J, trivial⟩ (by decide)) x96 e96) (yB J J) ⟨J, (pI (fun _ _ h => h.2) J), trivial⟩) J ?_)))
 rintro _ _ ⟨_, ⟨rfl, rfl⟩, rfl⟩
 refine oQ J (nn (cH J H0 (fun H0 => ?_) (fun H0 => ?_)))
 ·obtain ⟨x98, e98, H0⟩ := bS H0
  refine cR (oB11 12 ts37 J (oE (uC 29 cf89 (fun w hw => c_s_ClearMarks fl w x19.1 J (owp 7 J o23 hw) J (owp 8 J o27 hw) J (owp 9 J o31 hw) J (owp 10 J o35 hw) J (owp 11 J o39 hw) x98 e98) (yA J)) J ?_))
  rintro _ _ ⟨_, ⟨p99, _, c101, C102, rfl, o102, p103, _, c105, C106, rfl, o106, p107, _, c109, C110, rfl, o110, p111, _, c113, C114, rfl, o114, p115, _, c117, C118, rfl, o118, rfl, rfl⟩, rfl⟩
  refine oMTT J J J (oC11 12 ts37 J J (ns (oB11 12 ts37 J (oC11 1 ts37 J J (nn (cw_ret ?_))))))
  obtain rfl := sI H0
  exact kr results51 (rC11 1 ts37 J J) [0, 29, 30, 31, 32, 33] (sl J o102 (sl J o106 (sl J o110 (sl J o114 (sl J o118 ⟨J, J⟩)))))
 refine ks (oB11 12 ts37 J (oC11 1 ts37 J J (nn (cw_ret ?_))))
 obtain rfl := sI H0
 exact kr results51 (rC11 1 ts37 J J) [0, 7, 8, 9, 10, 11] (sl J o23 (sl J o27 (sl J o31 (sl J o35 (sl J o39 ⟨J, J⟩)))))

theorem c_s_l4Wrong (fl : Nat) (w : World) (m0 : Nat) (a0_0 : (List UInt8)) (a0_1 : Int) (a1 : Ca) (hn0_0_0 : n0_0_0 = (a0_0).length) (hr0_0_0 : RO w (hkeys [(0, [(m0, .cells #[.slice p0_0_0 n0_0_0 c0_0_0, I a0_1] 95 (0, 0))])]) (RdL p0_0_0 c0_0_0 a0_0)) (hn1_0 : n1_0 = (a1.l).length) (hr1_0 : RO w (hkeys [(0, [(m0, .cells #[.slice p0_0_0 n0_0_0 c0_0_0, I a0_1] 95 (0, 0))])]) (RdL p1_0 c1_0 a1.l)) (hM : Sat w (hkeys [(0, [(m0, .cells #[.slice p0_0_0 n0_0_0 c0_0_0, I a0_1] 95 (0, 0))])]) w [(0, [(m0, .cells #[.slice p0_0_0 n0_0_0 c0_0_0, I a0_1] 95 (0, 0))])]) (r : Ca × Int) (H0 : s_l4Wrong fl a0_0 a0_1 a1 = some r) :
  Ct prog 123 [.pointer (some ⟨m0, 0, none⟩), .agg #[.slice p1_0 n1_0 c1_0, I a1.h]] w [(0, [(m0, .cells #[.slice p0_0_0 n0_0_0 c0_0_0, I a0_1] 95 (0, 0))])] (fun rv h' => SL 104 r.1.l fun x1 y1 z1 C1 => rv = .agg #[.slice x1 y1 z1, I r.1.h] ∧ h' = [(0, [(m0, .cells #[.slice p0_0_0 n0_0_0 c0_0_0, I r.2] 95 (0, 0))]), (1, C1)]) := by
 subst hn0_0_0 hn1_0
 unfold s_l4Wrong at H0
 refine ct_of_cw func123 J ntmps123 J hM ?_
 refine sr (oE (stpU_box 1 J J) J ?_)
 rintro _ _ ⟨b1, rfl, rfl⟩
 refine oE (stpU_alloc 2 tz29 J) J ?_
 rintro _ _ ⟨b2, rfl, rfl⟩
 obtain ⟨x3, e3, H0⟩ := bS H0
 refine ns (oB2 1 ts29 J (oE (uC 3 cf101 (fun w hw => c_s_l4Copy fl w a1 J (rp hr1_0 hw) x3 e3) (yA J)) J ?_))
 rintro _ _ ⟨_, ⟨p4, _, c6, C7, rfl, o7, rfl, rfl⟩, rfl⟩
 refine oE (stpU_alloc 4 tz29 J) J ?_
 rintro _ _ ⟨b8, rfl, rfl⟩
 refine oC2 4 ts29 J J (nq (oAL 0 u29 J ts27 J 4 J (oD (stp_len u27 J) J (oQ J (nn (cH J H0 (fun H0 => ?_) (fun H0 => ?_)))))))
 ·refine sr (oB2 4 ts29 J (oC2 2 ts29 J J (nr (kR ?_))))
  obtain rfl := sI H0
  exact kr results123 (rC2 2 ts29 J J) [0, 3] (sl J o7 ⟨J, J⟩)
 obtain ⟨x10, e10, H0⟩ := bS H0
 refine ks (oM J (oAL 0 u29 J ts27 J 4 J (oD (stp_len u27 J) J (oE (uM (rq 0 5) cf23 (fun w hw hb => c_s_l12Rd_pick fl w m0 a0_0 a0_1 ((x3.l).length : Int) J (RO.passM hr0_0_0 hw hb) (hw.pass (js := [0]) ⟨0, [], J, J, trivial⟩ (by decide)) x10 e10) (yB J J) ⟨J, (pI (fun _ _ h => h.2) J), trivial⟩) J ?_))))
 rintro _ _ ⟨_, ⟨rfl, rfl⟩, rfl⟩
 obtain ⟨x11, e11, H0⟩ := bS H0
 refine sq J (oM J (oE (uM (rq 0 6) cf23 (fun w hw hb => c_s_l12Rd_pick fl w m0 a0_0 x10.2 24 J (RO.passM hr0_0_0 hw hb) (hw.pass (js := [0]) ⟨0, [], J, J, trivial⟩ (by decide)) x11 e11) (yB J J) ⟨J, (pI (fun _ _ h => h.2) J), trivial⟩) J ?_))
 rintro _ _ ⟨_, ⟨rfl, rfl⟩, rfl⟩
 refine nn (cw_block (sr (oQ J (sn J (cH J H0 (fun H0 => ?_) (fun H0 => ?_))))))
 ·refine cR (oM J (oE (stpU_lit (sz := 1) (l := [(-1), 8, 0]) [I (-1), I 8, I 0] sl23 7 (sP J (sP J (sP J sE))) J J J J J J J J J) J ?_))
  rintro _ _ ⟨p13, C14, rfl, rfl, o14⟩
  obtain ⟨x15, e15, H0⟩ := bS H0
  refine oE (uM (rq 0 8) cf24 (fun w hw hb => c_s_l12Rd_num fl w m0 a0_0 x11.2 ([(-1), 8, 0]) J (RO.passM hr0_0_0 hw hb) (by simp) (OwnC.passM (id := 7) J o14 hw hb ⟨J, trivial⟩) (hw.pass (js := [0]) ⟨0, [], J, J, trivial⟩ (by decide)) x15 e15) (yB J J) ⟨J, (pI (fun _ _ h => h.2) J), trivial⟩) J ?_
  rintro _ _ ⟨_, ⟨rfl, rfl⟩, rfl⟩
  refine oA 1 u29 J ts3 J (oC2 4 ts3 J J (ow_nil (kb (sr (oB2 4 ts29 J (oC2 2 ts29 J J (nn (cw_ret ?_))))))))
  obtain rfl := sI H0
  exact kr results123 (rC2 2 ts29 J J) [0, 3] (sl J o7 ⟨J, J⟩)
 refine sr (oQ J (sn J (cH J H0 (fun H0 => ?_) (fun H0 => ?_))))
 ·obtain ⟨x17, e17, H0⟩ := bS H0
  refine rdt g_mixed (rn 0 13) ⟨[[],[4],[],[],[4],[],[3],[],[3],[],[3],[],[3]], [[],[],[],[],[],[],[],[],[],[],[],[],[3]], [12]⟩ (dA 0 J u29 J ts27 J (dL 4 ts27 J (dM J (dA 0 J u29 J ts27 J (dL 4 ts27 J (dM J (dD J (stp_indexAddr u27 ts104 (by decide) J J J (Rdb.own (id := 3) J o7) e17) (dA 0 J u104 J ts4 J (dD J (stp_load1 ts4 J (Cells.el (Rdb.own (id := 3) J o7) (by decide) e17 0 1 J)) (dK J (dD J (stp_indexAddr u27 ts104 (by decide) J J J (Rdb.own (id := 3) J o7) e17) (dA 0 J u104 J ts4 J (dF J (fun hh => stpU_storeEl (id := 3) (i := 0) (⟨(!x17.va), x17.tg, x17.pg, x17.fr, x17.ri, x17.wi⟩ : Ln) (by decide) ts4 J J (hh _ _ J) o7 e17 J J J J) ?_)))))))))))))
  rintro _ _ ⟨C18, rfl, o18⟩
  refine dk J (dn (kb (sr (oB2 4 ts29 J (oC2 2 ts29 J J (nn (cw_ret ?_)))))))
  obtain rfl := sI H0
  exact kr results123 (rC2 2 ts29 J J) [0, 3] (sl (by simp) o18 ⟨J, J⟩)
 refine sr (oQ J (sn J (cH J H0 (fun H0 => ?_) (fun H0 => ?_))))
 ·refine rdt g_mixed (rn 0 9) ⟨[[],[4],[],[],[],[0,9],[3],[],[3]], [[],[],[],[],[9],[0],[],[],[3]], [4,8]⟩ (dA 0 J u29 J ts27 J (dL 4 ts27 J (dM J (dM J (dE J (fun hh => stpU_lit (sz := 1) (l := [2, 256, 3]) [I 2, I 256, I 3] sl23 9 (sP J (sP J (sP J sE))) J J J J J J J J J) ?_)))))
  rintro _ _ ⟨p20, C21, rfl, rfl, o21⟩
  obtain ⟨x22, e22, H0⟩ := bS H0
  obtain ⟨x23, e23, H0⟩ := bS H0
  refine dk J (dV J (fun hh => uM (rq 0 10) cf24 (fun w hw hb => c_s_l12Rd_num fl w m0 a0_0 x11.2 ([2, 256, 3]) J (RO.passM hr0_0_0 hw hb) (by simp) (OwnC.passM (id := 9) (hh _ _ J) o21 hw hb ⟨J, trivial⟩) (hw.pass (js := [0]) ⟨0, [], J, (hh _ _ J), trivial⟩ (by decide)) x22 e22) (yB J J) ⟨(hh _ _ J), (pI (fun _ _ h => h.2) J), trivial⟩) J (dD J (stp_indexAddr u27 ts104 (by decide) J J J (Rdb.own (id := 3) J o7) e23) (dA 2 J u104 J ts3 J (dF J (fun hh => stpU_storeEl (id := 3) (i := 2) (⟨x23.va, x23.tg, x22.1, x23.fr, x23.ri, x23.wi⟩ : Ln) (by decide) ts3 J J (hh _ _ J) o7 e23 J J J J) ?_))))
  rintro _ _ ⟨C24, rfl, o24⟩
  refine dk J (dn (kb (sr (oB2 4 ts29 J (oC2 2 ts29 J J (nn (cw_ret ?_)))))))
  obtain rfl := sI H0
  exact kr results123 (rC2 2 ts29 J J) [0, 3] (sl (by simp) o24 ⟨J, J⟩)
 refine sr (oQ J (sn J (cH J H0 (fun H0 => ?_) (fun H0 => ?_))))
 ·refine rdt g_mixed (rn 0 9) ⟨[[],[4],[],[],[],[0,11],[3],[],[3]], [[],[],[],[],[11],[0],[],[],[3]], [4,8]⟩ (dA 0 J u29 J ts27 J (dL 4 ts27 J (dM J (dM J (dE J (fun hh => stpU_lit (sz := 1) (l := [8, (-2), 0, (-1)]) [I 8, I (-2), I 0, I (-1)] sl23 11 (sP J (sP J (sP J (sP J sE)))) J J J J J J J J J) ?_)))))
  rintro _ _ ⟨p26, C27, rfl, rfl, o27⟩
  obtain ⟨x28, e28, H0⟩ := bS H0
  obtain ⟨x29, e29, H0⟩ := bS H0
  refine dk J (dV J (fun hh => uM (rq 0 12) cf24 (fun w hw hb => c_s_l12Rd_num fl w m0 a0_0 x11.2 ([8, (-2), 0, (-1)]) J (RO.passM hr0_0_0 hw hb) (by simp) (OwnC.passM (id := 11) (hh _ _ J) o27 hw hb ⟨J, trivial⟩) (hw.pass (js := [0]) ⟨0, [], J, (hh _ _ J), trivial⟩ (by decide)) x28 e28) (yB J J) ⟨(hh _ _ J), (pI (fun _ _ h => h.2) J), trivial⟩) J (dD J (stp_indexAddr u27 ts104 (by decide) J J J (Rdb.own (id := 3) J o7) e29) (dA 1 J u104 J ts3 J (dF J (fun hh => stpU_storeEl (id := 3) (i := 1) (⟨x29.va, x28.1, x29.pg, x29.fr, x29.ri, x29.wi⟩ : Ln) (by decide) ts3 J J (hh _ _ J) o7 e29 J J J J) ?_))))
  rintro _ _ ⟨C30, rfl, o30⟩
  refine dk J (dn (kb (sr (oB2 4 ts29 J (oC2 2 ts29 J J (nn (cw_ret ?_)))))))
  obtain rfl := sI H0
  exact kr results123 (rC2 2 ts29 J J) [0, 3] (sl (by simp) o30 ⟨J, J⟩)
 refine sr (oQ J (sn J (cH J H0 (fun H0 => ?_) (fun H0 => ?_))))
 ·refine cR (oE (stpU_lit0 sl27 13) J ?_)
  rintro _ _ ⟨p32, C33, rfl, rfl, o33⟩
  refine oA 0 u29 J ts27 J (oC2 4 ts27 J J (ow_nil (kb (sr (oB2 4 ts29 J (oC2 2 ts29 J J (nn (cw_ret ?_))))))))
  obtain rfl := sI H0
  exact kr results123 (rC2 2 ts29 J J) [0, 13] (sl (by simp) o33 ⟨J, J⟩)
 refine cw_skip (kb (sr (oB2 4 ts29 J (oC2 2 ts29 J J (nn (cw_ret ?_))))))
 obtain rfl := sI H0
 exact kr results123 (rC2 2 ts29 J J) [0, 3] (sl J o7 ⟨J, J⟩)

theorem c_s_l2Draw (fl : Nat) (w : World) (m0 : Nat) (a0_0 : (List UInt8)) (a0_1 : Int) (hn0_0_0 : n0_0_0 = (a0_0).length) (hr0_0_0 : RO w (hkeys [(0, [(m0, .cells #[.slice p0_0_0 n0_0_0 c0_0_0, I a0_1] 95 (0, 0))])]) (RdL p0_0_0 c0_0_0 a0_0)) (hM : Sat w (hkeys [(0, [(m0, .cells #[.slice p0_0_0 n0_0_0 c0_0_0, I a0_1] 95 (0, 0))])]) w [(0, [(m0, .cells #[.slice p0_0_0 n0_0_0 c0_0_0, I a0_1] 95 (0, 0))])]) (r : K × Int) (H0 : s_l2Draw fl a0_0 a0_1 = some r) :
  Ct prog 143 [.pointer (some ⟨m0, 0, none⟩)] w [(0, [(m0, .cells #[.slice p0_0_0 n0_0_0 c0_0_0, I a0_1] 95 (0, 0))])] (fun rv h' => rv = .agg #[I r.1.s, I r.1.p] ∧ h' = [(0, [(m0, .cells #[.slice p0_0_0 n0_0_0 c0_0_0, I r.2] 95 (0, 0))])]) := by
 subst hn0_0_0
 unfold s_l2Draw at H0
 refine ct_of_cw func143 J ntmps143 J hM ?_
 refine sr (oE (stpU_alloc 1 tz50 J) J ?_)
 rintro _ _ ⟨b1, rfl, rfl⟩
 refine ns (oM J (oE (stpU_lit (sz := 1) (l := [0, 1, 2, 3, 1]) [I 0, I 1, I 2, I 3, I 1] sl23 2 (sP J (sP J (sP J (sP J (sP J sE))))) J J J J J J J J J) J ?_))
 rintro _ _ ⟨p2, C3, rfl, rfl, o3⟩
 obtain ⟨x4, e4, H0⟩ := bS H0
 refine oE (uM (rq 0 3) cf24 (fun w hw hb => c_s_l12Rd_num fl w m0 a0_0 a0_1 ([0, 1, 2, 3, 1]) J (RO.passM hr0_0_0 hw hb) (by simp) (OwnC.passM (id := 2) J o3 hw hb ⟨J, trivial⟩) (hw.pass (js := [0]) ⟨0, [], J, J, trivial⟩ (by decide)) x4 e4) (yB J J) ⟨J, (pI (fun _ _ h => h.2) J), trivial⟩) J ?_
 rintro _ _ ⟨_, ⟨rfl, rfl⟩, rfl⟩
 refine oM J (oE (stpU_lit (sz := 1) (l := [0, 1, 2, 3, 4, 5, 100, 255]) [I 0, I 1, I 2, I 3, I 4, I 5, I 100, I 255] sl23 4 (sP J (sP J (sP J (sP J (sP J (sP J (sP J (sP J sE)))))))) J J J J J J J J J) J ?_)
 rintro _ _ ⟨p5, C6, rfl, rfl, o6⟩
 obtain ⟨x7, e7, H0⟩ := bS H0
 refine oE (uM (rq 0 5) cf24 (fun w hw hb => c_s_l12Rd_num fl w m0 a0_0 x4.2 ([0, 1, 2, 3, 4, 5, 100, 255]) J (RO.passM hr0_0_0 hw hb) (by simp) (OwnC.passM (id := 4) J o6 hw hb ⟨J, trivial⟩) (hw.pass (js := [0]) ⟨0, [], J, J, trivial⟩ (by decide)) x7 e7) (yB J J) ⟨J, (pI (fun _ _ h => h.2) J), trivial⟩) J ?_
 rintro _ _ ⟨_, ⟨rfl, rfl⟩, rfl⟩
 refine oD (stp_build (cs := #[I x4.1, I x7.1]) (sP J (sP J sE)) bt50_13) J (oC2 1 ts50 J J (nn (cw_ret ?_)))
 obtain rfl := sI H0
 exact kr results143 (rC2 1 ts50 J J) [0] ⟨J, J⟩

theorem c_s_l3Wrong (fl : Nat) (w : World) (m0 : Nat) (a0_0 : (List UInt8)) (a0_1 : Int) (a1 : T) (hn0_0_0 : n0_0_0 = (a0_0).length) (hr0_0_0 : RO w (hkeys [(0, [(m0, .cells #[.slice p0_0_0 n0_0_0 c0_0_0, I a0_1] 95 (0, 0))])]) (RdL p0_0_0 c0_0_0 a0_0)) (hn1_0 : n1_0 = (a1.b).length) (hr1_0 : RO w (hkeys [(0, [(m0, .cells #[.slice p0_0_0 n0_0_0 c0_0_0, I a0_1] 95 (0, 0))])]) (RdL p1_0 c1_0 a1.b)) (hn1_1 : n1_1 = (a1.f).length) (hr1_1 : RO w (hkeys [(0, [(m0, .cells #[.slice p0_0_0 n0_0_0 c0_0_0, I a0_1] 95 (0, 0))])]) (RdL p1_1 c1_1 a1.f)) (hM : Sat w (hkeys [(0, [(m0, .cells #[.slice p0_0_0 n0_0_0 c0_0_0, I a0_1] 95 (0, 0))])]) w [(0, [(m0, .cells #[.slice p0_0_0 n0_0_0 c0_0_0, I a0_1] 95 (0, 0))])]) (r : T × Int) (H0 : s_l3Wrong fl a0_0 a0_1 a1 = some r) :
  Ct prog 124 [.pointer (some ⟨m0, 0, none⟩), .agg #[.slice p1_0 n1_0 c1_0, .slice p1_1 n1_1 c1_1]] w [(0, [(m0, .cells #[.slice p0_0_0 n0_0_0 c0_0_0, I a0_1] 95 (0, 0))])] (fun rv h' => SL 3 r.1.b fun x1 y1 z1 C1 => SL 57 r.1.f fun x2 y2 z2 C2 => rv = .agg #[.slice x1 y1 z1, .slice x2 y2 z2] ∧ h' = [(0, [(m0, .cells #[.slice p0_0_0 n0_0_0 c0_0_0, I r.2] 95 (0, 0))]), (1, C1), (2, C2)]) := by
 subst hn0_0_0 hn1_0 hn1_1
 unfold s_l3Wrong at H0
 refine ct_of_cw func124 J ntmps124 J hM ?_
 refine sr (oE (stpU_box 1 J J) J ?_)
 rintro _ _ ⟨b1, rfl, rfl⟩
 refine oE (stpU_alloc 2 tz26 J) J ?_
 rintro _ _ ⟨b2, rfl, rfl⟩
 obtain ⟨x3, e3, H0⟩ := bS H0
 refine ns (oB2 1 ts26 J (oE (uC 3 cf100 (fun w hw => c_s_l3Copy fl w a1 J (rp hr1_0 hw) J (rp hr1_1 hw) x3 e3) (yA J)) J ?_))
 rintro _ _ ⟨_, ⟨p4, _, c6, C7, rfl, o7, p8, _, c10, C11, rfl, o11, rfl, rfl⟩, rfl⟩
 refine oE (stpU_alloc 5 tz26 J) J ?_
 rintro _ _ ⟨b12, rfl, rfl⟩
 refine oC2 5 ts26 J J (nq (oAL 1 u26 J ts24 J 5 J (oD (stp_len u24 J) J (oQ J (nn (cH J H0 (fun H0 => ?_) (fun H0 => ?_)))))))
 ·refine sr (oB2 5 ts26 J (oC2 2 ts26 J J (nr (kR ?_))))
  obtain rfl := sI H0
  exact kr results124 (rC2 2 ts26 J J) [0, 3, 4] (sl J o7 (sl J o11 ⟨J, J⟩))
 obtain ⟨x14, e14, H0⟩ := bS H0
 refine ks (oM J (oAL 1 u26 J ts24 J 5 J (oD (stp_len u24 J) J (oE (uM (rq 0 6) cf23 (fun w hw hb => c_s_l12Rd_pick fl w m0 a0_0 a0_1 ((x3.f).length : Int) J (RO.passM hr0_0_0 hw hb) (hw.pass (js := [0]) ⟨0, [], J, J, trivial⟩ (by decide)) x14 e14) (yB J J) ⟨J, (pI (fun _ _ h => h.2) J), trivial⟩) J ?_))))
 rintro _ _ ⟨_, ⟨rfl, rfl⟩, rfl⟩
 obtain ⟨x15, e15, H0⟩ := bS H0
 refine sq J (oM J (oE (uM (rq 0 7) cf23 (fun w hw hb => c_s_l12Rd_pick fl w m0 a0_0 x14.2 24 J (RO.passM hr0_0_0 hw hb) (hw.pass (js := [0]) ⟨0, [], J, J, trivial⟩ (by decide)) x15 e15) (yB J J) ⟨J, (pI (fun _ _ h => h.2) J), trivial⟩) J ?_))
 rintro _ _ ⟨_, ⟨rfl, rfl⟩, rfl⟩
 refine nn (cw_block (sr (oQ J (sn J (cH J H0 (fun H0 => ?_) (fun H0 => ?_))))))
 ·refine rdt g_mixed (rn 0 10) ⟨[[],[5],[],[],[],[],[0,8],[4],[],[4]], [[],[],[],[],[],[8],[0],[],[],[4]], [5,9]⟩ (dA 1 J u26 J ts24 J (dL 5 ts24 J (dM J (dM J (dM J (dE J (fun hh => stpU_lit (sz := 1) (l := [0, x14.1, 16, (-1)]) [I 0, I x14.1, I 16, I (-1)] sl23 8 (sP J (sP J (sP J (sP J sE)))) J J J J J J J J J) ?_))))))
  rintro _ _ ⟨p17, C18, rfl, rfl, o18⟩
  obtain ⟨x19, e19, H0⟩ := bS H0
  obtain ⟨x20, e20, H0⟩ := bS H0
  refine dk J (dV J (fun hh => uM (rq 0 9) cf24 (fun w hw hb => c_s_l12Rd_num fl w m0 a0_0 x15.2 ([0, x14.1, 16, (-1)]) J (RO.passM hr0_0_0 hw hb) (by simp) (OwnC.passM (id := 8) (hh _ _ J) o18 hw hb ⟨J, trivial⟩) (hw.pass (js := [0]) ⟨0, [], J, (hh _ _ J), trivial⟩ (by decide)) x19 e19) (yB J J) ⟨(hh _ _ J), (pI (fun _ _ h => h.2) J), trivial⟩) J (dD J (stp_indexAddr u24 ts57 (by decide) J J J (Rdb.own (id := 4) J o11) e20) (dA 4 J u57 J ts3 J (dF J (fun hh => stpU_storeEl (id := 4) (i := 4) (⟨x20.u, x20.k, x20.r, x19.1⟩ : F) (by decide) ts3 J J (hh _ _ J) o11 e20 J J J J) ?_))))
  rintro _ _ ⟨C21, rfl, o21⟩
  refine dk J (dn (kb (sr (oB2 5 ts26 J (oC2 2 ts26 J J (nn (cw_ret ?_)))))))
  obtain rfl := sI H0
  exact kr results124 (rC2 2 ts26 J J) [0, 3, 4] (sl J o7 (sl (by simp) o21 ⟨J, J⟩))
 refine sr (oQ J (sn J (cH J H0 (fun H0 => ?_) (fun H0 => ?_))))
 ·obtain ⟨x23, e23, H0⟩ := bS H0
  refine rdt g_mixed (rn 0 13) ⟨[[],[5],[],[],[5],[],[4],[],[4],[],[4],[],[4]], [[],[],[],[],[],[],[],[],[],[],[],[],[4]], [12]⟩ (dA 1 J u26 J ts24 J (dL 5 ts24 J (dM J (dA 1 J u26 J ts24 J (dL 5 ts24 J (dM J (dD J (stp_indexAddr u24 ts57 (by decide) J J J (Rdb.own (id := 4) J o11) e23) (dA 0 J u57 J ts4 J (dD J (stp_load1 ts4 J (Cells.el (Rdb.own (id := 4) J o11) (by decide) e23 0 1 J)) (dK J (dD J (stp_indexAddr u24 ts57 (by decide) J J J (Rdb.own (id := 4) J o11) e23) (dA 0 J u57 J ts4 J (dF J (fun hh => stpU_storeEl (id := 4) (i := 0) (⟨(!x23.u), x23.k, x23.r, x23.nx⟩ : F) (by decide) ts4 J J (hh _ _ J) o11 e23 J J J J) ?_)))))))))))))
  rintro _ _ ⟨C24, rfl, o24⟩
  refine dk J (dn (kb (sr (oB2 5 ts26 J (oC2 2 ts26 J J (nn (cw_ret ?_)))))))
  obtain rfl := sI H0
  exact kr results124 (rC2 2 ts26 J J) [0, 3, 4] (sl J o7 (sl (by simp) o24 ⟨J, J⟩))
 refine sr (oQ J (sn J (cH J H0 (fun H0 => ?_) (fun H0 => ?_))))
 ·refine rdt g_mixed (rn 0 7) ⟨[[],[5],[],[],[0,10],[3],[3]], [[],[],[],[10],[0],[],[3]], [3,6]⟩ (dA 0 J u26 J ts23 J (dL 5 ts23 J (dM J (dE J (fun hh => stpU_lit (sz := 1) (l := [0, (-1), 16, (-2)]) [I 0, I (-1), I 16, I (-2)] sl23 10 (sP J (sP J (sP J (sP J sE)))) J J J J J J J J J) ?_))))
  rintro _ _ ⟨p26, C27, rfl, rfl, o27⟩
  obtain ⟨x28, e28, H0⟩ := bS H0
  obtain ⟨x29, e29, H0⟩ := bS H0
  refine dk J (dV J (fun hh => uM (rq 0 11) cf24 (fun w hw hb => c_s_l12Rd_num fl w m0 a0_0 x15.2 ([0, (-1), 16, (-2)]) J (RO.passM hr0_0_0 hw hb) (by simp) (OwnC.passM (id := 10) (hh _ _ J) o27 hw hb ⟨J, trivial⟩) (hw.pass (js := [0]) ⟨0, [], J, (hh _ _ J), trivial⟩ (by decide)) x28 e28) (yB J J) ⟨(hh _ _ J), (pI (fun _ _ h => h.2) J), trivial⟩) J (dD J (stp_indexAddr u23 ts3 (by decide) J J J (Rdb.own (id := 3) J o7) e29) (dF J (fun hh => stpU_storeEl (id := 3) (i := 0) x28.1 (by decide) ts3 J J (hh _ _ J) o7 e29 J J J J) ?_)))
  rintro _ _ ⟨C30, rfl, o30⟩
  refine dk J (dn (kb (sr (oB2 5 ts26 J (oC2 2 ts26 J J (nn (cw_ret ?_)))))))
  obtain rfl := sI H0
  exact kr results124 (rC2 2 ts26 J J) [0, 3, 4] (sl (by simp) o30 (sl J o11 ⟨J, J⟩))
 refine sr (oQ J (sn J (cH J H0 (fun H0 => ?_) (fun H0 => ?_))))
 ·obtain ⟨x32, e32, H0⟩ := bS H0
  obtain ⟨x33, e33, H0⟩ := bS H0
  refine rdt g_mixed (rn 0 8) ⟨[[],[5],[],[],[0],[4],[],[4]], [[],[],[],[],[0],[],[],[4]], [7]⟩ (dA 1 J u26 J ts24 J (dL 5 ts24 J (dM J (dM J (dV J (fun hh => uM (rq 0 12) cf143 (fun w hw hb => c_s_l2Draw fl w m0 a0_0 x15.2 J (RO.passM hr0_0_0 hw hb) (hw.pass (js := [0]) ⟨0, [], J, (hh _ _ J), trivial⟩ (by decide)) x32 e32) (yA J) ⟨(hh _ _ J), (pI (fun _ _ h => h.2) J), trivial⟩) J (dD J (stp_indexAddr u24 ts57 (by decide) J J J (Rdb.own (id := 4) J o11) e33) (dA 1 J u57 J ts50 J (dF J (fun hh => stpU_storeEl (id := 4) (i := 1) (⟨x33.u, x32.1, x33.r, x33.nx⟩ : F) (by decide) ts50 J J (hh _ _ J) o11 e33 J J J J) ?_))))))))
  rintro _ _ ⟨C34, rfl, o34⟩
  refine dk J (dn (kb (sr (oB2 5 ts26 J (oC2 2 ts26 J J (nn (cw_ret ?_)))))))
  obtain rfl := sI H0
  exact kr results124 (rC2 2 ts26 J J) [0, 3, 4] (sl J o7 (sl (by simp) o34 ⟨J, J⟩))
 refine sr (oQ J (sn J (cH J H0 (fun H0 => ?_) (fun H0 => ?_))))
 ·refine cR (oAL 0 u26 J ts23 J 5 J (oE (stpU_lit (sz := 1) (l := [(-1)]) [I (-1)] sl23 13 (sP J sE) J J J J J J J J J) J ?_))
  rintro _ _ ⟨p36, C37, rfl, rfl, o37⟩
  obtain ⟨x38, e38, H0⟩ := bS H0
  refine oE (stpU_append sl23 J (id := 3) J J J (by simp) J o7 (Rdb.own (id := 13) J o37) e38) J ?_
  rintro _ _ ⟨p39, c40, C41, rfl, rfl, o41⟩
  refine oA 0 u26 J ts23 J (oC2 5 ts23 J J (ow_nil (kb (sr (oB2 5 ts26 J (oC2 2 ts26 J J (nn (cw_ret ?_))))))))
  obtain rfl := sI H0
  exact kr results124 (rC2 2 ts26 J J) [0, 3, 4] (sl J o41 (sl J o11 ⟨J, J⟩))
 refine sr (oQ J (sn J (cH J H0 (fun H0 => ?_) (fun H0 => ?_))))
 ·refine cR (oE (stpU_lit0 sl24 14) J ?_)
  rintro _ _ ⟨p43, C44, rfl, rfl, o44⟩
  refine oA 1 u26 J ts24 J (oC2 5 ts24 J J (ow_nil (kb (sr (oB2 5 ts26 J (oC2 2 ts26 J J (nn (cw_ret ?_))))))))
  obtain rfl := sI H0
  exact kr results124 (rC2 2 ts26 J J) [0, 3, 14] (sl J o7 (sl (by simp) o44 ⟨J, J⟩))
 refine cw_skip (kb (sr (oB2 5 ts26 J (oC2 2 ts26 J J (nn (cw_ret ?_))))))
 obtain rfl := sI H0
 exact kr results124 (rC2 2 ts26 J J) [0, 3, 4] (sl J o7 (sl J o11 ⟨J, J⟩))

theorem c_s_l5Wrong (fl : Nat) (w : World) (m0 : Nat) (a0_0 : (List UInt8)) (a0_1 : Int) (a1 : Tg) (hn0_0_0 : n0_0_0 = (a0_0).length) (hr0_0_0 : RO w (hkeys [(0, [(m0, .cells #[.slice p0_0_0 n0_0_0 c0_0_0, I a0_1] 95 (0, 0))])]) (RdL p0_0_0 c0_0_0 a0_0)) (hn1_0 : n1_0 = (a1.o).length) (hr1_0 : RO w (hkeys [(0, [(m0, .cells #[.slice p0_0_0 n0_0_0 c0_0_0, I a0_1] 95 (0, 0))])]) (RdL p1_0 c1_0 a1.o)) (hM : Sat w (hkeys [(0, [(m0, .cells #[.slice p0_0_0 n0_0_0 c0_0_0, I a0_1] 95 (0, 0))])]) w [(0, [(m0, .cells #[.slice p0_0_0 n0_0_0 c0_0_0, I a0_1] 95 (0, 0))])]) (r : Tg × Int) (H0 : s_l5Wrong fl a0_0 a0_1 a1 = some r) :
  Ct prog 125 [.pointer (some ⟨m0, 0, none⟩), .agg #[I a1.c, I a1.n, I a1.r, .slice p1_0 n1_0 c1_0]] w [(0, [(m0, .cells #[.slice p0_0_0 n0_0_0 c0_0_0, I a0_1] 95 (0, 0))])] (fun rv h' => SL 70 r.1.o fun x1 y1 z1 C1 => rv = .agg #[I r.1.c, I r.1.n, I r.1.r, .slice x1 y1 z1] ∧ h' = [(0, [(m0, .cells #[.slice p0_0_0 n0_0_0 c0_0_0, I r.2] 95 (0, 0))]), (1, C1)]) := by
 subst hn0_0_0 hn1_0
 unfold s_l5Wrong at H0
 refine ct_of_cw func125 J ntmps125 J hM ?_
 refine sr (oE (stpU_box 1 J J) J ?_)
 rintro _ _ ⟨b1, rfl, rfl⟩
 refine oE (stpU_alloc 2 tz32 J) J ?_
 rintro _ _ ⟨b2, rfl, rfl⟩
 obtain ⟨x3, e3, H0⟩ := bS H0
 refine ns (oB4 1 ts32 J (oE (uC 3 cf102 (fun w hw => c_s_l5Copy fl w a1 J (rp hr1_0 hw) x3 e3) (yA J)) J ?_))
 rintro _ _ ⟨_, ⟨p4, _, c6, C7, rfl, o7, rfl, rfl⟩, rfl⟩
 refine oE (stpU_alloc 4 tz32 J) J ?_
 rintro _ _ ⟨b8, rfl, rfl⟩
 obtain ⟨x9, e9, H0⟩ := bS H0
 refine oC4 4 ts32 J J (nq (oM J (oE (uM (rq 0 5) cf23 (fun w hw hb => c_s_l12Rd_pick fl w m0 a0_0 a0_1 20 J (RO.passM hr0_0_0 hw hb) (hw.pass (js := [0]) ⟨0, [], J, J, trivial⟩ (by decide)) x9 e9) (yB J J) ⟨J, (pI (fun _ _ h => h.2) J), trivial⟩) J ?_)))
 rintro _ _ ⟨_, ⟨rfl, rfl⟩, rfl⟩
 refine nn (cw_block (sr (oQ J (sn J (cH J H0 (fun H0 => ?_) (fun H0 => ?_))))))
 ·refine cR (oM J (oE (stpU_lit (sz := 1) (l := [(-1), 9, 0]) [I (-1), I 9, I 0] sl23 6 (sP J (sP J (sP J sE))) J J J J J J J J J) J ?_))
  rintro _ _ ⟨p11, C12, rfl, rfl, o12⟩
  obtain ⟨x13, e13, H0⟩ := bS H0
  refine oE (uM (rq 0 7) cf24 (fun w hw hb => c_s_l12Rd_num fl w m0 a0_0 x9.2 ([(-1), 9, 0]) J (RO.passM hr0_0_0 hw hb) (by simp) (OwnC.passM (id := 6) J o12 hw hb ⟨J, trivial⟩) (hw.pass (js := [0]) ⟨0, [], J, J, trivial⟩ (by decide)) x13 e13) (yB J J) ⟨J, (pI (fun _ _ h => h.2) J), trivial⟩) J ?_
  rintro _ _ ⟨_, ⟨rfl, rfl⟩, rfl⟩
  refine oA 1 u32 J ts3 J (oC4 4 ts3 J J (ow_nil (kb (sr (oB4 4 ts32 J (oC4 2 ts32 J J (nn (cw_ret ?_))))))))
  obtain rfl := sI H0
  exact kr results125 (rC4 2 ts32 J J) [0, 3] (sl J o7 ⟨J, J⟩)
 refine sr (oQ J (sn J (cH J H0 (fun H0 => ?_) (fun H0 => ?_))))
 ·refine cR (oM J (oE (stpU_lit (sz := 1) (l := [0, 9, 1]) [I 0, I 9, I 1] sl23 8 (sP J (sP J (sP J sE))) J J J J J J J J J) J ?_))
  rintro _ _ ⟨p15, C16, rfl, rfl, o16⟩
  obtain ⟨x17, e17, H0⟩ := bS H0
  refine oE (uM (rq 0 9) cf24 (fun w hw hb => c_s_l12Rd_num fl w m0 a0_0 x9.2 ([0, 9, 1]) J (RO.passM hr0_0_0 hw hb) (by simp) (OwnC.passM (id := 8) J o16 hw hb ⟨J, trivial⟩) (hw.pass (js := [0]) ⟨0, [], J, J, trivial⟩ (by decide)) x17 e17) (yB J J) ⟨J, (pI (fun _ _ h => h.2) J), trivial⟩) J ?_
  rintro _ _ ⟨_, ⟨rfl, rfl⟩, rfl⟩
  refine oA 0 u32 J ts3 J (oC4 4 ts3 J J (ow_nil (kb (sr (oB4 4 ts32 J (oC4 2 ts32 J J (nn (cw_ret ?_))))))))
  obtain rfl := sI H0
  exact kr results125 (rC4 2 ts32 J J) [0, 3] (sl J o7 ⟨J, J⟩)
 refine sr (oQ J (sn J (cH J H0 (fun H0 => ?_) (fun H0 => ?_))))
 ·obtain ⟨x19, e19, H0⟩ := bS H0
  obtain ⟨x20, e20, H0⟩ := bS H0
  refine rdt g_mixed (rn 0 11) ⟨[[],[4],[],[0],[],[0],[],[],[3,12],[],[4]], [[],[],[],[0],[],[0],[],[12],[3],[],[4]], [7,8]⟩ (dA 3 J u32 J ts30 J (dL 4 ts30 J (dM J (dV J (fun hh => uM (rq 0 10) cf23 (fun w hw hb => c_s_l12Rd_pick fl w m0 a0_0 x9.2 3 J (RO.passM hr0_0_0 hw hb) (hw.pass (js := [0]) ⟨0, [], J, (hh _ _ J), trivial⟩ (by decide)) x19 e19) (yB J J) ⟨(hh _ _ J), (pI (fun _ _ h => h.2) J), trivial⟩) J (dM J (dV J (fun hh => uM (rq 0 11) cf23 (fun w hw hb => c_s_l12Rd_pick fl w m0 a0_0 x19.2 3 J (RO.passM hr0_0_0 hw hb) (hw.pass (js := [0]) ⟨0, [], J, (hh _ _ J), trivial⟩ (by decide)) x20 e20) (yB J J) ⟨(hh _ _ J), (pI (fun _ _ h => h.2) J), trivial⟩) J (dD J (stp_build (cs := #[I x19.1, I x20.1]) (sP J (sP J sE)) bt70_9) (dE J (fun hh => stpU_lit (sz := 2) (l := [(⟨x19.1, x20.1⟩ : Ow)]) [.agg #[I x19.1, I x20.1]] sl30 12 (sP J sE) J J J J J J J J J) ?_))))))))
  rintro _ _ ⟨p21, C22, rfl, rfl, o22⟩
  obtain ⟨x23, e23, H0⟩ := bS H0
  refine dk J (dE J (fun hh => stpU_append sl30 J (id := 3) J J J (by simp) (hh _ _ J) o7 (Rdb.own (id := 12) (hh _ _ J) o22) e23) ?_)
  rintro _ _ ⟨p24, c25, C26, rfl, rfl, o26⟩
  refine dk J (dA 3 J u32 J ts30 J (dC4 4 ts30 J J J (dn (kb (sr (oB4 4 ts32 J (oC4 2 ts32 J J (nn (cw_ret ?_)))))))))
  obtain rfl := sI H0
  exact kr results125 (rC4 2 ts32 J J) [0, 3] (sl J o26 ⟨J, J⟩)
 refine sr (oQ J (sn J (cH J H0 (fun H0 => ?_) (fun H0 => ?_))))
 ·refine cR (oM J (oE (stpU_lit (sz := 1) (l := [(-1), 1000001, 1000000]) [I (-1), I 1000001, I 1000000] sl23 13 (sP J (sP J (sP J sE))) J J J J J J J J J) J ?_))
  rintro _ _ ⟨p28, C29, rfl, rfl, o29⟩
  obtain ⟨x30, e30, H0⟩ := bS H0
  refine oE (uM (rq 0 14) cf24 (fun w hw hb => c_s_l12Rd_num fl w m0 a0_0 x9.2 ([(-1), 1000001, 1000000]) J (RO.passM hr0_0_0 hw hb) (by simp) (OwnC.passM (id := 13) J o29 hw hb ⟨J, trivial⟩) (hw.pass (js := [0]) ⟨0, [], J, J, trivial⟩ (by decide)) x30 e30) (yB J J) ⟨J, (pI (fun _ _ h => h.2) J), trivial⟩) J ?_
  rintro _ _ ⟨_, ⟨rfl, rfl⟩, rfl⟩
  refine oA 2 u32 J ts3 J (oC4 4 ts3 J J (ow_nil (kb (sr (oB4 4 ts32 J (oC4 2 ts32 J J (nn (cw_ret ?_))))))))
  obtain rfl := sI H0
  exact kr results125 (rC4 2 ts32 J J) [0, 3] (sl J o7 ⟨J, J⟩)
 refine cw_skip (kb (sr (oB4 4 ts32 J (oC4 2 ts32 J J (nn (cw_ret ?_))))))
 obtain rfl := sI H0
 exact kr results125 (rC4 2 ts32 J J) [0, 3] (sl J o7 ⟨J, J⟩)

theorem c_s_l6Wrong (fl : Nat) (w : World) (m0 : Nat) (a0_0 : (List UInt8)) (a0_1 : Int) (a1 : Mc) (hn0_0_0 : n0_0_0 = (a0_0).length) (hr0_0_0 : RO w (hkeys [(0, [(m0, .cells #[.slice p0_0_0 n0_0_0 c0_0_0, I a0_1] 95 (0, 0))])]) (RdL p0_0_0 c0_0_0 a0_0)) (hn1_0 : n1_0 = (a1.t.b).length) (hr1_0 : RO w (hkeys [(0, [(m0, .cells #[.slice p0_0_0 n0_0_0 c0_0_0, I a0_1] 95 (0, 0))])]) (RdL p1_0 c1_0 a1.t.b)) (hn1_1 : n1_1 = (a1.t.f).length) (hr1_1 : RO w (hkeys [(0, [(m0, .cells #[.slice p0_0_0 n0_0_0 c0_0_0, I a0_1] 95 (0, 0))])]) (RdL p1_1 c1_1 a1.t.f)) (hn1_2 : n1_2 = (a1.c.l).length) (hr1_2 : RO w (hkeys [(0, [(m0, .cells #[.slice p0_0_0 n0_0_0 c0_0_0, I a0_1] 95 (0, 0))])]) (RdL p1_2 c1_2 a1.c.l)) (hn1_3 : n1_3 = (a1.g.o).length) (hr1_3 : RO w (hkeys [(0, [(m0, .cells #[.slice p0_0_0 n0_0_0 c0_0_0, I a0_1] 95 (0, 0))])]) (RdL p1_3 c1_3 a1.g.o)) (hM : Sat w (hkeys [(0, [(m0, .cells #[.slice p0_0_0 n0_0_0 c0_0_0, I a0_1] 95 (0, 0))])]) w [(0, [(m0, .cells #[.slice p0_0_0 n0_0_0 c0_0_0, I a0_1] 95 (0, 0))])]) (r : Mc × Int) (H0 : s_l6Wrong fl a0_0 a0_1 a1 = some r) :
  Ct prog 86 [.pointer (some ⟨m0, 0, none⟩), .agg #[.slice p1_0 n1_0 c1_0, .slice p1_1 n1_1 c1_1, .slice p1_2 n1_2 c1_2, I a1.c.h, I a1.g.c, I a1.g.n, I a1.g.r, .slice p1_3 n1_3 c1_3, I a1.s]] w [(0, [(m0, .cells #[.slice p0_0_0 n0_0_0 c0_0_0, I a0_1] 95 (0, 0))])] (fun rv h' => SL 3 r.1.t.b fun x1 y1 z1 C1 => SL 57 r.1.t.f fun x2 y2 z2 C2 => SL 104 r.1.c.l fun x3 y3 z3 C3 => SL 70 r.1.g.o fun x4 y4 z4 C4 => rv = .agg #[.slice x1 y1 z1, .slice x2 y2 z2, .slice x3 y3 z3, I r.1.c.h, I r.1.g.c, I r.1.g.n, I r.1.g.r, .slice x4 y4 z4, I r.1.s] ∧ h' = [(0, [(m0, .cells #[.slice p0_0_0 n0_0_0 c0_0_0, I r.2] 95 (0, 0))]), (1, C1), (2, C2), (3, C3), (4, C4)]) := by
 subst hn0_0_0 hn1_0 hn1_1 hn1_2 hn1_3
 unfold s_l6Wrong at H0
 refine ct_of_cw func86 J ntmps86 J hM ?_
 refine sr (oE (stpU_box 1 J J) J ?_)
 rintro _ _ ⟨b1, rfl, rfl⟩
 refine oE (stpU_alloc 2 tz34 J) J ?_
 rintro _ _ ⟨b2, rfl, rfl⟩
 obtain ⟨x3, e3, H0⟩ := bS H0
 refine ns (oB9 1 ts34 J (oE (uC 3 cf56 (fun w hw => c_s_l6Copy fl w a1 J (rp hr1_0 hw) J (rp hr1_1 hw) J (rp hr1_2 hw) J (rp hr1_3 hw) x3 e3) (yA J)) J ?_))
 rintro _ _ ⟨_, ⟨p4, _, c6, C7, rfl, o7, p8, _, c10, C11, rfl, o11, p12, _, c14, C15, rfl, o15, p16, _, c18, C19, rfl, o19, rfl, rfl⟩, rfl⟩
 refine oE (stpU_alloc 7 tz34 J) J ?_
 rintro _ _ ⟨b20, rfl, rfl⟩
 obtain ⟨x21, e21, H0⟩ := bS H0
 refine oC9 7 ts34 J J (nq (oM J (oE (uM (rq 0 8) cf23 (fun w hw hb => c_s_l12Rd_pick fl w m0 a0_0 a0_1 24 J (RO.passM hr0_0_0 hw hb) (hw.pass (js := [0]) ⟨0, [], J, J, trivial⟩ (by decide)) x21 e21) (yB J J) ⟨J, (pI (fun _ _ h => h.2) J), trivial⟩) J ?_)))
 rintro _ _ ⟨_, ⟨rfl, rfl⟩, rfl⟩
 refine nn (cw_block (sr (oQ J (sn J (cH J H0 (fun H0 => ?_) (fun H0 => ?_))))))
 ·refine cR (oM J (oE (stpU_lit (sz := 1) (l := [9, (-1), 1]) [I 9, I (-1), I 1] sl23 9 (sP J (sP J (sP J sE))) J J J J J J J J J) J ?_))
  rintro _ _ ⟨p23, C24, rfl, rfl, o24⟩
  obtain ⟨x25, e25, H0⟩ := bS H0
  refine oE (uM (rq 0 10) cf24 (fun w hw hb => c_s_l12Rd_num fl w m0 a0_0 x21.2 ([9, (-1), 1]) J (RO.passM hr0_0_0 hw hb) (by simp) (OwnC.passM (id := 9) J o24 hw hb ⟨J, trivial⟩) (hw.pass (js := [0]) ⟨0, [], J, J, trivial⟩ (by decide)) x25 e25) (yB J J) ⟨J, (pI (fun _ _ h => h.2) J), trivial⟩) J ?_
  rintro _ _ ⟨_, ⟨rfl, rfl⟩, rfl⟩
  refine oA 8 u34 J ts3 J (oC9 7 ts3 J J (ow_nil (kb (sr (oB9 7 ts34 J (oC9 2 ts34 J J (nn (cw_ret ?_))))))))
  obtain rfl := sI H0
  exact kr results86 (rC9 2 ts34 J J) [0, 3, 4, 5, 6] (sl J o7 (sl J o11 (sl J o15 (sl J o19 ⟨J, J⟩))))
 refine sr (oQ J (sn J (cH J H0 (fun H0 => ?_) (fun H0 => ?_))))
 ·obtain ⟨x27, e27, H0⟩ := bS H0
  refine cR (oM J (oM J (oA 2 u34 J ts29 J (oB2 7 ts29 J (oE (uM (rq 0 11) cf123 (fun w hw hb => c_s_l4Wrong fl w m0 a0_0 x21.2 x3.c J (RO.passM hr0_0_0 hw hb) J (OwnC.passM (id := 5) J o15 hw hb ⟨J, trivial⟩) (hw.pass (js := [0]) ⟨0, [], J, J, trivial⟩ (by decide)) x27 e27) (yB J J) ⟨J, (fun _ _ hp => by obtain ⟨_, _, _, _, _, _, _, rfl⟩ := hp; exact ⟨_, J⟩), trivial⟩) J ?_)))))
  rintro _ _ ⟨_, ⟨p28, _, c30, C31, rfl, o31, rfl, rfl⟩, rfl⟩
  obtain ⟨x32, e32, H0⟩ := bS H0
  refine oE (uM (rq 0 13) cf123 (fun w hw hb => c_s_l4Wrong fl w m0 a0_0 x27.2 x27.1 J (RO.passM hr0_0_0 hw hb) J (OwnC.passM (id := 12) J o31 hw hb ⟨J, trivial⟩) (hw.pass (js := [0]) ⟨0, [], J, J, trivial⟩ (by decide)) x32 e32) (yB J J) ⟨J, (fun _ _ hp => by obtain ⟨_, _, _, _, _, _, _, rfl⟩ := hp; exact ⟨_, J⟩), trivial⟩) J ?_
  rintro _ _ ⟨_, ⟨p33, _, c35, C36, rfl, o36, rfl, rfl⟩, rfl⟩
  refine oA 2 u34 J ts29 J (oC9 7 ts29 J J (ow_nil (kb (sr (oB9 7 ts34 J (oC9 2 ts34 J J (nn (cw_ret ?_))))))))
  obtain rfl := sI H0
  exact kr results86 (rC9 2 ts34 J J) [0, 3, 4, 14, 6] (sl J o7 (sl J o11 (sl J o36 (sl J o19 ⟨J, J⟩))))
 refine sr (oQ J (sn J (cH J H0 (fun H0 => ?_) (fun H0 => ?_))))
 ·obtain ⟨x38, e38, H0⟩ := bS H0
  refine cR (oM J (oM J (oA 0 u34 J ts26 J (oB2 7 ts26 J (oE (uM (rq 0 15) cf124 (fun w hw hb => c_s_l3Wrong fl w m0 a0_0 x21.2 x3.t J (RO.passM hr0_0_0 hw hb) J (OwnC.passM (id := 3) J o7 hw hb ⟨J, trivial⟩) J (OwnC.passM (id := 4) J o11 hw hb ⟨J, trivial⟩) (hw.pass (js := [0]) ⟨0, [], J, J, trivial⟩ (by decide)) x38 e38) (yB J J) ⟨J, (fun _ _ hp => by obtain ⟨_, _, _, _, _, _, _, _, _, _, _, _, _, rfl⟩ := hp; exact ⟨_, J⟩), trivial⟩) J ?_)))))
  rintro _ _ ⟨_, ⟨p39, _, c41, C42, rfl, o42, p43, _, c45, C46, rfl, o46, rfl, rfl⟩, rfl⟩
  obtain ⟨x47, e47, H0⟩ := bS H0
  refine oE (uM (rq 0 18) cf124 (fun w hw hb => c_s_l3Wrong fl w m0 a0_0 x38.2 x38.1 J (RO.passM hr0_0_0 hw hb) J (OwnC.passM (id := 16) J o42 hw hb ⟨J, trivial⟩) J (OwnC.passM (id := 17) J o46 hw hb ⟨J, trivial⟩) (hw.pass (js := [0]) ⟨0, [], J, J, trivial⟩ (by decide)) x47 e47) (yB J J) ⟨J, (fun _ _ hp => by obtain ⟨_, _, _, _, _, _, _, _, _, _, _, _, _, rfl⟩ := hp; exact ⟨_, J⟩), trivial⟩) J ?_
  rintro _ _ ⟨_, ⟨p48, _, c50, C51, rfl, o51, p52, _, c54, C55, rfl, o55, rfl, rfl⟩, rfl⟩
  refine oA 0 u34 J ts26 J (oC9 7 ts26 J J (ow_nil (kb (sr (oB9 7 ts34 J (oC9 2 ts34 J J (nn (cw_ret ?_))))))))
  obtain rfl := sI H0
  exact kr results86 (rC9 2 ts34 J J) [0, 19, 20, 5, 6] (sl J o51 (sl J o55 (sl J o15 (sl J o19 ⟨J, J⟩))))
 refine sr (oQ J (sn J (cH J H0 (fun H0 => ?_) (fun H0 => ?_))))
 ·obtain ⟨x57, e57, H0⟩ := bS H0
  refine cR (oM J (oM J (oA 4 u34 J ts32 J (oB4 7 ts32 J (oE (uM (rq 0 21) cf125 (fun w hw hb => c_s_l5Wrong fl w m0 a0_0 x21.2 x3.g J (RO.passM hr0_0_0 hw hb) J (OwnC.passM (id := 6) J o19 hw hb ⟨J, trivial⟩) (hw.pass (js := [0]) ⟨0, [], J, J, trivial⟩ (by decide)) x57 e57) (yB J J) ⟨J, (fun _ _ hp => by obtain ⟨_, _, _, _, _, _, _, rfl⟩ := hp; exact ⟨_, J⟩), trivial⟩) J ?_)))))
  rintro _ _ ⟨_, ⟨p58, _, c60, C61, rfl, o61, rfl, rfl⟩, rfl⟩
  obtain ⟨x62, e62, H0⟩ := bS H0
  refine oE (uM (rq 0 23) cf125 (fun w hw hb => c_s_l5Wrong fl w m0 a0_0 x57.2 x57.1 J (RO.passM hr0_0_0 hw hb) J (OwnC.passM (id := 22) J o61 hw hb ⟨J, trivial⟩) (hw.pass (js := [0]) ⟨0, [], J, J, trivial⟩ (by decide)) x62 e62) (yB J J) ⟨J, (fun _ _ hp => by obtain ⟨_, _, _, _, _, _, _, rfl⟩ := hp; exact ⟨_, J⟩), trivial⟩) J ?_
  rintro _ _ ⟨_, ⟨p63, _, c65, C66, rfl, o66, rfl, rfl⟩, rfl⟩
  refine oA 4 u34 J ts32 J (oC9 7 ts32 J J (ow_nil (kb (sr (oB9 7 ts34 J (oC9 2 ts34 J J (nn (cw_ret ?_))))))))
  obtain rfl := sI H0
  exact kr results86 (rC9 2 ts34 J J) [0, 3, 4, 5, 24] (sl J o7 (sl J o11 (sl J o15 (sl J o66 ⟨J, J⟩))))
 refine cw_skip (kb (sr (oB9 7 ts34 J (oC9 2 ts34 J J (nn (cw_ret ?_))))))
 obtain rfl := sI H0
 exact kr results86 (rC9 2 ts34 J J) [0, 3, 4, 5, 6] (sl J o7 (sl J o11 (sl J o15 (sl J o19 ⟨J, J⟩))))

theorem c_s_l7Wrong (fl : Nat) (w : World) (m0 : Nat) (a0_0 : (List UInt8)) (a0_1 : Int) (a1 : Mm) (hn0_0_0 : n0_0_0 = (a0_0).length) (hr0_0_0 : RO w (hkeys [(0, [(m0, .cells #[.slice p0_0_0 n0_0_0 c0_0_0, I a0_1] 95 (0, 0))])]) (RdL p0_0_0 c0_0_0 a0_0)) (hn1_0 : n1_0 = (a1.m.t.b).length) (hr1_0 : RO w (hkeys [(0, [(m0, .cells #[.slice p0_0_0 n0_0_0 c0_0_0, I a0_1] 95 (0, 0))])]) (RdL p1_0 c1_0 a1.m.t.b)) (hn1_1 : n1_1 = (a1.m.t.f).length) (hr1_1 : RO w (hkeys [(0, [(m0, .cells #[.slice p0_0_0 n0_0_0 c0_0_0, I a0_1] 95 (0, 0))])]) (RdL p1_1 c1_1 a1.m.t.f)) (hn1_2 : n1_2 = (a1.m.c.l).length) (hr1_2 : RO w (hkeys [(0, [(m0, .cells #[.slice p0_0_0 n0_0_0 c0_0_0, I a0_1] 95 (0, 0))])]) (RdL p1_2 c1_2 a1.m.c.l)) (hn1_3 : n1_3 = (a1.m.g.o).length) (hr1_3 : RO w (hkeys [(0, [(m0, .cells #[.slice p0_0_0 n0_0_0 c0_0_0, I a0_1] 95 (0, 0))])]) (RdL p1_3 c1_3 a1.m.g.o)) (hn1_4 : n1_4 = (a1.k).length) (hr1_4 : RO w (hkeys [(0, [(m0, .cells #[.slice p0_0_0 n0_0_0 c0_0_0, I a0_1] 95 (0, 0))])]) (RdL p1_4 c1_4 a1.k)) (hM : Sat w (hkeys [(0, [(m0, .cells #[.slice p0_0_0 n0_0_0 c0_0_0, I a0_1] 95 (0, 0))])]) w [(0, [(m0, .cells #[.slice p0_0_0 n0_0_0 c0_0_0, I a0_1] 95 (0, 0))])]) (r : Mm × Int) (H0 : s_l7Wrong fl a0_0 a0_1 a1 = some r) :
  Ct prog 50 [.pointer (some ⟨m0, 0, none⟩), .agg #[.slice p1_0 n1_0 c1_0, .slice p1_1 n1_1 c1_1, .slice p1_2 n1_2 c1_2, I a1.m.c.h, I a1.m.g.c, I a1.m.g.n, I a1.m.g.r, .slice p1_3 n1_3 c1_3, I a1.m.s, .slice p1_4 n1_4 c1_4, I a1.h]] w [(0, [(m0, .cells #[.slice p0_0_0 n0_0_0 c0_0_0, I a0_1] 95 (0, 0))])] (fun rv h' => SL 3 r.1.m.t.b fun x1 y1 z1 C1 => SL 57 r.1.m.t.f fun x2 y2 z2 C2 => SL 104 r.1.m.c.l fun x3 y3 z3 C3 => SL 70 r.1.m.g.o fun x4 y4 z4 C4 => SL 4 r.1.k fun x5 y5 z5 C5 => rv = .agg #[.slice x1 y1 z1, .slice x2 y2 z2, .slice x3 y3 z3, I r.1.m.c.h, I r.1.m.g.c, I r.1.m.g.n, I r.1.m.g.r, .slice x4 y4 z4, I r.1.m.s, .slice x5 y5 z5, I r.1.h] ∧ h' = [(0, [(m0, .cells #[.slice p0_0_0 n0_0_0 c0_0_0, I r.2] 95 (0, 0))]), (1, C1), (2, C2), (3, C3), (4, C4), (5, C5)]) := by
 subst hn0_0_0 hn1_0 hn1_1 hn1_2 hn1_3 hn1_4
 unfold s_l7Wrong at H0
 refine ct_of_cw func50 J ntmps50 J hM ?_
 refine sr (oE (stpU_box 1 J J) J ?_)
 rintro _ _ ⟨b1, rfl, rfl⟩
 refine oE (stpU_alloc 2 tz37 J) J ?_
 rintro _ _ ⟨b2, rfl, rfl⟩
 obtain ⟨x3, e3, H0⟩ := bS H0
 refine ns (oB11 1 ts37 J (oE (uC 3 cf27 (fun w hw => c_s_l7Copy fl w a1 J (rp hr1_0 hw) J (rp hr1_1 hw) J (rp hr1_2 hw) J (rp hr1_3 hw) J (rp hr1_4 hw) x3 e3) (yA J)) J ?_))
 rintro _ _ ⟨_, ⟨p4, _, c6, C7, rfl, o7, p8, _, c10, C11, rfl, o11, p12, _, c14, C15, rfl, o15, p16, _, c18, C19, rfl, o19, p20, _, c22, C23, rfl, o23, rfl, rfl⟩, rfl⟩
 refine oE (stpU_alloc 8 tz37 J) J ?_
 rintro _ _ ⟨b24, rfl, rfl⟩
 obtain ⟨x25, e25, H0⟩ := bS H0
 refine oC11 8 ts37 J J (nq (oM J (oE (uM (rq 0 9) cf23 (fun w hw hb => c_s_l12Rd_pick fl w m0 a0_0 a0_1 20 J (RO.passM hr0_0_0 hw hb) (hw.pass (js := [0]) ⟨0, [], J, J, trivial⟩ (by decide)) x25 e25) (yB J J) ⟨J, (pI (fun _ _ h => h.2) J), trivial⟩) J ?_)))
 rintro _ _ ⟨_, ⟨rfl, rfl⟩, rfl⟩
 refine nn (cw_block (sr (oQ J (sn J (cH J H0 (fun H0 => ?_) (fun H0 => ?_))))))
 ·refine cR (oM J (oE (stpU_lit (sz := 1) (l := [(-1), 16, 0]) [I (-1), I 16, I 0] sl23 10 (sP J (sP J (sP J sE))) J J J J J J J J J) J ?_))
  rintro _ _ ⟨p27, C28, rfl, rfl, o28⟩
  obtain ⟨x29, e29, H0⟩ := bS H0
  refine oE (uM (rq 0 11) cf24 (fun w hw hb => c_s_l12Rd_num fl w m0 a0_0 x25.2 ([(-1), 16, 0]) J (RO.passM hr0_0_0 hw hb) (by simp) (OwnC.passM (id := 10) J o28 hw hb ⟨J, trivial⟩) (hw.pass (js := [0]) ⟨0, [], J, J, trivial⟩ (by decide)) x29 e29) (yB J J) ⟨J, (pI (fun _ _ h => h.2) J), trivial⟩) J ?_
  rintro _ _ ⟨_, ⟨rfl, rfl⟩, rfl⟩
  refine oA 10 u37 J ts3 J (oC11 8 ts3 J J (ow_nil (kb (sr (oB11 8 ts37 J (oC11 2 ts37 J J (nn (cw_ret ?_))))))))
  obtain rfl := sI H0
  exact kr results50 (rC11 2 ts37 J J) [0, 3, 4, 5, 6, 7] (sl J o7 (sl J o11 (sl J o15 (sl J o19 (sl J o23 ⟨J, J⟩)))))
 refine sr (oQ J (sn J (cH J H0 (fun H0 => ?_) (fun H0 => ?_))))
 ·refine cR (oAL 9 u37 J ts35 J 8 J (oE (stpU_lit (sz := 1) (l := [true]) [.bool true] sl35 12 (sP J sE) J J J J J J J J J) J ?_))
  rintro _ _ ⟨p31, C32, rfl, rfl, o32⟩
  obtain ⟨x33, e33, H0⟩ := bS H0
  refine oE (stpU_append sl35 J (id := 7) J J J (by simp) J o23 (Rdb.own (id := 12) J o32) e33) J ?_
  rintro _ _ ⟨p34, c35, C36, rfl, rfl, o36⟩
  refine oA 9 u37 J ts35 J (oC11 8 ts35 J J (ow_nil (kb (sr (oB11 8 ts37 J (oC11 2 ts37 J J (nn (cw_ret ?_))))))))
  obtain rfl := sI H0
  exact kr results50 (rC11 2 ts37 J J) [0, 3, 4, 5, 6, 7] (sl J o7 (sl J o11 (sl J o15 (sl J o19 (sl J o36 ⟨J, J⟩)))))
 refine sr (oQ J (sn J (cH J H0 (fun H0 => ?_) (fun H0 => ?_))))
 ·obtain ⟨x38, e38, H0⟩ := bS H0
  refine cR (oM J (oM J (oM J (oA 0 u37 J ts34 J (oB9 8 ts34 J (oE (uM (rq 0 13) cf86 (fun w hw hb => c_s_l6Wrong fl w m0 a0_0 x25.2 x3.m J (RO.passM hr0_0_0 hw hb) J (OwnC.passM (id := 3) J o7 hw hb ⟨J, trivial⟩) J (OwnC.passM (id := 4) J o11 hw hb ⟨J, trivial⟩) J (OwnC.passM (id := 5) J o15 hw hb ⟨J, trivial⟩) J (OwnC.passM (id := 6) J o19 hw hb ⟨J, trivial⟩) (hw.pass (js := [0]) ⟨0, [], J, J, trivial⟩ (by decide)) x38 e38) (yB J J) ⟨J, (fun _ _ hp => by obtain ⟨_, _, _, _, _, _, _, _, _, _, _, _, _, _, _, _, _, _, _, _, _, _, _, _, _, rfl⟩ := hp; exact ⟨_, J⟩), trivial⟩) J ?_))))))
  rintro _ _ ⟨_, ⟨p39, _, c41, C42, rfl, o42, p43, _, c45, C46, rfl, o46, p47, _, c49, C50, rfl, o50, p51, _, c53, C54, rfl, o54, rfl, rfl⟩, rfl⟩
  obtain ⟨x55, e55, H0⟩ := bS H0
  refine oE (uM (rq 0 18) cf86 (fun w hw hb => c_s_l6Wrong fl w m0 a0_0 x38.2 x38.1 J (RO.passM hr0_0_0 hw hb) J (OwnC.passM (id := 14) J o42 hw hb ⟨J, trivial⟩) J (OwnC.passM (id := 15) J o46 hw hb ⟨J, trivial⟩) J (OwnC.passM (id := 16) J o50 hw hb ⟨J, trivial⟩) J (OwnC.passM (id := 17) J o54 hw hb ⟨J, trivial⟩) (hw.pass (js := [0]) ⟨0, [], J, J, trivial⟩ (by decide)) x55 e55) (yB J J) ⟨J, (fun _ _ hp => by obtain ⟨_, _, _, _, _, _, _, _, _, _, _, _, _, _, _, _, _, _, _, _, _, _, _, _, _, rfl⟩ := hp; exact ⟨_, J⟩), trivial⟩) J ?_
  rintro _ _ ⟨_, ⟨p56, _, c58, C59, rfl, o59, p60, _, c62, C63, rfl, o63, p64, _, c66, C67, rfl, o67, p68, _, c70, C71, rfl, o71, rfl, rfl⟩, rfl⟩
  obtain ⟨x72, e72, H0⟩ := bS H0
  refine oE (uM (rq 0 23) cf86 (fun w hw hb => c_s_l6Wrong fl w m0 a0_0 x55.2 x55.1 J (RO.passM hr0_0_0 hw hb) J (OwnC.passM (id := 19) J o59 hw hb ⟨J, trivial⟩) J (OwnC.passM (id := 20) J o63 hw hb ⟨J, trivial⟩) J (OwnC.passM (id := 21) J o67 hw hb ⟨J, trivial⟩) J (OwnC.passM (id := 22) J o71 hw hb ⟨J, trivial⟩) (hw.pass (js := [0]) ⟨0, [], J, J, trivial⟩ (by decide)) x72 e72) (yB J J) ⟨J, (fun _ _ hp => by obtain ⟨_, _, _, _, _, _, _, _, _, _, _, _, _, _, _, _, _, _, _, _, _, _, _, _, _, rfl⟩ := hp; exact ⟨_, J⟩), trivial⟩) J ?_
  rintro _ _ ⟨_, ⟨p73, _, c75, C76, rfl, o76, p77, _, c79, C80, rfl, o80, p81, _, c83, C84, rfl, o84, p85, _, c87, C88, rfl, o88, rfl, rfl⟩, rfl⟩
  refine oA 0 u37 J ts34 J (oC11 8 ts34 J J (ow_nil (kb (sr (oB11 8 ts37 J (oC11 2 ts37 J J (nn (cw_ret ?_))))))))
  obtain rfl := sI H0
  exact kr results50 (rC11 2 ts37 J J) [0, 24, 25, 26, 27, 7] (sl J o76 (sl J o80 (sl J o84 (sl J o88 (sl J o23 ⟨J, J⟩)))))
 refine sr (oQ J (sn J (cH J H0 (fun H0 => ?_) (fun H0 => ?_))))
 ·obtain ⟨x90, e90, H0⟩ := bS H0
  refine sr (oM J (oAL 9 u37 J ts35 J 8 J (oD (stp_len u35 J) J (oE (uM (rq 0 28) cf23 (fun w hw hb => c_s_l12Rd_pick fl w m0 a0_0 x25.2 ((x3.k).length : Int) J (RO.passM hr0_0_0 hw hb) (hw.pass (js := [0]) ⟨0, [], J, J, trivial⟩ (by decide)) x90 e90) (yB J J) ⟨J, (pI (fun _ _ h => h.2) J), trivial⟩) J ?_))))
  rintro _ _ ⟨_, ⟨rfl, rfl⟩, rfl⟩
  obtain ⟨x91, e91, H0⟩ := bS H0
  refine sn J (rdt g_mixed (rn 0 11) ⟨[[],[8],[],[],[8],[],[7],[7],[],[7],[7]], [[],[],[],[],[],[],[],[],[],[],[7]], [10]⟩ (dA 9 J u37 J ts35 J (dL 8 ts35 J (dM J (dA 9 J u37 J ts35 J (dL 8 ts35 J (dM J (dD J (stp_indexAddr u35 ts4 (by decide) J J J (Rdb.own (id := 7) J o23) e91) (dD J (stp_load1 ts4 J (Cells.el (Rdb.own (id := 7) J o23) (by decide) e91 0 1 J)) (dK J (dD J (stp_indexAddr u35 ts4 (by decide) J J J (Rdb.own (id := 7) J o23) e91) (dF J (fun hh => stpU_storeEl (id := 7) (i := 0) (!x91) (by decide) ts4 J J (hh _ _ J) o23 e91 J J J J) ?_))))))))))))
  rintro _ _ ⟨C92, rfl, o92⟩
  refine dk J (dn (kb (sr (oB11 8 ts37 J (oC11 2 ts37 J J (nn (cw_ret ?_)))))))
  obtain rfl := sI H0
  exact kr results50 (rC11 2 ts37 J J) [0, 3, 4, 5, 6, 7] (sl J o7 (sl J o11 (sl J o15 (sl J o19 (sl (by simp) o92 ⟨J, J⟩)))))
 refine cw_skip (kb (sr (oB11 8 ts37 J (oC11 2 ts37 J J (nn (cw_ret ?_))))))
 obtain rfl := sI H0
 exact kr results50 (rC11 2 ts37 J J) [0, 3, 4, 5, 6, 7] (sl J o7 (sl J o11 (sl J o15 (sl J o19 (sl J o23 ⟨J, J⟩)))))

theorem c_s_l7Case (fl : Nat) (w : World) (a0 : (List UInt8)) (hn0_0 : n0_0 = (a0).length) (hr0_0 : RO w [] (RdL p0_0 c0_0 a0)) (r : Mm) (H0 : s_l7Case fl a0 = some r) :
  Ct prog 20 [.slice p0_0 n0_0 c0_0] w [] (fun rv h' => SL 3 r.m.t.b fun x0 y0 z0 C0 => SL 57 r.m.t.f fun x1 y1 z1 C1 => SL 104 r.m.c.l fun x2 y2 z2 C2 => SL 70 r.m.g.o fun x3 y3 z3 C3 => SL 4 r.k fun x4 y4 z4 C4 => rv = .agg #[.slice x0 y0 z0, .slice x1 y1 z1, .slice x2 y2 z2, I r.m.c.h, I r.m.g.c, I r.m.g.n, I r.m.g.r, .slice x3 y3 z3, I r.m.s, .slice x4 y4 z4, I r.h] ∧ h' = [(0, C0), (1, C1), (2, C2), (3, C3), (4, C4)]) := by
 subst hn0_0
 unfold s_l7Case at H0
 refine ct_of_cw func20 J ntmps20 J (Sat.refl _ _) ?_
 refine sr (oE (stpU_alloc 0 tz37 J) J ?_)
 rintro _ _ ⟨b1, rfl, rfl⟩
 refine ns (oM J (oE (uC 1 cf21 (fun w hw => c_open21 w a0 p0_0 ((a0).length) c0_0 J (RO.cap hr0_0).1) (yA J)) J ?_))
 rintro _ _ ⟨_, ⟨b2, rfl, rfl⟩, rfl⟩
 obtain ⟨x3, e3, H0⟩ := bS H0
 refine ss J (oM J (oM J (oE (uM (fun i => bif Nat.beq i 0 then 1 else 2 + i) cf51 (fun w hw hb => c_s_l7Draw fl w b2 (a0.take 2000) 0 J (RO.passM (RO.takeN 2000 hr0_0) hw hb) (hw.pass (js := [1]) ⟨1, [], J, J, trivial⟩ (by decide)) x3 e3) (yA J) ⟨J, (fun _ _ hp => by obtain ⟨_, _, _, _, _, _, _, _, _, _, _, _, _, _, _, _, _, _, _, _, _, _, _, _, _, _, _, _, _, _, _, rfl⟩ := hp; exact ⟨_, J⟩), trivial⟩) J ?_)))
 rintro _ _ ⟨_, ⟨p4, _, c6, C7, rfl, o7, p8, _, c10, C11, rfl, o11, p12, _, c14, C15, rfl, o15, p16, _, c18, C19, rfl, o19, p20, _, c22, C23, rfl, o23, rfl, rfl⟩, rfl⟩
 obtain ⟨x24, e24, H0⟩ := bS H0
 refine oE (uM (fun i => bif Nat.beq i 0 then 1 else 8 + i) cf50 (fun w hw hb => c_s_l7Wrong fl w b2 (a0.take 2000) x3.2 x3.1 J (RO.passM (RO.takeN 2000 hr0_0) hw hb) J (OwnC.passM (id := 3) J o7 hw hb ⟨J, trivial⟩) J (OwnC.passM (id := 4) J o11 hw hb ⟨J, trivial⟩) J (OwnC.passM (id := 5) J o15 hw hb ⟨J, trivial⟩) J (OwnC.passM (id := 6) J o19 hw hb ⟨J, trivial⟩) J (OwnC.passM (id := 7) J o23 hw hb ⟨J, trivial⟩) (hw.pass (js := [1]) ⟨1, [], J, J, trivial⟩ (by decide)) x24 e24) (yB J J) ⟨J, (fun _ _ hp => by obtain ⟨_, _, _, _, _, _, _, _, _, _, _, _, _, _, _, _, _, _, _, _, _, _, _, _, _, _, _, _, _, _, _, rfl⟩ := hp; exact ⟨_, J⟩), trivial⟩) J ?_
 rintro _ _ ⟨_, ⟨p25, _, c27, C28, rfl, o28, p29, _, c31, C32, rfl, o32, p33, _, c35, C36, rfl, o36, p37, _, c39, C40, rfl, o40, p41, _, c43, C44, rfl, o44, rfl, rfl⟩, rfl⟩
 refine oC11 0 ts37 J J (nn (cw_ret ?_))
 obtain rfl := sI H0
 exact kr results20 (rC11 0 ts37 J J) [9, 10, 11, 12, 13] (sl J o28 (sl J o32 (sl J o36 (sl J o40 (sl J o44 ⟨J, J⟩)))))

theorem c_i_TableValid (fl : Nat) (w : World) (a0 : T) (hn0_0 : n0_0 = (a0.b).length) (hr0_0 : RO w [] (RdL p0_0 c0_0 a0.b)) (hn0_1 : n0_1 = (a0.f).length) (hr0_1 : RO w [] (RdL p0_1 c0_1 a0.f)) (hg : RO w [] (fun w' => w'.rangeAt 0 0 [.bool false, I 0, I 0, I 0, I (-1)])) (r : Bool) (H0 : i_TableValid fl a0 = some r) :
    Ct prog 33 [.agg #[.slice p0_0 n0_0 c0_0, .slice p0_1 n0_1 c0_1]] w [] (fun rv h' => rv = .bool r ∧ h' = []) := by
  obtain rfl := hn0_0
  obtain rfl := hn0_1
  unfold i_TableValid at H0
  obtain rfl := Option.some.inj H0
  exact ct_of_calls (tableValid_c _ a0 w ⟨_, _, J, (hr0_0 w (Fr.refl _ _)).rd, (hr0_1 w (Fr.refl _ _)).rd⟩ (freeG_of (hg w (Fr.refl _ _))))

theorem c_i_within (fl : Nat) (w : World) (a0 : Int) (a1 : Int) (r : Bool) (H0 : i_within fl a0 a1 = some r) :
  Ct prog 32 [I a0, I a1] w [] (fun rv h' => rv = .bool r ∧ h' = []) := by
 unfold i_within at H0
 refine ct_of_cw func32 J ntmps32 J (Sat.refl _ _) ?_
 obtain ⟨y1, ey1, H0⟩ := bS H0
 refine sr (ss J (oM J (oI J (oM J (ow_cutY 4 11 y1 ?_ ?_)))))
 ·rcases Bool.eq_false_or_eq_true (decide (0 ≤ a0)) with hy1 | hy1
  ·have ey1 := cond_t ey1 hy1
   refine oG J hy1 (mv J) J (oG J hy1 (mv J) J (oG J hy1 (stp_lss J J) J (oD (stp_pick_t J hy1 J) J ?_)))
   obtain rfl := sI ey1
   exact ow_nil (jy 4 0)
  have ey1 := cond_f ey1 hy1
  refine oO J hy1 J (oO J hy1 J (oO J hy1 J (oD (stp_pick_f J hy1 J) J ?_)))
  obtain rfl := sI ey1
  exact ow_nil (jy 4 0)
 refine sn J (cw_ret ?_)
 obtain rfl := sI H0
 exact kr results32 (rT J) [] ⟨J, J⟩

theorem c_i_tagValid (fl : Nat) (w : World) (a0 : Int) (r : Bool) (H0 : i_tagValid fl a0 = some r) :
  Ct prog 136 [I a0] w [] (fun rv h' => rv = .bool r ∧ h' = []) := by
 unfold i_tagValid at H0
 refine ct_of_cw func136 J ntmps136 J (Sat.refl _ _) ?_
 obtain ⟨y1, ey1, H0⟩ := bS H0
 refine sr (ss J (oM J (oI J (oM J (ow_cutY 3 8 y1 ?_ ?_)))))
 ·rcases Bool.eq_false_or_eq_true (decide ((-1) ≤ a0)) with hy1 | hy1
  ·have ey1 := cond_t ey1 hy1
   refine oG J hy1 (mv J) J (oG J hy1 (stp_lss J J) J (oD (stp_pick_t J hy1 J) J ?_))
   obtain rfl := sI ey1
   exact ow_nil (jy 3 0)
  have ey1 := cond_f ey1 hy1
  refine oO J hy1 J (oO J hy1 J (oD (stp_pick_f J hy1 J) J ?_))
  obtain rfl := sI ey1
  exact ow_nil (jy 3 0)
 refine sn J (cw_ret ?_)
 obtain rfl := sI H0
 exact kr results136 (rT J) [] ⟨J, J⟩

theorem c_i_RightsValid (fl : Nat) (w : World) (a0 : Int) (r : Bool) (H0 : i_RightsValid fl a0 = some r) :
  Ct prog 37 [I a0] w [] (fun rv h' => rv = .bool r ∧ h' = []) := by
 unfold i_RightsValid at H0
 refine ct_of_cw func37 J ntmps37 J (Sat.refl _ _) ?_
 obtain ⟨x1, e1, H0⟩ := bS H0
 refine sr (ss J (oM J (oE (uC 0 cf32 (fun w hw => c_i_within fl w a0 8 x1 e1) (yB J J)) J ?_)))
 rintro _ _ ⟨_, ⟨rfl, rfl⟩, rfl⟩
 refine sn J (cw_ret ?_)
 obtain rfl := sI H0
 exact kr results37 (rT J) [] ⟨J, J⟩

theorem c_i_lineValid (fl : Nat) (w : World) (a0 : Ln) (r : Bool) (H0 : i_lineValid fl a0 = some r) :
  Ct prog 106 [.agg #[.bool a0.va, I a0.tg, I a0.pg, I a0.fr, I a0.ri, .bool a0.wi]] w [] (fun rv h' => rv = .bool r ∧ h' = []) := by
 unfold i_lineValid at H0
 refine ct_of_cw func106 J ntmps106 J (Sat.refl _ _) ?_
 refine sr (oE (stpU_box 0 J J) J ?_)
 rintro _ _ ⟨b1, rfl, rfl⟩
 refine sq J (oAL 0 u104 J ts4 J 0 J (oK J (nn (cH J H0 (fun H0 => ?_) (fun H0 => ?_)))))
 ·refine sr (oB6 0 ts104 J (oD (stp_build (cs := #[.bool false, I 0, I 0, I 0, I 0, .bool false]) sE bt104_11) J (oD (stp_eqlS te104 a0 (⟨false, 0, 0, 0, 0, false⟩ : Ln) J J) J (sr1 J (kR ?_)))))
  obtain rfl := sI H0
  exact kr results106 (rT J) [] ⟨J, J⟩
 obtain ⟨x3, e3, H0⟩ := bS H0
 refine ks (oAL 1 u104 J ts3 J 0 J (oE (uC 1 cf136 (fun w hw => c_i_tagValid fl w a0.tg x3 e3) (yA J)) J ?_))
 rintro _ _ ⟨_, ⟨rfl, rfl⟩, rfl⟩
 obtain ⟨y4, ey4, H0⟩ := bS H0
 refine oM J (ow_cutY 4 16 y4 ?_ ?_)
 ·rcases Bool.eq_false_or_eq_true x3 with hy4 | hy4
  ·have ey4 := cond_t ey4 hy4
   obtain ⟨x5, e5, ey4⟩ := bS ey4
   refine oG J hy4 (fA 2 u104 J ts3 J J J) J (oG J hy4 (lB 0 ts3 J J J) J (ow_eff (.some J hy4) (uC 1 cf32 (fun w hw => c_i_within fl w a0.pg 256 x5 e5) (yB J J)) J ?_))
   rintro _ _ ⟨_, ⟨rfl, rfl⟩, rfl⟩
   refine oD (stp_pick_t J hy4 J) J ?_
   obtain rfl := sI ey4
   exact ow_nil (jy 4 0)
  have ey4 := cond_f ey4 hy4
  refine oO J hy4 J (oO J hy4 J (oO J hy4 J (oD (stp_pick_f J hy4 J) J ?_)))
  obtain rfl := sI ey4
  exact ow_nil (jy 4 0)
 obtain ⟨y6, ey6, H0⟩ := bS H0
 refine oM J (ow_cutY 4 21 y6 ?_ ?_)
 ·rcases Bool.eq_false_or_eq_true y4 with hy6 | hy6
  ·have ey6 := cond_t ey6 hy6
   obtain ⟨x7, e7, ey6⟩ := bS ey6
   refine oG J hy6 (fA 3 u104 J ts3 J J J) J (oG J hy6 (lB 0 ts3 J J J) J (ow_eff (.some J hy6) (uC 1 cf32 (fun w hw => c_i_within fl w a0.fr 16 x7 e7) (yB J J)) J ?_))
   rintro _ _ ⟨_, ⟨rfl, rfl⟩, rfl⟩
   refine oD (stp_pick_t J hy6 J) J ?_
   obtain rfl := sI ey6
   exact ow_nil (jy 4 0)
  have ey6 := cond_f ey6 hy6
  refine oO J hy6 J (oO J hy6 J (oO J hy6 J (oD (stp_pick_f J hy6 J) J ?_)))
  obtain rfl := sI ey6
  exact ow_nil (jy 4 0)
 obtain ⟨y8, ey8, H0⟩ := bS H0
 refine oM J (ow_cutY 4 26 y8 ?_ ?_)
 ·rcases Bool.eq_false_or_eq_true y6 with hy8 | hy8
  ·have ey8 := cond_t ey8 hy8
   obtain ⟨x9, e9, ey8⟩ := bS ey8
   refine oG J hy8 (fA 4 u104 J ts3 J J J) J (oG J hy8 (lB 0 ts3 J J J) J (ow_eff (.some J hy8) (uC 1 cf37 (fun w hw => c_i_RightsValid fl w a0.ri x9 e9) (yA J)) J ?_))
   rintro _ _ ⟨_, ⟨rfl, rfl⟩, rfl⟩
   refine oD (stp_pick_t J hy8 J) J ?_
   obtain rfl := sI ey8
   exact ow_nil (jy 4 0)
  have ey8 := cond_f ey8 hy8
  refine oO J hy8 J (oO J hy8 J (oO J hy8 J (oD (stp_pick_f J hy8 J) J ?_)))
  obtain rfl := sI ey8
  exact ow_nil (jy 4 0)
 refine sn J (cw_ret ?_)
 obtain rfl := sI H0
 exact kr results106 (rT J) [] ⟨J, J⟩
end Go.Proofs.YtbfbfkpcabkchaaGreatDoor
