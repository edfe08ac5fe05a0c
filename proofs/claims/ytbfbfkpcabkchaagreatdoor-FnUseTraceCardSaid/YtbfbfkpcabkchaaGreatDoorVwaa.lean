/- The walks: functions of the program return what their pure functions say. Printed by a program (gen.py). -/
import Derived.Test.YtbfbfkpcabkchaaGreatDoorVp
import Derived.Test.YtbfbfkpcabkchaaGreatDoorVt
import Derived.Test.YtbfbfkpcabkchaaGreatDoorMan
import Derived.Test.YtbfbfkpcabkchaaGreatDoorMap
import Derived.Test.YtbfbfkpcabkchaaGreatDoorCpy
import Derived.Test.YtbfbfkpcabkchaaGreatDoorVe
set_option linter.unusedSimpArgs false
set_option linter.unusedVariables false
set_option linter.unusedSectionVars false
namespace Go.Proofs.YtbfbfkpcabkchaaGreatDoor
open Go.RowKit
open Tryz
set_option maxHeartbeats 4000000
set_option maxRecDepth 20000
variable {p0_0 p0_0_0 p0_1 p0_2 p0_3 p1_0 : Option Addr} {n0_0 n0_0_0 n0_1 n0_2 n0_3 n1_0 : Nat} {c0_0 c0_0_0 c0_1 c0_2 c0_3 c1_0 : Nat}
theorem c_s_l12Rd_pick (fl : Nat) (w : World) (m0 : Nat) (a0_0 : (List UInt8)) (a0_1 : Int) (a1 : Int) (hn0_0_0 : n0_0_0 = (a0_0).length) (hr0_0_0 : RO w (hkeys [(0, [(m0, .cells #[.slice p0_0_0 n0_0_0 c0_0_0, I a0_1] 95 (0, 0))])]) (RdL p0_0_0 c0_0_0 a0_0)) (hM : Sat w (hkeys [(0, [(m0, .cells #[.slice p0_0_0 n0_0_0 c0_0_0, I a0_1] 95 (0, 0))])]) w [(0, [(m0, .cells #[.slice p0_0_0 n0_0_0 c0_0_0, I a0_1] 95 (0, 0))])]) (r : Int × Int) (H0 : s_l12Rd_pick fl a0_0 a0_1 a1 = some r) :
  Ct prog 23 [.pointer (some ⟨m0, 0, none⟩), I a1] w [(0, [(m0, .cells #[.slice p0_0_0 n0_0_0 c0_0_0, I a0_1] 95 (0, 0))])] (fun rv h' => rv = I r.1 ∧ h' = [(0, [(m0, .cells #[.slice p0_0_0 n0_0_0 c0_0_0, I r.2] 95 (0, 0))])]) := by
 subst hn0_0_0
 unfold s_l12Rd_pick at H0
 refine ct_of_cw func23 J ntmps23 J hM ?_
 obtain ⟨x1, e1, H0⟩ := bS H0
 refine sr (ss J (oM J (oM J (oZ J (oAL 1 u95 J ts3 J 0 J (oP e1 J (oZ J (oA 1 u95 J ts3 J (oC2 0 ts3 J J (nn ?_))))))))))
 obtain ⟨y2, ey2, H0⟩ := bS H0
 refine csr (oM J (oW J (oM J (ow_cutY 7 24 y2 ?_ ?_))))
 ·rcases Bool.eq_false_or_eq_true (decide (a1 < 1)) with hy2 | hy2
  ·have ey2 := cond_t ey2 hy2
   refine oO J hy2 J (oO J hy2 J (oO J hy2 J (oO J hy2 J (oO J hy2 J (oO J hy2 J (oD (stp_pick_t J hy2 J) J ?_))))))
   obtain rfl := sI ey2
   exact ow_nil (jy 7 0)
  have ey2 := cond_f ey2 hy2
  refine oG J hy2 (mv J) J (oG J hy2 (stp_nilCheck J) J (oG J hy2 (fA 0 u95 J ts22 J J J) J (oG J hy2 (lB 0 ts22 J J J) J (oG J hy2 (stp_len u22 J) J (oG J hy2 (stp_eql J J) J (oD (stp_pick_f J hy2 J) J ?_))))))
  obtain rfl := sI ey2
  exact ow_nil (jy 7 0)
 refine ow_nil (kw_nx (cH J H0 (fun H0 => ?_) (fun H0 => ?_)))
 ·refine sr (sr1 J (kR ?_))
  obtain rfl := sI H0
  exact kr results23 (rT J) [0] ⟨J, J⟩
 obtain ⟨x4, e4, H0⟩ := bS H0
 refine ks (oM J (oZ J (oAL 1 u95 J ts3 J 0 J (oD (stp_sub J J e4) J (sq J (oM J (oM J ?_)))))))
 refine oZ J (oAL 0 u95 J ts22 J 0 J (oD (stp_len u22 J) J (oW J (nn (cH J H0 (fun H0 => ?_) (fun H0 => ?_))))))
 ·obtain ⟨x6, e6, H0⟩ := bS H0
  obtain ⟨x7, e7, H0⟩ := bS H0
  obtain ⟨x8, e8, H0⟩ := bS H0
  refine sr (oM J (oZ J (oAL 0 u95 J ts22 J 0 J (oM J (oD (stp_indexAddr u22 ts5 (by decide) J J J (Rdb.ro hr0_0_0) e6) J (oD (stp_load1 ts5 J (Cells.el (Rdb.ro hr0_0_0) (by decide) e6 0 1 J)) J (oD (stp_convI u5 u3 J e7) J (oM J (oD (stp_rem J J e8) J (sn J (cw_ret ?_)))))))))))
  refine kR ?_
  obtain rfl := sI H0
  exact kr results23 (rT J) [0] ⟨J, J⟩
 refine kq (rdt g_mixed (rn 0 46) ⟨[[],[],[],[0],[],[],[],[],[0],[],[],[],[],[],[],[],[],[],[0],[],[],[],[],[],[],[0],[],[],[],[],[],[],[],[],[],[],[],[],[],[],[0]], [], []⟩ (dM J (dZ J (dA 0 J u95 J ts22 J (dL 0 ts22 J (dM J (dM J (dZ J (dA 0 J u95 J ts22 J (dL 0 ts22 J (dD J (stp_len u22 J) ?_)))))))))))
 obtain ⟨x9, e9, H0⟩ := bS H0
 obtain ⟨x10, e10, H0⟩ := bS H0
 obtain ⟨x11, e11, H0⟩ := bS H0
 obtain ⟨x12, e12, H0⟩ := bS H0
 obtain ⟨x13, e13, H0⟩ := bS H0
 obtain ⟨x14, e14, H0⟩ := bS H0
 refine dD J (stp_rem J J e9) (dD J (stp_indexAddr u22 ts5 (by decide) J J J (Rdb.ro hr0_0_0) e10) (dD J (stp_load1 ts5 J (Cells.el (Rdb.ro hr0_0_0) (by decide) e10 0 1 J)) (dD J (stp_convI u5 u3 J e11) (dD J (stp_mul J J e12) (dM J (dZ J (dA 0 J u95 J ts22 J (dL 0 ts22 J (dM J (dD J (stp_mul J J e13) (dP e14 J (dM J (dZ J ?_)))))))))))))
 obtain ⟨x15, e15, H0⟩ := bS H0
 obtain ⟨x16, e16, H0⟩ := bS H0
 obtain ⟨x17, e17, H0⟩ := bS H0
 obtain ⟨x18, e18, H0⟩ := bS H0
 obtain ⟨x19, e19, H0⟩ := bS H0
 obtain ⟨x20, e20, H0⟩ := bS H0
 obtain ⟨x21, e21, H0⟩ := bS H0
 refine dA 0 J u95 J ts22 J (dL 0 ts22 J (dD J (stp_len u22 J) (dD J (stp_rem J J e15) (dD J (stp_indexAddr u22 ts5 (by decide) J J J (Rdb.ro hr0_0_0) e16) (dD J (stp_load1 ts5 J (Cells.el (Rdb.ro hr0_0_0) (by decide) e16 0 1 J)) (dD J (stp_convI u5 u3 J e17) (dD J (stp_mul J J e18) (dP e19 J (dM J (dD J (stp_mul J J e20) (dP e21 J (dM J (dM J ?_)))))))))))))
 obtain ⟨x22, e22, H0⟩ := bS H0
 obtain ⟨x23, e23, H0⟩ := bS H0
 obtain ⟨x24, e24, H0⟩ := bS H0
 obtain ⟨x25, e25, H0⟩ := bS H0
 refine dZ J (dA 0 J u95 J ts22 J (dL 0 ts22 J (dD J (stp_len u22 J) (dD J (stp_quo J J e22) (dD J (stp_mul J J e23) (dP e24 J (dS J (dn (kw_nx (sr (oM J (oM J (oD (stp_quo J J e25) J ?_)))))))))))))
 obtain ⟨x26, e26, H0⟩ := bS H0
 refine oD (stp_xor J J) J (ss J (oM J (oM J (oD (stp_rem J J e26) J (sn J (cw_ret ?_))))))
 obtain rfl := sI H0
 exact kr results23 (rT J) [0] ⟨J, J⟩

theorem c_s_l12Rd_num (fl : Nat) (w : World) (m0 : Nat) (a0_0 : (List UInt8)) (a0_1 : Int) (a1 : (List Int)) (hn0_0_0 : n0_0_0 = (a0_0).length) (hr0_0_0 : RO w (hkeys [(0, [(m0, .cells #[.slice p0_0_0 n0_0_0 c0_0_0, I a0_1] 95 (0, 0))])]) (RdL p0_0_0 c0_0_0 a0_0)) (hn1_0 : n1_0 = (a1).length) (hr1_0 : RO w (hkeys [(0, [(m0, .cells #[.slice p0_0_0 n0_0_0 c0_0_0, I a0_1] 95 (0, 0))])]) (RdL p1_0 c1_0 a1)) (hM : Sat w (hkeys [(0, [(m0, .cells #[.slice p0_0_0 n0_0_0 c0_0_0, I a0_1] 95 (0, 0))])]) w [(0, [(m0, .cells #[.slice p0_0_0 n0_0_0 c0_0_0, I a0_1] 95 (0, 0))])]) (r : Int × Int) (H0 : s_l12Rd_num fl a0_0 a0_1 a1 = some r) :
  Ct prog 24 [.pointer (some ⟨m0, 0, none⟩), .slice p1_0 n1_0 c1_0] w [(0, [(m0, .cells #[.slice p0_0_0 n0_0_0 c0_0_0, I a0_1] 95 (0, 0))])] (fun rv h' => rv = I r.1 ∧ h' = [(0, [(m0, .cells #[.slice p0_0_0 n0_0_0 c0_0_0, I r.2] 95 (0, 0))])]) := by
 subst hn0_0_0 hn1_0
 unfold s_l12Rd_num at H0
 refine ct_of_cw func24 J ntmps24 J hM ?_
 obtain ⟨x1, e1, H0⟩ := bS H0
 refine sr (ss J (oM J (oM J (oM J (oD (stp_len u23 J) J (oE (uM (rq 0 1) cf23 (fun w hw hb => c_s_l12Rd_pick fl w m0 a0_0 a0_1 ((a1).length : Int) J (RO.passM hr0_0_0 hw hb) (hw.pass (js := [0]) ⟨0, [], J, J, trivial⟩ (by decide)) x1 e1) (yB J J) ⟨J, (pI (fun _ _ h => h.2) J), trivial⟩) J ?_))))))
 rintro _ _ ⟨_, ⟨rfl, rfl⟩, rfl⟩
 obtain ⟨x2, e2, H0⟩ := bS H0
 refine oD (stp_indexAddr u23 ts3 (by decide) J J J (Rdb.ro hr1_0) e2) J (oD (stp_load1 ts3 J (Cells.el (Rdb.ro hr1_0) (by decide) e2 0 1 J)) J (sn J (cw_ret ?_)))
 obtain rfl := sI H0
 exact kr results24 (rT J) [0] ⟨J, J⟩

theorem c_s_l2Buckets (fl : Nat) (w : World) (a0 : Int) (r : Bool) (H0 : s_l2Buckets fl a0 = some r) :
  Ct prog 131 [I a0] w [] (fun rv h' => rv = .bool r ∧ h' = []) := by
 unfold s_l2Buckets at H0
 refine ct_of_cw func131 J ntmps131 J (Sat.refl _ _) ?_
 obtain ⟨y1, ey1, H0⟩ := bS H0
 refine sr (ss J (oM J (oI J (oM J (ow_cutY 3 8 y1 ?_ ?_)))))
 ·rcases Bool.eq_false_or_eq_true (decide (1 ≤ a0)) with hy1 | hy1
  ·have ey1 := cond_t ey1 hy1
   refine oG J hy1 (mv J) J (oG J hy1 (stp_leq J J) J (oD (stp_pick_t J hy1 J) J ?_))
   obtain rfl := sI ey1
   exact ow_nil (jy 3 0)
  have ey1 := cond_f ey1 hy1
  refine oO J hy1 J (oO J hy1 J (oD (stp_pick_f J hy1 J) J ?_))
  obtain rfl := sI ey1
  exact ow_nil (jy 3 0)
 refine sn J (cw_ret ?_)
 obtain rfl := sI H0
 exact kr results131 (rT J) [] ⟨J, J⟩

theorem c_s_NewTable (fl : Nat) (w : World) (a0 : Int) (a1 : Int) (r : T × Bool) (H0 : s_NewTable fl a0 a1 = some r) :
  Ct prog 144 [I a0, I a1] w [] (fun rv h' => SL 3 r.1.b fun x0 y0 z0 C0 => SL 57 r.1.f fun x1 y1 z1 C1 => rv = .tuple #[.agg #[.slice x0 y0 z0, .slice x1 y1 z1], .bool r.2] ∧ h' = [(0, C0), (1, C1)]) := by
 unfold s_NewTable at H0
 refine ct_of_cw func144 J ntmps144 J (Sat.refl _ _) ?_
 refine sr (oE (stpU_alloc 0 tz26 J) J ?_)
 rintro _ _ ⟨b1, rfl, rfl⟩
 obtain ⟨y2, ey2, H0⟩ := bS H0
 refine sq J (oM J (oW J (oM J (ow_cutY 3 14 y2 ?_ ?_))))
 ·rcases Bool.eq_false_or_eq_true (decide (a0 < 1)) with hy2 | hy2
  ·have ey2 := cond_t ey2 hy2
   refine oO J hy2 J (oO J hy2 J (oD (stp_pick_t J hy2 J) J ?_))
   obtain rfl := sI ey2
   exact ow_nil (jy 3 0)
  have ey2 := cond_f ey2 hy2
  refine oG J hy2 (mv J) J (oG J hy2 (stp_gtr J J) J (oD (stp_pick_f J hy2 J) J ?_))
  obtain rfl := sI ey2
  exact ow_nil (jy 3 0)
 obtain ⟨y3, ey3, H0⟩ := bS H0
 refine oM J (ow_cutY 4 19 y3 ?_ ?_)
 ·rcases Bool.eq_false_or_eq_true y2 with hy3 | hy3
  ·have ey3 := cond_t ey3 hy3
   refine oO J hy3 J (oO J hy3 J (oO J hy3 J (oD (stp_pick_t J hy3 J) J ?_)))
   obtain rfl := sI ey3
   exact ow_nil (jy 4 0)
  have ey3 := cond_f ey3 hy3
  obtain ⟨x4, e4, ey3⟩ := bS ey3
  refine oG J hy3 (mv J) J (ow_eff (.some J hy3) (uC 1 cf131 (fun w hw => c_s_l2Buckets fl w a1 x4 e4) (yA J)) J ?_)
  rintro _ _ ⟨_, ⟨rfl, rfl⟩, rfl⟩
  refine oG J hy3 (stp_not J) J (oD (stp_pick_f J hy3 J) J ?_)
  obtain rfl := sI ey3
  exact ow_nil (jy 4 0)
 refine ow_nil (kw_nx (cH J H0 (fun H0 => ?_) (fun H0 => ?_)))
 ·refine sr (oD (stp_build (cs := #[sN, sN]) sE bt26_0) J (oC2 0 ts26 J J (sR J (kA 1 (kA 2 ?_)))))
  obtain rfl := sI H0
  exact kr results144 (.cons (.cellN (us := [_, _]) ts26 J (Cells.box (id := 0) J 2 J)) (rT J)) [1, 2] (sl J oN0 (sl J oN0 ⟨J, J⟩))
 refine ks (oD (stp_build (cs := #[sN, sN]) sE bt26_0) J (oE (stpU_alloc 3 tz26 J) J ?_))
 rintro _ _ ⟨b6, rfl, rfl⟩
 obtain ⟨o0_0, eo0_0, H0⟩ := bS H0
 refine oC2 3 ts26 J J (nq (sn J (cw_addNil 4 (lpS (fun f a b => s_NewTable_L0 fl a1 f a b = some o0_0) (fun a b => o0_0 = .out (a, b)) (fun R s h => ∃ v7 v12 p8 n9 c10 C11, R v7 v12 ∧ s = [(0, I a0), (1, I a1), (4, .pointer (some ⟨b1, 0, none⟩)), (6, .pointer (some ⟨b6, 0, none⟩)), (7, I v12)] ∧ h = [(0, [(b1, .cells #[sN, sN] 26 (0, 0))]), (3, [(b6, .cells #[.slice p8 n9 c10, sN] 26 (0, 0))]), (1001, C11)] ∧ n9 = (v7).length ∧ OwnC 3 p8 c10 v7 C11) [0, 3, 4] ⟨_, _, none, 0, 0, [], eo0_0, J, J, J, oN0⟩ ?_ ?_))))
 ·rintro fuel _ _ ⟨v7, v12, p8, _, c10, C11, H1, rfl, rfl, rfl, o11⟩
  rcases fuel with _ | fuel
  ·rw [s_NewTable_L0.eq_1] at H1; cases H1
  rw [s_NewTable_L0.eq_2] at H1
  refine csr (oM J (oM J (oW J (nn (cH J H1 (fun H1 => ?_) (fun H1 => ?_))))))
  ·refine kq (cw_block (cR (oAL 0 u26 J ts23 J 3 J (oE (stpU_lit (sz := 1) (l := [(-1)]) [I (-1)] sl23 5 (sP J sE) J J J J J J J J J) J ?_))))
   rintro _ _ ⟨p14, C15, rfl, rfl, o15⟩
   obtain ⟨x16, e16, H1⟩ := bS H1
   refine oE (stpU_append sl23 J (id := 1001) J J J (by simp) J o11 (Rdb.own (id := 5) J o15) e16) J ?_
   rintro _ _ ⟨p17, c18, C19, rfl, rfl, o19⟩
   obtain ⟨x20, e20, H1⟩ := bS H1
   exact oA 0 u26 J ts23 J (oC2 3 ts23 J J (ow_nil (kb (cR (oM J (oP e20 J (oS J (ow_nil (ka ⟨_, _, p17, ((x16).length), c18, C19, H1, J, J, J, o19⟩)))))))))
  refine cw_exit (kw_nx_exit (ax (kw_bl ?_)))
  obtain rfl := sI H1
  exact kx ⟨_, _, p8, ((v7).length), c10, C11, J, J, J, J, o11⟩
 rintro _ _ ⟨v7, v12, p8, _, c10, C11, rfl, rfl, rfl, rfl, o11⟩
 obtain ⟨o0_1, eo0_1, H0⟩ := bS H0
 refine kw_nx (csr (sn J (cw_addNil 6 (lpS (fun f a b => s_NewTable_L1 fl a0 f a b = some o0_1) (fun a b => o0_1 = .out (a, b)) (fun R s h => ∃ v21 v26 p22 n23 c24 C25, R v21 v26 ∧ s = [(0, I a0), (4, .pointer (some ⟨b1, 0, none⟩)), (6, .pointer (some ⟨b6, 0, none⟩)), (8, I v26)] ∧ h = [(0, [(b1, .cells #[sN, sN] 26 (0, 0))]), (3, [(b6, .cells #[.slice p8 ((v7).length) c10, .slice p22 n23 c24] 26 (0, 0))]), (1001, C11), (1002, C25)] ∧ n23 = (v21).length ∧ OwnC 57 p22 c24 v21 C25) [0, 3, 1001, 6] ⟨_, _, none, 0, 0, [], eo0_1, J, J, J, oN0⟩ ?_ ?_))))
 ·rintro fuel _ _ ⟨v21, v26, p22, _, c24, C25, H1, rfl, rfl, rfl, o25⟩
  rcases fuel with _ | fuel
  ·rw [s_NewTable_L1.eq_1] at H1; cases H1
  rw [s_NewTable_L1.eq_2] at H1
  refine csr (oM J (oM J (oW J (nn (cH J H1 (fun H1 => ?_) (fun H1 => ?_))))))
  ·refine kq (cw_block (cR (oAL 1 u26 J ts24 J 3 J (oD (stp_build (cs := #[.bool false, I 0, I 0, I 0, I (-1)]) (sP J sE) bt57_1) J (oE (stpU_lit (sz := 5) (l := [(⟨false, (⟨0, 0⟩ : K), 0, (-1)⟩ : F)]) [.agg #[.bool false, I 0, I 0, I 0, I (-1)]] sl24 7 (sP J sE) J J J J J J J J J) J ?_)))))
   rintro _ _ ⟨p28, C29, rfl, rfl, o29⟩
   obtain ⟨x30, e30, H1⟩ := bS H1
   refine oE (stpU_append sl24 J (id := 1002) J J J (by simp) J o25 (Rdb.own (id := 7) J o29) e30) J ?_
   rintro _ _ ⟨p31, c32, C33, rfl, rfl, o33⟩
   obtain ⟨x34, e34, H1⟩ := bS H1
   exact oA 1 u26 J ts24 J (oC2 3 ts24 J J (ow_nil (kb (cR (oM J (oP e34 J (oS J (ow_nil (ka ⟨_, _, p31, ((x30).length), c32, C33, H1, J, J, J, o33⟩)))))))))
  refine cw_exit (kw_nx_exit (ax (kw_bl ?_)))
  obtain rfl := sI H1
  exact kx ⟨_, _, p22, ((v21).length), c24, C25, J, J, J, J, o25⟩
 rintro _ _ ⟨v21, v26, p22, _, c24, C25, rfl, rfl, rfl, rfl, o25⟩
 refine kw_nx (sr (oB2 3 ts26 J (oC2 0 ts26 J J (sn J (cw_ret ?_)))))
 obtain rfl := sI H0
 exact kr results144 (.cons (.cellN (us := [_, _]) ts26 J (Cells.box (id := 0) J 2 J)) (rT J)) [1001, 1002] (sl J o11 (sl J o25 ⟨J, J⟩))

theorem c_s_NewCache (fl : Nat) (w : World) (a0 : Int) (r : Ca × Bool) (H0 : s_NewCache fl a0 = some r) :
  Ct prog 145 [I a0] w [] (fun rv h' => SL 104 r.1.l fun x0 y0 z0 C0 => rv = .tuple #[.agg #[.slice x0 y0 z0, I r.1.h], .bool r.2] ∧ h' = [(0, C0)]) := by
 unfold s_NewCache at H0
 refine ct_of_cw func145 J ntmps145 J (Sat.refl _ _) ?_
 refine sr (oE (stpU_alloc 0 tz29 J) J ?_)
 rintro _ _ ⟨b1, rfl, rfl⟩
 obtain ⟨y2, ey2, H0⟩ := bS H0
 refine sq J (oM J (oW J (oM J (ow_cutY 3 9 y2 ?_ ?_))))
 ·rcases Bool.eq_false_or_eq_true (decide (a0 < 1)) with hy2 | hy2
  ·have ey2 := cond_t ey2 hy2
   refine oO J hy2 J (oO J hy2 J (oD (stp_pick_t J hy2 J) J ?_))
   obtain rfl := sI ey2
   exact ow_nil (jy 3 0)
  have ey2 := cond_f ey2 hy2
  refine oG J hy2 (mv J) J (oG J hy2 (stp_gtr J J) J (oD (stp_pick_f J hy2 J) J ?_))
  obtain rfl := sI ey2
  exact ow_nil (jy 3 0)
 refine ow_nil (kw_nx (cH J H0 (fun H0 => ?_) (fun H0 => ?_)))
 ·refine sr (oD (stp_build (cs := #[sN, I 0]) sE bt29_2) J (oC2 0 ts29 J J (sR J (kA 1 ?_))))
  obtain rfl := sI H0
  exact kr results145 (.cons (.cellN (us := [_, _]) ts29 J (Cells.box (id := 0) J 2 J)) (rT J)) [1] (sl J oN0 ⟨J, J⟩)
 obtain ⟨x4, e4, H0⟩ := bS H0
 refine ks (oM J (oE (stpU_make sl27 J 2 J J e4) J ?_))
 rintro _ _ ⟨p5, C6, rfl, rfl, o6⟩
 refine oD (stp_build (cs := #[.slice p5 x4 x4, I 0]) (sP J sE) bt29_3) J (oC2 0 ts29 J J (sn J (cw_ret ?_)))
 obtain rfl := sI H0
 exact kr results145 (.cons (.cellN (us := [_, _]) ts29 J (Cells.box (id := 0) J 2 J)) (rT J)) [2] (sl (by simp) o6 ⟨J, J⟩)

theorem c_s_NewTags (fl : Nat) (w : World) (a0 : Int) (r : Tg × Bool) (H0 : s_NewTags fl a0 = some r) :
  Ct prog 146 [I a0] w [] (fun rv h' => SL 70 r.1.o fun x0 y0 z0 C0 => rv = .tuple #[.agg #[I r.1.c, I r.1.n, I r.1.r, .slice x0 y0 z0], .bool r.2] ∧ h' = [(0, C0)]) := by
 unfold s_NewTags at H0
 refine ct_of_cw func146 J ntmps146 J (Sat.refl _ _) ?_
 refine sr (oE (stpU_alloc 0 tz32 J) J ?_)
 rintro _ _ ⟨b1, rfl, rfl⟩
 obtain ⟨y2, ey2, H0⟩ := bS H0
 refine sq J (oM J (oW J (oM J (ow_cutY 3 9 y2 ?_ ?_))))
 ·rcases Bool.eq_false_or_eq_true (decide (a0 < 1)) with hy2 | hy2
  ·have ey2 := cond_t ey2 hy2
   refine oO J hy2 J (oO J hy2 J (oD (stp_pick_t J hy2 J) J ?_))
   obtain rfl := sI ey2
   exact ow_nil (jy 3 0)
  have ey2 := cond_f ey2 hy2
  refine oG J hy2 (mv J) J (oG J hy2 (stp_gtr J J) J (oD (stp_pick_f J hy2 J) J ?_))
  obtain rfl := sI ey2
  exact ow_nil (jy 3 0)
 refine ow_nil (kw_nx (cH J H0 (fun H0 => ?_) (fun H0 => ?_)))
 ·refine sr (oD (stp_build (cs := #[I 0, I 0, I 0, sN]) sE bt32_4) J (oC4 0 ts32 J J (sR J (kA 1 ?_))))
  obtain rfl := sI H0
  exact kr results146 (.cons (.cellN (us := [_, _, _, _]) ts32 J (Cells.box (id := 0) J 4 J)) (rT J)) [1] (sl J oN0 ⟨J, J⟩)
 refine ks (oM J (oE (stpU_lit0 sl30 2) J ?_))
 rintro _ _ ⟨p4, C5, rfl, rfl, o5⟩
 refine oD (stp_build (cs := #[I a0, I 0, I 0, .slice p4 0 0]) (sP J (sP J sE)) bt32_5) J (oC4 0 ts32 J J (sn J (cw_ret ?_)))
 obtain rfl := sI H0
 exact kr results146 (.cons (.cellN (us := [_, _, _, _]) ts32 J (Cells.box (id := 0) J 4 J)) (rT J)) [2] (sl (by simp) o5 ⟨J, J⟩)

theorem c_s_l1Space (fl : Nat) (w : World) (a0 : Int) (r : Bool) (H0 : s_l1Space fl a0 = some r) :
  Ct prog 134 [I a0] w [] (fun rv h' => rv = .bool r ∧ h' = []) := by
 unfold s_l1Space at H0
 refine ct_of_cw func134 J ntmps134 J (Sat.refl _ _) ?_
 obtain ⟨y1, ey1, H0⟩ := bS H0
 refine sr (ss J (oM J (oI J (oM J (ow_cutY 3 8 y1 ?_ ?_)))))
 ·rcases Bool.eq_false_or_eq_true (decide (0 ≤ a0)) with hy1 | hy1
  ·have ey1 := cond_t ey1 hy1
   refine oG J hy1 (mv J) J (oG J hy1 (stp_lss J J) J (oD (stp_pick_t J hy1 J) J ?_))
   obtain rfl := sI ey1
   exact ow_nil (jy 3 0)
  have ey1 := cond_f ey1 hy1
  refine oO J hy1 J (oO J hy1 J (oD (stp_pick_f J hy1 J) J ?_))
  obtain rfl := sI ey1
  exact ow_nil (jy 3 0)
 refine sn J (cw_ret ?_)
 obtain rfl := sI H0
 exact kr results134 (rT J) [] ⟨J, J⟩

theorem c_s_TagsValid (fl : Nat) (w : World) (a0 : Tg) (hn0_0 : n0_0 = (a0.o).length) (hr0_0 : RO w [] (RdL p0_0 c0_0 a0.o)) (r : Bool) (H0 : s_TagsValid fl a0 = some r) :
  Ct prog 97 [.agg #[I a0.c, I a0.n, I a0.r, .slice p0_0 n0_0 c0_0]] w [] (fun rv h' => rv = .bool r ∧ h' = []) := by
 subst hn0_0
 unfold s_TagsValid at H0
 refine ct_of_cw func97 J ntmps97 J (Sat.refl _ _) ?_
 refine sr (oE (stpU_box 0 J J) J ?_)
 rintro _ _ ⟨b1, rfl, rfl⟩
 obtain ⟨y2, ey2, H0⟩ := bS H0
 refine sq J (oAL 0 u32 J ts3 J 0 J (oW J (oM J (ow_cutY 4 13 y2 ?_ ?_))))
 ·rcases Bool.eq_false_or_eq_true (decide (a0.c < 1)) with hy2 | hy2
  ·have ey2 := cond_t ey2 hy2
   refine oO J hy2 J (oO J hy2 J (oO J hy2 J (oD (stp_pick_t J hy2 J) J ?_)))
   obtain rfl := sI ey2
   exact ow_nil (jy 4 0)
  have ey2 := cond_f ey2 hy2
  refine oG J hy2 (fA 0 u32 J ts3 J J J) J (oG J hy2 (lB 0 ts3 J J J) J (oG J hy2 (stp_gtr J J) J (oD (stp_pick_f J hy2 J) J ?_)))
  obtain rfl := sI ey2
  exact ow_nil (jy 4 0)
 obtain ⟨y3, ey3, H0⟩ := bS H0
 refine oM J (ow_cutY 4 18 y3 ?_ ?_)
 ·rcases Bool.eq_false_or_eq_true y2 with hy3 | hy3
  ·have ey3 := cond_t ey3 hy3
   refine oO J hy3 J (oO J hy3 J (oO J hy3 J (oD (stp_pick_t J hy3 J) J ?_)))
   obtain rfl := sI ey3
   exact ow_nil (jy 4 0)
  have ey3 := cond_f ey3 hy3
  refine oG J hy3 (fA 1 u32 J ts3 J J J) J (oG J hy3 (lB 0 ts3 J J J) J (oG J hy3 (stp_lss J J) J (oD (stp_pick_f J hy3 J) J ?_)))
  obtain rfl := sI ey3
  exact ow_nil (jy 4 0)
 obtain ⟨y4, ey4, H0⟩ := bS H0
 refine oM J (ow_cutY 6 25 y4 ?_ ?_)
 ·rcases Bool.eq_false_or_eq_true y3 with hy4 | hy4
  ·have ey4 := cond_t ey4 hy4
   refine oO J hy4 J (oO J hy4 J (oO J hy4 J (oO J hy4 J (oO J hy4 J (oD (stp_pick_t J hy4 J) J ?_)))))
   obtain rfl := sI ey4
   exact ow_nil (jy 6 0)
  have ey4 := cond_f ey4 hy4
  refine oG J hy4 (fA 1 u32 J ts3 J J J) J (oG J hy4 (lB 0 ts3 J J J) J (oG J hy4 (fA 0 u32 J ts3 J J J) J (oG J hy4 (lB 0 ts3 J J J) J (oG J hy4 (stp_gtr J J) J (oD (stp_pick_f J hy4 J) J ?_)))))
  obtain rfl := sI ey4
  exact ow_nil (jy 6 0)
 obtain ⟨y5, ey5, H0⟩ := bS H0
 refine oM J (ow_cutY 4 30 y5 ?_ ?_)
 ·rcases Bool.eq_false_or_eq_true y4 with hy5 | hy5
  ·have ey5 := cond_t ey5 hy5
   refine oO J hy5 J (oO J hy5 J (oO J hy5 J (oD (stp_pick_t J hy5 J) J ?_)))
   obtain rfl := sI ey5
   exact ow_nil (jy 4 0)
  have ey5 := cond_f ey5 hy5
  refine oG J hy5 (fA 2 u32 J ts3 J J J) J (oG J hy5 (lB 0 ts3 J J J) J (oG J hy5 (stp_lss J J) J (oD (stp_pick_f J hy5 J) J ?_)))
  obtain rfl := sI ey5
  exact ow_nil (jy 4 0)
 obtain ⟨y6, ey6, H0⟩ := bS H0
 refine oM J (ow_cutY 4 35 y6 ?_ ?_)
 ·rcases Bool.eq_false_or_eq_true y5 with hy6 | hy6
  ·have ey6 := cond_t ey6 hy6
   refine oO J hy6 J (oO J hy6 J (oO J hy6 J (oD (stp_pick_t J hy6 J) J ?_)))
   obtain rfl := sI ey6
   exact ow_nil (jy 4 0)
  have ey6 := cond_f ey6 hy6
  refine oG J hy6 (fA 2 u32 J ts3 J J J) J (oG J hy6 (lB 0 ts3 J J J) J (oG J hy6 (stp_gtr J J) J (oD (stp_pick_f J hy6 J) J ?_)))
  obtain rfl := sI ey6
  exact ow_nil (jy 4 0)
 obtain ⟨y7, ey7, H0⟩ := bS H0
 refine oM J (ow_cutY 7 43 y7 ?_ ?_)
 ·rcases Bool.eq_false_or_eq_true y6 with hy7 | hy7
  ·have ey7 := cond_t ey7 hy7
   refine oO J hy7 J (oO J hy7 J (oO J hy7 J (oO J hy7 J (oO J hy7 J (oO J hy7 J (oD (stp_pick_t J hy7 J) J ?_))))))
   obtain rfl := sI ey7
   exact ow_nil (jy 7 0)
  have ey7 := cond_f ey7 hy7
  refine oG J hy7 (fA 3 u32 J ts30 J J J) J (oG J hy7 (lB 0 ts30 J J J) J (oG J hy7 (stp_len u30 J) J (oG J hy7 (fA 1 u32 J ts3 J J J) J (oG J hy7 (lB 0 ts3 J J J) J (oG J hy7 (stp_gtr J J) J (oD (stp_pick_f J hy7 J) J ?_))))))
  obtain rfl := sI ey7
  exact ow_nil (jy 7 0)
 refine ow_nil (kw_nx (cH J H0 (fun H0 => ?_) (fun H0 => ?_)))
 ·refine sr (sr1 J (kR ?_))
  obtain rfl := sI H0
  exact kr results97 (rT J) [] ⟨J, J⟩
 obtain ⟨o0_0, eo0_0, H0⟩ := bS H0
 refine kq (sr (sn J (lp (fun f a => s_TagsValid_L0 fl a0 f a = some o0_0) (fun a => o0_0 = .out a) (fun R s h => ∃ v9, R v9 ∧ s = [(1, .pointer (some ⟨b1, 0, none⟩)), (3, I v9)] ∧ h = [(0, [(b1, .cells #[I a0.c, I a0.n, I a0.r, .slice p0_0 ((a0.o).length) c0_0] 32 (0, 0))])]) ⟨_, eo0_0, J, J⟩ ?_ ?_)))
 ·rintro fuel _ _ ⟨v9, H1, rfl, rfl⟩
  rcases fuel with _ | fuel
  ·rw [s_TagsValid_L0.eq_1] at H1; cases H1
  rw [s_TagsValid_L0.eq_2] at H1
  refine csr (oM J (oAL 3 u32 J ts30 J 0 J (oD (stp_len u30 J) J (oW J (nn (cH J H1 (fun H1 => ?_) (fun H1 => ?_)))))))
  ·obtain ⟨x11, e11, H1⟩ := bS H1
   refine kq (cw_block (sr (oAL 3 u32 J ts30 J 0 J (oM J (oD (stp_indexAddr u30 ts70 (by decide) J J J (Rdb.ro hr0_0) e11) J (oD (stp_loadN (us := [_, _]) ts70 J (Cells.el (Rdb.ro hr0_0) (by decide) e11 0 2 J)) J (oE (stpU_alloc 1 tz70 J) J ?_)))))))
   rintro _ _ ⟨b12, rfl, rfl⟩
   obtain ⟨x13, e13, H1⟩ := bS H1
   obtain ⟨y14, ey14, H1⟩ := bS H1
   refine oC2 1 ts70 J J (nn (cq (cq (rdt g_mixed (rn 0 32) ⟨[[],[1],[],[],[],[],[1],[],[],[],[],[1],[],[0],[],[],[],[],[],[],[],[0],[],[],[],[],[],[],[1]], [], []⟩ (dA 0 J u70 J ts3 J (dL 1 ts3 J (dV J (fun hh => uC 2 cf134 (fun w hw => c_s_l1Space fl w x11.sp x13 e13) (yA J)) J (dK J (dM J (dcY 4 64 y14 ?_ ?_))))))))))
   ·rcases Bool.eq_false_or_eq_true (!x13) with hy14 | hy14
    ·have ey14 := cond_t ey14 hy14
     refine dO J hy14 (dO J hy14 (dO J hy14 (dD J (stp_pick_t J hy14 J) ?_)))
     obtain rfl := sI ey14
     exact dy 4 0
    have ey14 := cond_f ey14 hy14
    refine dG J hy14 (fA 1 u70 J ts3 J J J) (dG J hy14 (lB 1 ts3 J J J) (dG J hy14 (stp_lss J J) (dD J (stp_pick_f J hy14 J) ?_)))
    obtain rfl := sI ey14
    exact dy 4 0
   obtain ⟨y15, ey15, H1⟩ := bS H1
   refine dM J (dcY 6 71 y15 ?_ ?_)
   ·rcases Bool.eq_false_or_eq_true y14 with hy15 | hy15
    ·have ey15 := cond_t ey15 hy15
     refine dO J hy15 (dO J hy15 (dO J hy15 (dO J hy15 (dO J hy15 (dD J (stp_pick_t J hy15 J) ?_)))))
     obtain rfl := sI ey15
     exact dy 6 0
    have ey15 := cond_f ey15 hy15
    refine dG J hy15 (fA 1 u70 J ts3 J J J) (dG J hy15 (lB 1 ts3 J J J) (dG J hy15 (fA 1 u32 J ts3 J J J) (dG J hy15 (lB 0 ts3 J J J) (dG J hy15 (stp_geq J J) (dD J (stp_pick_f J hy15 J) ?_)))))
    obtain rfl := sI ey15
    exact dy 6 0
   obtain ⟨y16, ey16, H1⟩ := bS H1
   refine dM J (dcY 15 87 y16 ?_ ?_)
   ·rcases Bool.eq_false_or_eq_true y15 with hy16 | hy16
    ·have ey16 := cond_t ey16 hy16
     refine dO J hy16 (dO J hy16 (dO J hy16 (dX J (dX J (dX J (dX J (dX J (dX J (dX J (dX J (dX J (dX J (dO J hy16 ?_)))))))))))))
     refine dD J (stp_pick_t J hy16 J) ?_
     obtain rfl := sI ey16
     exact dy 15 0
    have ey16 := cond_f ey16 hy16
    obtain ⟨y17, ey17, ey16⟩ := bS ey16
    refine dG J hy16 (mv J) (dG J hy16 (stp_gtr J J) (dG J hy16 (mv J) (dcJ 11 86 y17 ?_ ?_)))
    ·rcases Bool.eq_false_or_eq_true (decide (0 < v9)) with hy17 | hy17
     ·have ey17 := cond_t ey17 hy17
      obtain ⟨x18, e18, ey17⟩ := bS ey17
      obtain ⟨x19, e19, ey17⟩ := bS ey17
      refine dG J hy17 (fA 3 u32 J ts30 J J J) (dG J hy17 (lB 0 ts30 J J J) (dG J hy17 (mv J) (dG J hy17 (stp_sub J J e18) (dG J hy17 (stp_indexAddr u30 ts70 (by decide) J J J (Rdb.ro hr0_0) e19) (dG J hy17 (fA 1 u70 J ts3 J J J) (dG J hy17 (stp_load1 ts3 J (Cells.el (Rdb.ro hr0_0) (by decide) e19 1 1 J)) (dG J hy17 (fA 1 u70 J ts3 J J J) (dG J hy17 (lB 1 ts3 J J J) (dG J hy17 (stp_geq J J) (dG J hy16 (stp_pick_t J hy17 J) ?_))))))))))
      obtain rfl := sI ey17
      exact dy 11 0
     have ey17 := cond_f ey17 hy17
     refine dO J hy17 (dO J hy17 (dO J hy17 (dO J hy17 (dO J hy17 (dO J hy17 (dO J hy17 (dO J hy17 (dO J hy17 (dO J hy17 (dG J hy16 (stp_pick_f J hy17 J) ?_))))))))))
     obtain rfl := sI ey17
     exact dy 11 0
    refine dD J (stp_pick_f J hy16 J) ?_
    obtain rfl := sI ey16
    exact dy 5 0
   refine dn (kw_nx (cH J H1 (fun H1 => ?_) (fun H1 => ?_)))
   ·refine sr (sR J (kw_bl_ret (kR (ar (kw_bl_ret (xr (kR ?_)))))))
    obtain rfl := sI H1
    obtain rfl := sI H0
    exact kr results97 (rT J) [] ⟨J, J⟩
   obtain ⟨o1_1, eo1_1, H1⟩ := bS H1
   refine ks (sn J (lp (fun f a => s_TagsValid_L1 fl a0 v9 x11 f a = some o1_1) (fun a => o1_1 = .out a) (fun R s h => ∃ v21, R v21 ∧ s = [(1, .pointer (some ⟨b1, 0, none⟩)), (3, I v9), (4, .pointer (some ⟨b12, 0, none⟩)), (5, I v21)] ∧ h = [(0, [(b1, .cells #[I a0.c, I a0.n, I a0.r, .slice p0_0 ((a0.o).length) c0_0] 32 (0, 0))]), (1, [(b12, .cells #[I x11.sp, I x11.tg] 70 (0, 0))])]) ⟨_, eo1_1, J, J⟩ ?_ ?_))
   ·rintro fuel _ _ ⟨v21, H2, rfl, rfl⟩
    try dsimp only at H2
    rcases fuel with _ | fuel
    ·rw [s_TagsValid_L1.eq_1] at H2; cases H2
    rw [s_TagsValid_L1.eq_2] at H2
    refine csr (oM J (oM J (oW J (nn (cH J H2 (fun H2 => ?_) (fun H2 => ?_))))))
    ·obtain ⟨x23, e23, H2⟩ := bS H2
     refine kq (cw_block (cq (rdt g_mixed (rn 0 9) ⟨[[],[0],[],[],[],[],[],[1]], [], []⟩ (dA 3 J u32 J ts30 J (dL 0 ts30 J (dM J (dD J (stp_indexAddr u30 ts70 (by decide) J J J (Rdb.ro hr0_0) e23) (dA 0 J u70 J ts3 J (dD J (stp_load1 ts3 J (Cells.el (Rdb.ro hr0_0) (by decide) e23 0 1 J)) (dA 0 J u70 J ts3 J (dL 1 ts3 J ?_)))))))))))
     refine dQ J (dn (kw_nx (cH J H2 (fun H2 => ?_) (fun H2 => ?_))))
     ·refine sr (sr1 J (kw_bl_ret (kR (ar (kw_bl_ret (xr (kw_bl_ret (kR (ar (kw_bl_ret (xr ?_)))))))))))
      refine kR ?_
      obtain rfl := sI H2
      obtain rfl := sI H1
      obtain rfl := sI H0
      exact kr results97 (rT J) [] ⟨J, J⟩
     obtain ⟨x25, e25, H2⟩ := bS H2
     exact cw_skip (kb (cR (oM J (oP e25 J (oS J (ow_nil (ka ⟨_, H2, J, J⟩)))))))
    refine cw_exit (kw_nx_exit (ax (kw_bl ?_)))
    obtain rfl := sI H2
    exact kx ⟨_, J, J, J⟩
   rintro _ _ ⟨v21, rfl, rfl, rfl⟩
   obtain ⟨x26, e26, H1⟩ := bS H1
   exact kb (cR (oM J (oP e26 J (oS J (ow_nil (ka ⟨_, H1, J, J⟩))))))
  refine cw_exit (kw_nx_exit (ax (kw_bl ?_)))
  obtain rfl := sI H1
  exact kx ⟨_, J, J, J⟩
 rintro _ _ ⟨v9, rfl, rfl, rfl⟩
 refine kw_nx (sr (sn J (cw_ret ?_)))
 obtain rfl := sI H0
 exact kr results97 (rT J) [] ⟨J, J⟩

theorem c_s_l5Copy (fl : Nat) (w : World) (a0 : Tg) (hn0_0 : n0_0 = (a0.o).length) (hr0_0 : RO w [] (RdL p0_0 c0_0 a0.o)) (r : Tg) (H0 : s_l5Copy fl a0 = some r) :
  Ct prog 102 [.agg #[I a0.c, I a0.n, I a0.r, .slice p0_0 n0_0 c0_0]] w [] (fun rv h' => SL 70 r.o fun x0 y0 z0 C0 => rv = .agg #[I r.c, I r.n, I r.r, .slice x0 y0 z0] ∧ h' = [(0, C0)]) := by
 subst hn0_0
 unfold s_l5Copy at H0
 refine ct_of_cw func102 J ntmps102 J (Sat.refl _ _) ?_
 refine sr (oE (stpU_box 0 J J) J ?_)
 rintro _ _ ⟨b1, rfl, rfl⟩
 refine oE (stpU_alloc 1 tz32 J) J ?_
 rintro _ _ ⟨b2, rfl, rfl⟩
 refine nn (cq (rdt g_mixed [.n 0, .n 1, .n 2, .n 3, .n 4, .n 5, .n 7, .n 8, .n 6, .n 9, .n 10, .n 11] ⟨[[],[0],[],[0],[],[0],[],[],[0],[2],[],[1]], [[],[],[],[],[],[],[2],[],[],[2],[],[1]], [6,9]⟩ (dA 0 J u32 J ts3 J (dL 0 ts3 J (dA 1 J u32 J ts3 J (dL 0 ts3 J (dA 2 J u32 J ts3 J (dL 0 ts3 J (dA 3 J u32 J ts30 J (dL 0 ts30 J (dE J (fun hh => stpU_lit0 sl30 2) ?_)))))))))))
 rintro _ _ ⟨p3, C4, rfl, rfl, o4⟩
 obtain ⟨x5, e5, H0⟩ := bS H0
 refine dk J (dE J (fun hh => stpU_append sl30 J (id := 2) J (by simp) J J (hh _ _ J) o4 (Rdb.ro hr0_0) e5) ?_)
 rintro _ _ ⟨p6, c7, C8, rfl, rfl, o8⟩
 refine dk J (dD J (stp_build (cs := #[I a0.c, I a0.n, I a0.r, .slice p6 ((x5).length) c7]) (sP J (sP J (sP J (sP J sE)))) bt32_7) (dC4 1 ts32 J J J (dn (kw_nx (cw_ret ?_)))))
 obtain rfl := sI H0
 exact kr results102 (rC4 1 ts32 J J) [2] (sl J o8 ⟨J, J⟩)

theorem c_s_l5Find (fl : Nat) (w : World) (a0 : Tg) (a1 : Int) (hn0_0 : n0_0 = (a0.o).length) (hr0_0 : RO w [] (RdL p0_0 c0_0 a0.o)) (r : Int) (H0 : s_l5Find fl a0 a1 = some r) :
  Ct prog 98 [.agg #[I a0.c, I a0.n, I a0.r, .slice p0_0 n0_0 c0_0], I a1] w [] (fun rv h' => rv = I r ∧ h' = []) := by
 subst hn0_0
 unfold s_l5Find at H0
 refine ct_of_cw func98 J ntmps98 J (Sat.refl _ _) ?_
 refine sr (oE (stpU_box 0 J J) J ?_)
 rintro _ _ ⟨b1, rfl, rfl⟩
 obtain ⟨o0_0, eo0_0, H0⟩ := bS H0
 refine sq J (sn J (lp (fun f a => s_l5Find_L0 fl a0 a1 f a = some o0_0) (fun a => o0_0 = .out a) (fun R s h => ∃ v2, R v2 ∧ s = [(1, I a1), (2, .pointer (some ⟨b1, 0, none⟩)), (5, I v2)] ∧ h = [(0, [(b1, .cells #[I a0.c, I a0.n, I a0.r, .slice p0_0 ((a0.o).length) c0_0] 32 (0, 0))])]) ⟨_, eo0_0, J, J⟩ ?_ ?_))
 ·rintro fuel _ _ ⟨v2, H1, rfl, rfl⟩
  rcases fuel with _ | fuel
  ·rw [s_l5Find_L0.eq_1] at H1; cases H1
  rw [s_l5Find_L0.eq_2] at H1
  refine csr (oM J (oAL 3 u32 J ts30 J 0 J (oD (stp_len u30 J) J (oW J (nn (cH J H1 (fun H1 => ?_) (fun H1 => ?_)))))))
  ·obtain ⟨x4, e4, H1⟩ := bS H1
   refine kq (cw_block (sr (oAL 3 u32 J ts30 J 0 J (oM J (oD (stp_indexAddr u30 ts70 (by decide) J J J (Rdb.ro hr0_0) e4) J (oA 0 u70 J ts3 J (oD (stp_load1 ts3 J (Cells.el (Rdb.ro hr0_0) (by decide) e4 0 1 J)) J (oM J (oQ J (nn ?_))))))))))
   refine cH J H1 (fun H1 => ?_) (fun H1 => ?_)
   ·refine sr (oM J (sr1 J (kw_bl_ret (kR (ar (kw_bl_ret (xr (kR ?_))))))))
    obtain rfl := sI H1
    obtain rfl := sI H0
    exact kr results98 (rT J) [] ⟨J, J⟩
   obtain ⟨x6, e6, H1⟩ := bS H1
   exact cw_skip (kb (cR (oM J (oP e6 J (oS J (ow_nil (ka ⟨_, H1, J, J⟩)))))))
  refine cw_exit (kw_nx_exit (ax (kw_bl ?_)))
  obtain rfl := sI H1
  exact kx ⟨_, J, J, J⟩
 rintro _ _ ⟨v2, rfl, rfl, rfl⟩
 refine kw_nx (sr (sn J (cw_ret ?_)))
 obtain rfl := sI H0
 exact kr results98 (rT J) [] ⟨J, J⟩

theorem c_s_TakeTag (fl : Nat) (w : World) (a0 : Tg) (a1 : Int) (hn0_0 : n0_0 = (a0.o).length) (hr0_0 : RO w [] (RdL p0_0 c0_0 a0.o)) (r : Tg × Int × Bool × Bool) (H0 : s_TakeTag fl a0 a1 = some r) :
  Ct prog 147 [.agg #[I a0.c, I a0.n, I a0.r, .slice p0_0 n0_0 c0_0], I a1] w [] (fun rv h' => SL 70 r.1.o fun x0 y0 z0 C0 => rv = .tuple #[.agg #[I r.1.c, I r.1.n, I r.1.r, .slice x0 y0 z0], I r.2.1, .bool r.2.2.1, .bool r.2.2.2] ∧ h' = [(0, C0)]) := by
 subst hn0_0
 unfold s_TakeTag at H0
 refine ct_of_cw func147 J ntmps147 J (Sat.refl _ _) ?_
 refine sr (oE (stpU_box 0 J J) J ?_)
 rintro _ _ ⟨b1, rfl, rfl⟩
 refine oE (stpU_alloc 1 tz32 J) J ?_
 rintro _ _ ⟨b2, rfl, rfl⟩
 obtain ⟨x3, e3, H0⟩ := bS H0
 refine oS J (oS J (sq J (oB4 0 ts32 J (oE (uC 2 cf97 (fun w hw => c_s_TagsValid fl w a0 J (rp hr0_0 hw) x3 e3) (yA J)) J ?_))))
 rintro _ _ ⟨_, ⟨rfl, rfl⟩, rfl⟩
 obtain ⟨y4, ey4, H0⟩ := bS H0
 refine oK J (oM J (ow_cutY 4 19 y4 ?_ ?_))
 ·rcases Bool.eq_false_or_eq_true (!x3) with hy4 | hy4
  ·have ey4 := cond_t ey4 hy4
   refine oO J hy4 J (oO J hy4 J (oO J hy4 J (oD (stp_pick_t J hy4 J) J ?_)))
   obtain rfl := sI ey4
   exact ow_nil (jy 4 0)
  have ey4 := cond_f ey4 hy4
  obtain ⟨x5, e5, ey4⟩ := bS ey4
  refine oG J hy4 (mv J) J (ow_eff (.some J hy4) (uC 2 cf134 (fun w hw => c_s_l1Space fl w a1 x5 e5) (yA J)) J ?_)
  rintro _ _ ⟨_, ⟨rfl, rfl⟩, rfl⟩
  refine oG J hy4 (stp_not J) J (oD (stp_pick_f J hy4 J) J ?_)
  obtain rfl := sI ey4
  exact ow_nil (jy 4 0)
 refine ow_nil (kw_nx (cH J H0 (fun H0 => ?_) (fun H0 => ?_)))
 ·refine sr (oD (stp_build (cs := #[I 0, I 0, I 0, sN]) sE bt32_4) J (oC4 1 ts32 J J (oS J (oS J (sR J (kA 2 ?_))))))
  obtain rfl := sI H0
  exact kr results147 (.cons (.cellN (us := [_, _, _, _]) ts32 J (Cells.box (id := 1) J 4 J)) (.cons (.tmp J) (.cons (.tmp J) (rT J)))) [2] (sl J oN0 ⟨J, J⟩)
 obtain ⟨x7, e7, H0⟩ := bS H0
 refine ks (oB4 0 ts32 J (oE (uC 3 cf102 (fun w hw => c_s_l5Copy fl w a0 J (rp hr0_0 hw) x7 e7) (yA J)) J ?_))
 rintro _ _ ⟨_, ⟨p8, _, c10, C11, rfl, o11, rfl, rfl⟩, rfl⟩
 refine oE (stpU_alloc 4 tz32 J) J ?_
 rintro _ _ ⟨b12, rfl, rfl⟩
 obtain ⟨x13, e13, H0⟩ := bS H0
 refine oC4 4 ts32 J J (ns (oB4 0 ts32 J (oM J (oE (uC 5 cf98 (fun w hw => c_s_l5Find fl w a0 a1 J (rp hr0_0 hw) x13 e13) (yB J J)) J ?_))))
 rintro _ _ ⟨_, ⟨rfl, rfl⟩, rfl⟩
 refine sq J (oM J (oI J (nn (cH J H0 (fun H0 => ?_) (fun H0 => ?_)))))
 ·obtain ⟨x15, e15, H0⟩ := bS H0
  refine cq (rdt g_mixed (rn 0 11) ⟨[[4],[],[0],[],[],[],[],[1]], [[],[],[],[],[],[],[],[1]], []⟩ (dB4 4 ts32 J (dA 3 J u32 J ts30 J (dL 0 ts30 J (dM J (dD J (stp_indexAddr u30 ts70 (by decide) J J J (Rdb.ro hr0_0) e15) (dA 1 J u70 J ts3 J (dD J (stp_load1 ts3 J (Cells.el (Rdb.ro hr0_0) (by decide) e15 1 1 J)) (dC4 1 ts32 J J J (dS J (dS J (dS J (dn ?_)))))))))))))
  refine kw_nx (cw_ret (kR ?_))
  obtain rfl := sI H0
  exact kr results147 (.cons (.cellN (us := [_, _, _, _]) ts32 J (Cells.box (id := 1) J 4 J)) (.cons (.tmp J) (.cons (.tmp J) (rT J)))) [3] (sl J o11 ⟨J, J⟩)
 refine ks (oAL 1 u32 J ts3 J 0 J (oAL 0 u32 J ts3 J 0 J (oQ J (sq J (oM J (nn ?_))))))
 refine cH J H0 (fun H0 => ?_) (fun H0 => ?_)
 ·obtain ⟨x17, e17, H0⟩ := bS H0
  refine cR (oAL 0 u32 J ts3 J 0 J (oAL 2 u32 J ts3 J 0 J (oP e17 J (oE (stpU_lit0 sl30 5) J ?_))))
  rintro _ _ ⟨p18, C19, rfl, rfl, o19⟩
  refine oD (stp_build (cs := #[I a0.c, I 0, I x17, .slice p18 0 0]) (sP J (sP J (sP J sE))) bt32_8) J (oC4 4 ts32 J J (nq (oAL 2 u32 J ts3 J 4 J (oJ J (nn (cH J H0 (fun H0 => ?_) (fun H0 => ?_)))))))
  ·refine sr (oD (stp_build (cs := #[I 0, I 0, I 0, sN]) sE bt32_4) J (oC4 1 ts32 J J (oS J (oS J (sR J (kA 6 ?_))))))
   obtain rfl := sI H0
   exact kr results147 (.cons (.cellN (us := [_, _, _, _]) ts32 J (Cells.box (id := 1) J 4 J)) (.cons (.tmp J) (.cons (.tmp J) (rT J)))) [6] (sl J oN0 ⟨J, J⟩)
  refine ks (oAL 1 u32 J ts3 J 4 J (ss J (oAL 3 u32 J ts30 J 4 J (oM J (oM J (oD (stp_build (cs := #[I a1, I 0]) (sP J (sP J sE)) bt70_9) J (oE (stpU_lit (sz := 2) (l := [(⟨a1, 0⟩ : Ow)]) [.agg #[I a1, I 0]] sl30 7 (sP J sE) J J J J J J J J J) J ?_)))))))
  rintro _ _ ⟨p21, C22, rfl, rfl, o22⟩
  obtain ⟨x23, e23, H0⟩ := bS H0
  refine oE (stpU_append sl30 J (id := 5) J (by simp) J (by simp) J o19 (Rdb.own (id := 7) J o22) e23) J ?_
  rintro _ _ ⟨p24, c25, C26, rfl, rfl, o26⟩
  obtain ⟨x27, e27, H0⟩ := bS H0
  refine oA 3 u32 J ts30 J (oC4 4 ts30 J J (ns (oM J (oP e27 J (oA 1 u32 J ts3 J (oC4 4 ts3 J J (ns (oB4 4 ts32 J (oM J (oM J (oC4 1 ts32 J J ?_)))))))))))
  refine oS J (oS J (sn J (cw_ret ?_)))
  obtain rfl := sI H0
  exact kr results147 (.cons (.cellN (us := [_, _, _, _]) ts32 J (Cells.box (id := 1) J 4 J)) (.cons (.tmp J) (.cons (.tmp J) (rT J)))) [5] (sl J o26 ⟨J, J⟩)
 refine kq (sr (oAL 2 u32 J ts3 J 4 J (oJ J (nn (cH J H0 (fun H0 => ?_) (fun H0 => ?_))))))
 ·refine sr (oD (stp_build (cs := #[I 0, I 0, I 0, sN]) sE bt32_4) J (oC4 1 ts32 J J (oS J (oS J (sR J (kA 8 ?_))))))
  obtain rfl := sI H0
  exact kr results147 (.cons (.cellN (us := [_, _, _, _]) ts32 J (Cells.box (id := 1) J 4 J)) (.cons (.tmp J) (.cons (.tmp J) (rT J)))) [8] (sl J oN0 ⟨J, J⟩)
 refine ks (oAL 1 u32 J ts3 J 4 J (ss J (oAL 3 u32 J ts30 J 4 J (oM J (oM J (oD (stp_build (cs := #[I a1, I x7.n]) (sP J (sP J sE)) bt70_9) J (oE (stpU_lit (sz := 2) (l := [(⟨a1, x7.n⟩ : Ow)]) [.agg #[I a1, I x7.n]] sl30 9 (sP J sE) J J J J J J J J J) J ?_)))))))
 rintro _ _ ⟨p29, C30, rfl, rfl, o30⟩
 obtain ⟨x31, e31, H0⟩ := bS H0
 refine oE (stpU_append sl30 J (id := 3) J J J (by simp) J o11 (Rdb.own (id := 9) J o30) e31) J ?_
 rintro _ _ ⟨p32, c33, C34, rfl, rfl, o34⟩
 obtain ⟨x35, e35, H0⟩ := bS H0
 refine oA 3 u32 J ts30 J (oC4 4 ts30 J J (ns (oM J (oP e35 J (oA 1 u32 J ts3 J (oC4 4 ts3 J J (ns (oB4 4 ts32 J (oM J (oM J (oC4 1 ts32 J J ?_)))))))))))
 refine oS J (oS J (sn J (cw_ret ?_)))
 obtain rfl := sI H0
 exact kr results147 (.cons (.cellN (us := [_, _, _, _]) ts32 J (Cells.box (id := 1) J 4 J)) (.cons (.tmp J) (.cons (.tmp J) (rT J)))) [3] (sl J o34 ⟨J, J⟩)

theorem c_s_NewMachine (fl : Nat) (w : World) (a0 : Int) (a1 : Int) (a2 : Int) (a3 : Int) (r : Mc × Bool) (H0 : s_NewMachine fl a0 a1 a2 a3 = some r) :
  Ct prog 126 [I a0, I a1, I a2, I a3] w [] (fun rv h' => SL 3 r.1.t.b fun x0 y0 z0 C0 => SL 57 r.1.t.f fun x1 y1 z1 C1 => SL 104 r.1.c.l fun x2 y2 z2 C2 => SL 70 r.1.g.o fun x3 y3 z3 C3 => rv = .tuple #[.agg #[.slice x0 y0 z0, .slice x1 y1 z1, .slice x2 y2 z2, I r.1.c.h, I r.1.g.c, I r.1.g.n, I r.1.g.r, .slice x3 y3 z3, I r.1.s], .bool r.2] ∧ h' = [(0, C0), (1, C1), (2, C2), (3, C3)]) := by
 unfold s_NewMachine at H0
 refine ct_of_cw func126 J ntmps126 J (Sat.refl _ _) ?_
 refine sr (oE (stpU_alloc 0 tz34 J) J ?_)
 rintro _ _ ⟨b1, rfl, rfl⟩
 obtain ⟨x2, e2, H0⟩ := bS H0
 refine ss J (oM J (oM J (oE (uC 1 cf144 (fun w hw => c_s_NewTable fl w a0 a1 x2 e2) (yB J J)) J ?_)))
 rintro _ _ ⟨_, ⟨p3, _, c5, C6, rfl, o6, p7, _, c9, C10, rfl, o10, rfl, rfl⟩, rfl⟩
 refine oMTT J J J (oE (stpU_alloc 3 tz26 J) J ?_)
 rintro _ _ ⟨b11, rfl, rfl⟩
 obtain ⟨x12, e12, H0⟩ := bS H0
 refine oC2 3 ts26 J J (ss J (oM J (oE (uC 4 cf145 (fun w hw => c_s_NewCache fl w a2 x12 e12) (yA J)) J ?_)))
 rintro _ _ ⟨_, ⟨p13, _, c15, C16, rfl, o16, rfl, rfl⟩, rfl⟩
 refine oMTT J J J (oE (stpU_alloc 5 tz29 J) J ?_)
 rintro _ _ ⟨b17, rfl, rfl⟩
 obtain ⟨x18, e18, H0⟩ := bS H0
 refine oC2 5 ts29 J J (ss J (oM J (oE (uC 6 cf146 (fun w hw => c_s_NewTags fl w a3 x18 e18) (yA J)) J ?_)))
 rintro _ _ ⟨_, ⟨p19, _, c21, C22, rfl, o22, rfl, rfl⟩, rfl⟩
 refine oMTT J J J (oE (stpU_alloc 7 tz32 J) J ?_)
 rintro _ _ ⟨b23, rfl, rfl⟩
 obtain ⟨y24, ey24, H0⟩ := bS H0
 refine oC4 7 ts32 J J (sq J (oM J (oK J (oM J (ow_cutY 3 37 y24 ?_ ?_)))))
 ·rcases Bool.eq_false_or_eq_true (!x2.2) with hy24 | hy24
  ·have ey24 := cond_t ey24 hy24
   refine oO J hy24 J (oO J hy24 J (oD (stp_pick_t J hy24 J) J ?_))
   obtain rfl := sI ey24
   exact ow_nil (jy 3 0)
  have ey24 := cond_f ey24 hy24
  refine oG J hy24 (mv J) J (oG J hy24 (stp_not J) J (oD (stp_pick_f J hy24 J) J ?_))
  obtain rfl := sI ey24
  exact ow_nil (jy 3 0)
 obtain ⟨y25, ey25, H0⟩ := bS H0
 refine oM J (ow_cutY 3 41 y25 ?_ ?_)
 ·rcases Bool.eq_false_or_eq_true y24 with hy25 | hy25
  ·have ey25 := cond_t ey25 hy25
   refine oO J hy25 J (oO J hy25 J (oD (stp_pick_t J hy25 J) J ?_))
   obtain rfl := sI ey25
   exact ow_nil (jy 3 0)
  have ey25 := cond_f ey25 hy25
  refine oG J hy25 (mv J) J (oG J hy25 (stp_not J) J (oD (stp_pick_f J hy25 J) J ?_))
  obtain rfl := sI ey25
  exact ow_nil (jy 3 0)
 refine ow_nil (kw_nx (cH J H0 (fun H0 => ?_) (fun H0 => ?_)))
 ·refine sr (oD (stp_build (cs := #[sN, sN, sN, I 0, I 0, I 0, I 0, sN, I 0]) sE bt34_6) J (oC9 0 ts34 J J (sR J (kA 8 (kA 9 (kA 10 (kA 11 ?_)))))))
  obtain rfl := sI H0
  exact kr results126 (.cons (.cellN (us := [_, _, _, _, _, _, _, _, _]) ts34 J (Cells.box (id := 0) J 9 J)) (rT J)) [8, 9, 10, 11] (sl J oN0 (sl J oN0 (sl J oN0 (sl J oN0 ⟨J, J⟩))))
 obtain ⟨x27, e27, H0⟩ := bS H0
 refine ks (oB4 7 ts32 J (oE (uC 12 cf147 (fun w hw => c_s_TakeTag fl w x18.1 0 J (owp 6 J o22 hw) x27 e27) (yB J J)) J ?_))
 rintro _ _ ⟨_, ⟨p28, _, c30, C31, rfl, o31, rfl, rfl⟩, rfl⟩
 refine oMTT J J J (oT J (oT J (oC4 7 ts32 J J (ns (oB2 3 ts26 J (oB2 5 ts29 J (oB4 7 ts32 J (oD (stp_build (cs := #[.slice p3 ((x2.1.b).length) c5, .slice p7 ((x2.1.f).length) c9, .slice p13 ((x12.1.l).length) c15, I x12.1.h, I x27.1.c, I x27.1.n, I x27.1.r, .slice p28 ((x27.1.o).length) c30, I 0]) (sP J (sP J (sP J sE))) bt34_10) J (oC9 0 ts34 J J (oS J ?_))))))))))
 refine nn (cw_ret ?_)
 obtain rfl := sI H0
 exact kr results126 (.cons (.cellN (us := [_, _, _, _, _, _, _, _, _]) ts34 J (Cells.box (id := 0) J 9 J)) (rT J)) [1, 2, 4, 12] (sl J o6 (sl J o10 (sl J o16 (sl J o31 ⟨J, J⟩))))

theorem c_s_TableValid (fl : Nat) (w : World) (a0 : T) (hn0_0 : n0_0 = (a0.b).length) (hr0_0 : RO w [] (RdL p0_0 c0_0 a0.b)) (hn0_1 : n0_1 = (a0.f).length) (hr0_1 : RO w [] (RdL p0_1 c0_1 a0.f)) (r : Bool) (H0 : s_TableValid fl a0 = some r) :
    Ct prog 95 [.agg #[.slice p0_0 n0_0 c0_0, .slice p0_1 n0_1 c0_1]] w [] (fun rv h' => rv = .bool r ∧ h' = []) := by
  obtain rfl := hn0_0
  obtain rfl := hn0_1
  unfold s_TableValid at H0
  obtain rfl := Option.some.inj H0
  exact ct_of_calls (sTableValid_c _ a0 w ⟨_, _, J, (hr0_0 w (Fr.refl _ _)).rd, (hr0_1 w (Fr.refl _ _)).rd⟩)

theorem c_s_l1Page (fl : Nat) (w : World) (a0 : Int) (r : Bool) (H0 : s_l1Page fl a0 = some r) :
  Ct prog 44 [I a0] w [] (fun rv h' => rv = .bool r ∧ h' = []) := by
 unfold s_l1Page at H0
 refine ct_of_cw func44 J ntmps44 J (Sat.refl _ _) ?_
 obtain ⟨y1, ey1, H0⟩ := bS H0
 refine sr (ss J (oM J (oI J (oM J (ow_cutY 3 8 y1 ?_ ?_)))))
 ·rcases Bool.eq_false_or_eq_true (decide (0 ≤ a0)) with hy1 | hy1
  ·have ey1 := cond_t ey1 hy1
   refine oG J hy1 (mv J) J (oG J hy1 (stp_lss J J) J (oD (stp_pick_t J hy1 J) J ?_))
   obtain rfl := sI ey1
   exact ow_nil (jy 3 0)
  have ey1 := cond_f ey1 hy1
  refine oO J hy1 J (oO J hy1 J (oD (stp_pick_f J hy1 J) J ?_))
  obtain rfl := sI ey1
  exact ow_nil (jy 3 0)
 refine sn J (cw_ret ?_)
 obtain rfl := sI H0
 exact kr results44 (rT J) [] ⟨J, J⟩

theorem c_s_RightsValid (fl : Nat) (w : World) (a0 : Int) (r : Bool) (H0 : s_RightsValid fl a0 = some r) :
  Ct prog 45 [I a0] w [] (fun rv h' => rv = .bool r ∧ h' = []) := by
 unfold s_RightsValid at H0
 refine ct_of_cw func45 J ntmps45 J (Sat.refl _ _) ?_
 obtain ⟨y1, ey1, H0⟩ := bS H0
 refine sr (ss J (oM J (oI J (oM J (ow_cutY 3 8 y1 ?_ ?_)))))
 ·rcases Bool.eq_false_or_eq_true (decide (0 ≤ a0)) with hy1 | hy1
  ·have ey1 := cond_t ey1 hy1
   refine oG J hy1 (mv J) J (oG J hy1 (stp_leq J J) J (oD (stp_pick_t J hy1 J) J ?_))
   obtain rfl := sI ey1
   exact ow_nil (jy 3 0)
  have ey1 := cond_f ey1 hy1
  refine oO J hy1 J (oO J hy1 J (oD (stp_pick_f J hy1 J) J ?_))
  obtain rfl := sI ey1
  exact ow_nil (jy 3 0)
 refine sn J (cw_ret ?_)
 obtain rfl := sI H0
 exact kr results45 (rT J) [] ⟨J, J⟩

theorem c_s_l4Line (fl : Nat) (w : World) (a0 : Ln) (r : Bool) (H0 : s_l4Line fl a0 = some r) :
  Ct prog 133 [.agg #[.bool a0.va, I a0.tg, I a0.pg, I a0.fr, I a0.ri, .bool a0.wi]] w [] (fun rv h' => rv = .bool r ∧ h' = []) := by
 unfold s_l4Line at H0
 refine ct_of_cw func133 J ntmps133 J (Sat.refl _ _) ?_
 refine sr (oE (stpU_box 0 J J) J ?_)
 rintro _ _ ⟨b1, rfl, rfl⟩
 refine sq J (oAL 0 u104 J ts4 J 0 J (oK J (nn (cH J H0 (fun H0 => ?_) (fun H0 => ?_)))))
 ·refine sr (oB6 0 ts104 J (oD (stp_build (cs := #[.bool false, I 0, I 0, I 0, I 0, .bool false]) sE bt104_11) J (oD (stp_eqlS te104 a0 (⟨false, 0, 0, 0, 0, false⟩ : Ln) J J) J (sr1 J (kR ?_)))))
  obtain rfl := sI H0
  exact kr results133 (rT J) [] ⟨J, J⟩
 obtain ⟨y3, ey3, H0⟩ := bS H0
 refine ks (oAL 1 u104 J ts3 J 0 J (oI J (oM J (ow_cutY 4 16 y3 ?_ ?_))))
 ·rcases Bool.eq_false_or_eq_true (decide ((-1) ≤ a0.tg)) with hy3 | hy3
  ·have ey3 := cond_t ey3 hy3
   refine oG J hy3 (fA 1 u104 J ts3 J J J) J (oG J hy3 (lB 0 ts3 J J J) J (oG J hy3 (stp_lss J J) J (oD (stp_pick_t J hy3 J) J ?_)))
   obtain rfl := sI ey3
   exact ow_nil (jy 4 0)
  have ey3 := cond_f ey3 hy3
  refine oO J hy3 J (oO J hy3 J (oO J hy3 J (oD (stp_pick_f J hy3 J) J ?_)))
  obtain rfl := sI ey3
  exact ow_nil (jy 4 0)
 obtain ⟨y4, ey4, H0⟩ := bS H0
 refine oM J (ow_cutY 4 21 y4 ?_ ?_)
 ·rcases Bool.eq_false_or_eq_true y3 with hy4 | hy4
  ·have ey4 := cond_t ey4 hy4
   obtain ⟨x5, e5, ey4⟩ := bS ey4
   refine oG J hy4 (fA 2 u104 J ts3 J J J) J (oG J hy4 (lB 0 ts3 J J J) J (ow_eff (.some J hy4) (uC 1 cf44 (fun w hw => c_s_l1Page fl w a0.pg x5 e5) (yA J)) J ?_))
   rintro _ _ ⟨_, ⟨rfl, rfl⟩, rfl⟩
   refine oD (stp_pick_t J hy4 J) J ?_
   obtain rfl := sI ey4
   exact ow_nil (jy 4 0)
  have ey4 := cond_f ey4 hy4
  refine oO J hy4 J (oO J hy4 J (oO J hy4 J (oD (stp_pick_f J hy4 J) J ?_)))
  obtain rfl := sI ey4
  exact ow_nil (jy 4 0)
 obtain ⟨y6, ey6, H0⟩ := bS H0
 refine oM J (ow_cutY 4 26 y6 ?_ ?_)
 ·rcases Bool.eq_false_or_eq_true y4 with hy6 | hy6
  ·have ey6 := cond_t ey6 hy6
   refine oG J hy6 (fA 3 u104 J ts3 J J J) J (oG J hy6 (lB 0 ts3 J J J) J (oG J hy6 (stp_geq J J) J (oD (stp_pick_t J hy6 J) J ?_)))
   obtain rfl := sI ey6
   exact ow_nil (jy 4 0)
  have ey6 := cond_f ey6 hy6
  refine oO J hy6 J (oO J hy6 J (oO J hy6 J (oD (stp_pick_f J hy6 J) J ?_)))
  obtain rfl := sI ey6
  exact ow_nil (jy 4 0)
 obtain ⟨y7, ey7, H0⟩ := bS H0
 refine oM J (ow_cutY 4 31 y7 ?_ ?_)
 ·rcases Bool.eq_false_or_eq_true y6 with hy7 | hy7
  ·have ey7 := cond_t ey7 hy7
   refine oG J hy7 (fA 3 u104 J ts3 J J J) J (oG J hy7 (lB 0 ts3 J J J) J (oG J hy7 (stp_lss J J) J (oD (stp_pick_t J hy7 J) J ?_)))
   obtain rfl := sI ey7
   exact ow_nil (jy 4 0)
  have ey7 := cond_f ey7 hy7
  refine oO J hy7 J (oO J hy7 J (oO J hy7 J (oD (stp_pick_f J hy7 J) J ?_)))
  obtain rfl := sI ey7
  exact ow_nil (jy 4 0)
 obtain ⟨y8, ey8, H0⟩ := bS H0
 refine oM J (ow_cutY 4 36 y8 ?_ ?_)
 ·rcases Bool.eq_false_or_eq_true y7 with hy8 | hy8
  ·have ey8 := cond_t ey8 hy8
   obtain ⟨x9, e9, ey8⟩ := bS ey8
   refine oG J hy8 (fA 4 u104 J ts3 J J J) J (oG J hy8 (lB 0 ts3 J J J) J (ow_eff (.some J hy8) (uC 1 cf45 (fun w hw => c_s_RightsValid fl w a0.ri x9 e9) (yA J)) J ?_))
   rintro _ _ ⟨_, ⟨rfl, rfl⟩, rfl⟩
   refine oD (stp_pick_t J hy8 J) J ?_
   obtain rfl := sI ey8
   exact ow_nil (jy 4 0)
  have ey8 := cond_f ey8 hy8
  refine oO J hy8 J (oO J hy8 J (oO J hy8 J (oD (stp_pick_f J hy8 J) J ?_)))
  obtain rfl := sI ey8
  exact ow_nil (jy 4 0)
 refine sn J (cw_ret ?_)
 obtain rfl := sI H0
 exact kr results133 (rT J) [] ⟨J, J⟩

theorem c_s_CacheValid (fl : Nat) (w : World) (a0 : Ca) (hn0_0 : n0_0 = (a0.l).length) (hr0_0 : RO w [] (RdL p0_0 c0_0 a0.l)) (r : Bool) (H0 : s_CacheValid fl a0 = some r) :
  Ct prog 96 [.agg #[.slice p0_0 n0_0 c0_0, I a0.h]] w [] (fun rv h' => rv = .bool r ∧ h' = []) := by
 subst hn0_0
 unfold s_CacheValid at H0
 refine ct_of_cw func96 J ntmps96 J (Sat.refl _ _) ?_
 refine sr (oE (stpU_box 0 J J) J ?_)
 rintro _ _ ⟨b1, rfl, rfl⟩
 obtain ⟨y2, ey2, H0⟩ := bS H0
 refine sq J (oAL 0 u29 J ts27 J 0 J (oD (stp_len u27 J) J (oW J (oM J (ow_cutY 5 17 y2 ?_ ?_)))))
 ·rcases Bool.eq_false_or_eq_true (decide (((a0.l).length : Int) < 1)) with hy2 | hy2
  ·have ey2 := cond_t ey2 hy2
   refine oO J hy2 J (oO J hy2 J (oO J hy2 J (oO J hy2 J (oD (stp_pick_t J hy2 J) J ?_))))
   obtain rfl := sI ey2
   exact ow_nil (jy 5 0)
  have ey2 := cond_f ey2 hy2
  refine oG J hy2 (fA 0 u29 J ts27 J J J) J (oG J hy2 (lB 0 ts27 J J J) J (oG J hy2 (stp_len u27 J) J (oG J hy2 (stp_gtr J J) J (oD (stp_pick_f J hy2 J) J ?_))))
  obtain rfl := sI ey2
  exact ow_nil (jy 5 0)
 obtain ⟨y3, ey3, H0⟩ := bS H0
 refine oM J (ow_cutY 4 22 y3 ?_ ?_)
 ·rcases Bool.eq_false_or_eq_true y2 with hy3 | hy3
  ·have ey3 := cond_t ey3 hy3
   refine oO J hy3 J (oO J hy3 J (oO J hy3 J (oD (stp_pick_t J hy3 J) J ?_)))
   obtain rfl := sI ey3
   exact ow_nil (jy 4 0)
  have ey3 := cond_f ey3 hy3
  refine oG J hy3 (fA 1 u29 J ts3 J J J) J (oG J hy3 (lB 0 ts3 J J J) J (oG J hy3 (stp_lss J J) J (oD (stp_pick_f J hy3 J) J ?_)))
  obtain rfl := sI ey3
  exact ow_nil (jy 4 0)
 obtain ⟨y4, ey4, H0⟩ := bS H0
 refine oM J (ow_cutY 7 30 y4 ?_ ?_)
 ·rcases Bool.eq_false_or_eq_true y3 with hy4 | hy4
  ·have ey4 := cond_t ey4 hy4
   refine oO J hy4 J (oO J hy4 J (oO J hy4 J (oO J hy4 J (oO J hy4 J (oO J hy4 J (oD (stp_pick_t J hy4 J) J ?_))))))
   obtain rfl := sI ey4
   exact ow_nil (jy 7 0)
  have ey4 := cond_f ey4 hy4
  refine oG J hy4 (fA 1 u29 J ts3 J J J) J (oG J hy4 (lB 0 ts3 J J J) J (oG J hy4 (fA 0 u29 J ts27 J J J) J (oG J hy4 (lB 0 ts27 J J J) J (oG J hy4 (stp_len u27 J) J (oG J hy4 (stp_geq J J) J (oD (stp_pick_f J hy4 J) J ?_))))))
  obtain rfl := sI ey4
  exact ow_nil (jy 7 0)
 refine ow_nil (kw_nx (cH J H0 (fun H0 => ?_) (fun H0 => ?_)))
 ·refine sr (sr1 J (kR ?_))
  obtain rfl := sI H0
  exact kr results96 (rT J) [] ⟨J, J⟩
 obtain ⟨o0_0, eo0_0, H0⟩ := bS H0
 refine ks (sq J (sn J (lp (fun f a b => s_CacheValid_L0 fl a0 f a b = some o0_0) (fun a b => o0_0 = .out (a, b)) (fun R s h => ∃ v6 v7, R v6 v7 ∧ s = [(1, .pointer (some ⟨b1, 0, none⟩)), (3, I v6), (4, I v7)] ∧ h = [(0, [(b1, .cells #[.slice p0_0 ((a0.l).length) c0_0, I a0.h] 29 (0, 0))])]) ⟨_, _, eo0_0, J, J⟩ ?_ ?_)))
 ·rintro fuel _ _ ⟨v6, v7, H1, rfl, rfl⟩
  rcases fuel with _ | fuel
  ·rw [s_CacheValid_L0.eq_1] at H1; cases H1
  rw [s_CacheValid_L0.eq_2] at H1
  refine csr (oM J (oAL 0 u29 J ts27 J 0 J (oD (stp_len u27 J) J (oW J (nn (cH J H1 (fun H1 => ?_) (fun H1 => ?_)))))))
  ·obtain ⟨x9, e9, H1⟩ := bS H1
   refine kq (cw_block (sr (oAL 0 u29 J ts27 J 0 J (oM J (oD (stp_indexAddr u27 ts104 (by decide) J J J (Rdb.ro hr0_0) e9) J (oD (stp_loadN (us := [_, _, _, _, _, _]) ts104 J (Cells.el (Rdb.ro hr0_0) (by decide) e9 0 6 J)) J (oE (stpU_alloc 1 tz104 J) J ?_)))))))
   rintro _ _ ⟨b10, rfl, rfl⟩
   obtain ⟨x11, e11, H1⟩ := bS H1
   refine oC6 1 ts104 J J (nq (oB6 1 ts104 J (oE (uC 2 cf133 (fun w hw => c_s_l4Line fl w x9 x11 e11) (yA J)) J ?_)))
   rintro _ _ ⟨_, ⟨rfl, rfl⟩, rfl⟩
   refine oK J (nn (cH J H1 (fun H1 => ?_) (fun H1 => ?_)))
   ·refine sr (sR J (kw_bl_ret (kR (ar (kw_bl_ret (xr (kR ?_)))))))
    obtain rfl := sI H1
    obtain rfl := sI H0
    exact kr results96 (rT J) [] ⟨J, J⟩
   refine kq (sr (oAL 5 u104 J ts4 J 1 J (oK J (nn (cH J H1 (fun H1 => ?_) (fun H1 => ?_))))))
   ·obtain ⟨x14, e14, H1⟩ := bS H1
    obtain ⟨o1_1, eo1_1, H1⟩ := bS H1
    refine cR (oM J (oP e14 J (ss J (sn J (lp (fun f a => s_CacheValid_L1 fl a0 v7 x9 f a = some o1_1) (fun a => o1_1 = .out a) (fun R s h => ∃ v15, R v15 ∧ s = [(1, .pointer (some ⟨b1, 0, none⟩)), (3, I x14), (4, I v7), (5, .pointer (some ⟨b10, 0, none⟩)), (6, I v15)] ∧ h = [(0, [(b1, .cells #[.slice p0_0 ((a0.l).length) c0_0, I a0.h] 29 (0, 0))]), (1, [(b10, .cells #[.bool x9.va, I x9.tg, I x9.pg, I x9.fr, I x9.ri, .bool x9.wi] 104 (0, 0))])]) ⟨_, eo1_1, J, J⟩ ?_ ?_)))))
    ·rintro fuel _ _ ⟨v15, H2, rfl, rfl⟩
     try dsimp only at H2
     rcases fuel with _ | fuel
     ·rw [s_CacheValid_L1.eq_1] at H2; cases H2
     rw [s_CacheValid_L1.eq_2] at H2
     refine csr (oM J (oM J (oW J (nn (cH J H2 (fun H2 => ?_) (fun H2 => ?_))))))
     ·obtain ⟨x17, e17, H2⟩ := bS H2
      refine kq (cw_block (sr (oAL 0 u29 J ts27 J 0 J (oM J (oD (stp_indexAddr u27 ts104 (by decide) J J J (Rdb.ro hr0_0) e17) J (oD (stp_loadN (us := [_, _, _, _, _, _]) ts104 J (Cells.el (Rdb.ro hr0_0) (by decide) e17 0 6 J)) J (oE (stpU_alloc 2 tz104 J) J ?_)))))))
      rintro _ _ ⟨b18, rfl, rfl⟩
      obtain ⟨y19, ey19, H2⟩ := bS H2
      refine oC6 2 ts104 J J (ns (oAL 0 u104 J ts4 J 1 J (oM J (ow_cutY 3 66 y19 ?_ ?_))))
      ·rcases Bool.eq_false_or_eq_true x9.va with hy19 | hy19
       ·have ey19 := cond_t ey19 hy19
        refine oG J hy19 (fA 0 u104 J ts4 J J J) J (oG J hy19 (lB 2 ts4 J J J) J (oD (stp_pick_t J hy19 J) J ?_))
        obtain rfl := sI ey19
        exact ow_nil (jy 3 0)
       have ey19 := cond_f ey19 hy19
       refine oO J hy19 J (oO J hy19 J (oD (stp_pick_f J hy19 J) J ?_))
       obtain rfl := sI ey19
       exact ow_nil (jy 3 0)
      obtain ⟨y20, ey20, H2⟩ := bS H2
      refine oM J (ow_cutY 6 73 y20 ?_ ?_)
      ·rcases Bool.eq_false_or_eq_true y19 with hy20 | hy20
       ·have ey20 := cond_t ey20 hy20
        refine oG J hy20 (fA 2 u104 J ts3 J J J) J (oG J hy20 (lB 1 ts3 J J J) J (oG J hy20 (fA 2 u104 J ts3 J J J) J (oG J hy20 (lB 2 ts3 J J J) J (oG J hy20 (stp_eql J J) J (oD (stp_pick_t J hy20 J) J ?_)))))
        obtain rfl := sI ey20
        exact ow_nil (jy 6 0)
       have ey20 := cond_f ey20 hy20
       refine oO J hy20 J (oO J hy20 J (oO J hy20 J (oO J hy20 J (oO J hy20 J (oD (stp_pick_f J hy20 J) J ?_)))))
       obtain rfl := sI ey20
       exact ow_nil (jy 6 0)
      obtain ⟨y21, ey21, H2⟩ := bS H2
      refine oM J (ow_cutY 16 90 y21 ?_ ?_)
      ·rcases Bool.eq_false_or_eq_true y20 with hy21 | hy21
       ·have ey21 := cond_t ey21 hy21
        obtain ⟨y22, ey22, ey21⟩ := bS ey21
        refine oG J hy21 (fA 1 u104 J ts3 J J J) J (oG J hy21 (lB 1 ts3 J J J) J (oG J hy21 (fA 1 u104 J ts3 J J J) J (oG J hy21 (lB 2 ts3 J J J) J (oG J hy21 (stp_eql J J) J (oG J hy21 (mv J) J (ow_cutY 4 84 y22 ?_ ?_))))))
        ·rcases Bool.eq_false_or_eq_true (x9.tg == x17.tg) with hy22 | hy22
         ·have ey22 := cond_t ey22 hy22
          refine oO J hy22 J (oO J hy22 J (oO J hy22 J (oG J hy21 (stp_pick_t J hy22 J) J ?_)))
          obtain rfl := sI ey22
          exact ow_nil (jy 4 0)
         have ey22 := cond_f ey22 hy22
         refine oG J hy22 (fA 1 u104 J ts3 J J J) J (oG J hy22 (lB 1 ts3 J J J) J (oG J hy22 (stp_eql J J) J (oG J hy21 (stp_pick_f J hy22 J) J ?_)))
         obtain rfl := sI ey22
         exact ow_nil (jy 4 0)
        obtain ⟨y23, ey23, ey21⟩ := bS ey21
        refine oG J hy21 (mv J) J (ow_cutY 4 89 y23 ?_ ?_)
        ·rcases Bool.eq_false_or_eq_true y22 with hy23 | hy23
         ·have ey23 := cond_t ey23 hy23
          refine oO J hy23 J (oO J hy23 J (oO J hy23 J (oG J hy21 (stp_pick_t J hy23 J) J ?_)))
          obtain rfl := sI ey23
          exact ow_nil (jy 4 0)
         have ey23 := cond_f ey23 hy23
         refine oG J hy23 (fA 1 u104 J ts3 J J J) J (oG J hy23 (lB 2 ts3 J J J) J (oG J hy23 (stp_eql J J) J (oG J hy21 (stp_pick_f J hy23 J) J ?_)))
         obtain rfl := sI ey23
         exact ow_nil (jy 4 0)
        refine oD (stp_pick_t J hy21 J) J ?_
        obtain rfl := sI ey21
        exact ow_nil (jy 10 0)
       have ey21 := cond_f ey21 hy21
       refine oO J hy21 J (oO J hy21 J (oO J hy21 J (oO J hy21 J (oO J hy21 J (oO J hy21 J (oX J J J (oX J J J (oX J J J (oO J hy21 J (oO J hy21 J (oX J J J (oX J J J (oX J J J ?_)))))))))))))
       refine oO J hy21 J (oD (stp_pick_f J hy21 J) J ?_)
       obtain rfl := sI ey21
       exact ow_nil (jy 16 0)
      refine ow_nil (kw_nx (cH J H2 (fun H2 => ?_) (fun H2 => ?_)))
      ·refine sr (sr1 J (kw_bl_ret (kR (ar (kw_bl_ret (xr (kw_bl_ret (kR (ar (kw_bl_ret (xr ?_)))))))))))
       refine kR ?_
       obtain rfl := sI H2
       obtain rfl := sI H1
       obtain rfl := sI H0
       exact kr results96 (rT J) [] ⟨J, J⟩
      obtain ⟨x25, e25, H2⟩ := bS H2
      exact cw_skip (kb (cR (oM J (oP e25 J (oS J (ow_nil (ka ⟨_, H2, J, J⟩)))))))
     refine cw_exit (kw_nx_exit (ax (kw_bl ?_)))
     obtain rfl := sI H2
     exact kx ⟨_, J, J, J⟩
    rintro _ _ ⟨v15, rfl, rfl, rfl⟩
    obtain ⟨x26, e26, H1⟩ := bS H1
    exact kb (cR (oM J (oP e26 J (oS J (ow_nil (ka ⟨_, _, H1, J, J⟩))))))
   obtain ⟨o1_2, eo1_2, H1⟩ := bS H1
   refine ks (sn J (lp (fun f a => s_CacheValid_L2 fl a0 v7 x9 f a = some o1_2) (fun a => o1_2 = .out a) (fun R s h => ∃ v27, R v27 ∧ s = [(1, .pointer (some ⟨b1, 0, none⟩)), (3, I v6), (4, I v7), (5, .pointer (some ⟨b10, 0, none⟩)), (6, I v27)] ∧ h = [(0, [(b1, .cells #[.slice p0_0 ((a0.l).length) c0_0, I a0.h] 29 (0, 0))]), (1, [(b10, .cells #[.bool x9.va, I x9.tg, I x9.pg, I x9.fr, I x9.ri, .bool x9.wi] 104 (0, 0))])]) ⟨_, eo1_2, J, J⟩ ?_ ?_))
   ·rintro fuel _ _ ⟨v27, H2, rfl, rfl⟩
    try dsimp only at H2
    rcases fuel with _ | fuel
    ·rw [s_CacheValid_L2.eq_1] at H2; cases H2
    rw [s_CacheValid_L2.eq_2] at H2
    refine csr (oM J (oM J (oW J (nn (cH J H2 (fun H2 => ?_) (fun H2 => ?_))))))
    ·obtain ⟨x29, e29, H2⟩ := bS H2
     refine kq (cw_block (sr (oAL 0 u29 J ts27 J 0 J (oM J (oD (stp_indexAddr u27 ts104 (by decide) J J J (Rdb.ro hr0_0) e29) J (oD (stp_loadN (us := [_, _, _, _, _, _]) ts104 J (Cells.el (Rdb.ro hr0_0) (by decide) e29 0 6 J)) J (oE (stpU_alloc 3 tz104 J) J ?_)))))))
     rintro _ _ ⟨b30, rfl, rfl⟩
     obtain ⟨y31, ey31, H2⟩ := bS H2
     refine oC6 3 ts104 J J (ns (oAL 0 u104 J ts4 J 1 J (oM J (ow_cutY 3 66 y31 ?_ ?_))))
     ·rcases Bool.eq_false_or_eq_true x9.va with hy31 | hy31
      ·have ey31 := cond_t ey31 hy31
       refine oG J hy31 (fA 0 u104 J ts4 J J J) J (oG J hy31 (lB 3 ts4 J J J) J (oD (stp_pick_t J hy31 J) J ?_))
       obtain rfl := sI ey31
       exact ow_nil (jy 3 0)
      have ey31 := cond_f ey31 hy31
      refine oO J hy31 J (oO J hy31 J (oD (stp_pick_f J hy31 J) J ?_))
      obtain rfl := sI ey31
      exact ow_nil (jy 3 0)
     obtain ⟨y32, ey32, H2⟩ := bS H2
     refine oM J (ow_cutY 6 73 y32 ?_ ?_)
     ·rcases Bool.eq_false_or_eq_true y31 with hy32 | hy32
      ·have ey32 := cond_t ey32 hy32
       refine oG J hy32 (fA 2 u104 J ts3 J J J) J (oG J hy32 (lB 1 ts3 J J J) J (oG J hy32 (fA 2 u104 J ts3 J J J) J (oG J hy32 (lB 3 ts3 J J J) J (oG J hy32 (stp_eql J J) J (oD (stp_pick_t J hy32 J) J ?_)))))
       obtain rfl := sI ey32
       exact ow_nil (jy 6 0)
      have ey32 := cond_f ey32 hy32
      refine oO J hy32 J (oO J hy32 J (oO J hy32 J (oO J hy32 J (oO J hy32 J (oD (stp_pick_f J hy32 J) J ?_)))))
      obtain rfl := sI ey32
      exact ow_nil (jy 6 0)
     obtain ⟨y33, ey33, H2⟩ := bS H2
     refine oM J (ow_cutY 16 90 y33 ?_ ?_)
     ·rcases Bool.eq_false_or_eq_true y32 with hy33 | hy33
      ·have ey33 := cond_t ey33 hy33
       obtain ⟨y34, ey34, ey33⟩ := bS ey33
       refine oG J hy33 (fA 1 u104 J ts3 J J J) J (oG J hy33 (lB 1 ts3 J J J) J (oG J hy33 (fA 1 u104 J ts3 J J J) J (oG J hy33 (lB 3 ts3 J J J) J (oG J hy33 (stp_eql J J) J (oG J hy33 (mv J) J (ow_cutY 4 84 y34 ?_ ?_))))))
       ·rcases Bool.eq_false_or_eq_true (x9.tg == x29.tg) with hy34 | hy34
        ·have ey34 := cond_t ey34 hy34
         refine oO J hy34 J (oO J hy34 J (oO J hy34 J (oG J hy33 (stp_pick_t J hy34 J) J ?_)))
         obtain rfl := sI ey34
         exact ow_nil (jy 4 0)
        have ey34 := cond_f ey34 hy34
        refine oG J hy34 (fA 1 u104 J ts3 J J J) J (oG J hy34 (lB 1 ts3 J J J) J (oG J hy34 (stp_eql J J) J (oG J hy33 (stp_pick_f J hy34 J) J ?_)))
        obtain rfl := sI ey34
        exact ow_nil (jy 4 0)
       obtain ⟨y35, ey35, ey33⟩ := bS ey33
       refine oG J hy33 (mv J) J (ow_cutY 4 89 y35 ?_ ?_)
       ·rcases Bool.eq_false_or_eq_true y34 with hy35 | hy35
        ·have ey35 := cond_t ey35 hy35
         refine oO J hy35 J (oO J hy35 J (oO J hy35 J (oG J hy33 (stp_pick_t J hy35 J) J ?_)))
         obtain rfl := sI ey35
         exact ow_nil (jy 4 0)
        have ey35 := cond_f ey35 hy35
        refine oG J hy35 (fA 1 u104 J ts3 J J J) J (oG J hy35 (lB 3 ts3 J J J) J (oG J hy35 (stp_eql J J) J (oG J hy33 (stp_pick_f J hy35 J) J ?_)))
        obtain rfl := sI ey35
        exact ow_nil (jy 4 0)
       refine oD (stp_pick_t J hy33 J) J ?_
       obtain rfl := sI ey33
       exact ow_nil (jy 10 0)
      have ey33 := cond_f ey33 hy33
      refine oO J hy33 J (oO J hy33 J (oO J hy33 J (oO J hy33 J (oO J hy33 J (oO J hy33 J (oX J J J (oX J J J (oX J J J (oO J hy33 J (oO J hy33 J (oX J J J (oX J J J (oX J J J ?_)))))))))))))
      refine oO J hy33 J (oD (stp_pick_f J hy33 J) J ?_)
      obtain rfl := sI ey33
      exact ow_nil (jy 16 0)
     refine ow_nil (kw_nx (cH J H2 (fun H2 => ?_) (fun H2 => ?_)))
     ·refine sr (sr1 J (kw_bl_ret (kR (ar (kw_bl_ret (xr (kw_bl_ret (kR (ar (kw_bl_ret (xr ?_)))))))))))
      refine kR ?_
      obtain rfl := sI H2
      obtain rfl := sI H1
      obtain rfl := sI H0
      exact kr results96 (rT J) [] ⟨J, J⟩
     obtain ⟨x37, e37, H2⟩ := bS H2
     exact cw_skip (kb (cR (oM J (oP e37 J (oS J (ow_nil (ka ⟨_, H2, J, J⟩)))))))
    refine cw_exit (kw_nx_exit (ax (kw_bl ?_)))
    obtain rfl := sI H2
    exact kx ⟨_, J, J, J⟩
   rintro _ _ ⟨v27, rfl, rfl, rfl⟩
   obtain ⟨x38, e38, H1⟩ := bS H1
   exact kb (cR (oM J (oP e38 J (oS J (ow_nil (ka ⟨_, _, H1, J, J⟩))))))
  refine cw_exit (kw_nx_exit (ax (kw_bl ?_)))
  obtain rfl := sI H1
  exact kx ⟨_, _, J, J, J⟩
 rintro _ _ ⟨v6, v7, rfl, rfl, rfl⟩
 refine kw_nx (sr (oM J (oJ J (sn J (cw_ret ?_)))))
 obtain rfl := sI H0
 exact kr results96 (rT J) [] ⟨J, J⟩

theorem c_s_SpaceOf (fl : Nat) (w : World) (a0 : Tg) (a1 : Int) (hn0_0 : n0_0 = (a0.o).length) (hr0_0 : RO w [] (RdL p0_0 c0_0 a0.o)) (r : Int × Bool) (H0 : s_SpaceOf fl a0 a1 = some r) :
  Ct prog 135 [.agg #[I a0.c, I a0.n, I a0.r, .slice p0_0 n0_0 c0_0], I a1] w [] (fun rv h' => rv = .tuple #[I r.1, .bool r.2] ∧ h' = []) := by
 subst hn0_0
 unfold s_SpaceOf at H0
 refine ct_of_cw func135 J ntmps135 J (Sat.refl _ _) ?_
 refine sr (oE (stpU_box 0 J J) J ?_)
 rintro _ _ ⟨b1, rfl, rfl⟩
 obtain ⟨o0_0, eo0_0, H0⟩ := bS H0
 refine oS J (sq J (sn J (lp (fun f a => s_SpaceOf_L0 fl a0 a1 f a = some o0_0) (fun a => o0_0 = .out a) (fun R s h => ∃ v2, R v2 ∧ s = [(1, I a1), (2, .pointer (some ⟨b1, 0, none⟩)), (6, I v2)] ∧ h = [(0, [(b1, .cells #[I a0.c, I a0.n, I a0.r, .slice p0_0 ((a0.o).length) c0_0] 32 (0, 0))])]) ⟨_, eo0_0, J, J⟩ ?_ ?_)))
 ·rintro fuel _ _ ⟨v2, H1, rfl, rfl⟩
  rcases fuel with _ | fuel
  ·rw [s_SpaceOf_L0.eq_1] at H1; cases H1
  rw [s_SpaceOf_L0.eq_2] at H1
  obtain ⟨y3, ey3, H1⟩ := bS H1
  refine csr (oM J (oAL 3 u32 J ts30 J 0 J (oD (stp_len u30 J) J (oW J (oM J (ow_cutY 3 15 y3 ?_ ?_))))))
  ·rcases Bool.eq_false_or_eq_true (decide (v2 < ((a0.o).length : Int))) with hy3 | hy3
   ·have ey3 := cond_t ey3 hy3
    obtain ⟨x4, e4, ey3⟩ := bS ey3
    refine oG J hy3 (stp_loadN (us := [_, _, _, _]) ts32 J (Cells.box (id := 0) J 4 J)) J (ow_eff (.some J hy3) (uC 1 cf97 (fun w hw => c_s_TagsValid fl w a0 J (rp hr0_0 hw) x4 e4) (yA J)) J ?_)
    rintro _ _ ⟨_, ⟨rfl, rfl⟩, rfl⟩
    refine oD (stp_pick_t J hy3 J) J ?_
    obtain rfl := sI ey3
    exact ow_nil (jy 3 0)
   have ey3 := cond_f ey3 hy3
   refine oO J hy3 J (oO J hy3 J (oD (stp_pick_f J hy3 J) J ?_))
   obtain rfl := sI ey3
   exact ow_nil (jy 3 0)
  refine ow_nil (kw_nx (cH J H1 (fun H1 => ?_) (fun H1 => ?_)))
  ·obtain ⟨x6, e6, H1⟩ := bS H1
   refine kq (cw_block (sr (oAL 3 u32 J ts30 J 0 J (oM J (oD (stp_indexAddr u30 ts70 (by decide) J J J (Rdb.ro hr0_0) e6) J (oA 1 u70 J ts3 J (oD (stp_load1 ts3 J (Cells.el (Rdb.ro hr0_0) (by decide) e6 1 1 J)) J (oM J (oQ J (nn ?_))))))))))
   refine cH J H1 (fun H1 => ?_) (fun H1 => ?_)
   ·refine sr (oAL 3 u32 J ts30 J 0 J (oM J (oD (stp_indexAddr u30 ts70 (by decide) J J J (Rdb.ro hr0_0) e6) J (oA 0 u70 J ts3 J (oD (stp_load1 ts3 J (Cells.el (Rdb.ro hr0_0) (by decide) e6 0 1 J)) J (oS J (sr1 J (kw_bl_ret (kR (ar ?_))))))))))
    refine kw_bl_ret (xr (kR ?_))
    obtain rfl := sI H1
    obtain rfl := sI H0
    exact kr results135 (.cons (.tmp J) (rT J)) [] ⟨J, J⟩
   obtain ⟨x8, e8, H1⟩ := bS H1
   exact cw_skip (kb (cR (oM J (oP e8 J (oS J (ow_nil (ka ⟨_, H1, J, J⟩)))))))
  refine cw_exit (kw_nx_exit (ax (kw_bl ?_)))
  obtain rfl := sI H1
  exact kx ⟨_, J, J, J⟩
 rintro _ _ ⟨v2, rfl, rfl, rfl⟩
 refine kw_nx (sr (oS J (sn J (cw_ret ?_))))
 obtain rfl := sI H0
 exact kr results135 (.cons (.tmp J) (rT J)) [] ⟨J, J⟩

theorem c_s_KeyFor (fl : Nat) (w : World) (a0 : Int) (a1 : Int) (r : K) (H0 : s_KeyFor fl a0 a1 = some r) :
  Ct prog 47 [I a0, I a1] w [] (fun rv h' => rv = .agg #[I r.s, I r.p] ∧ h' = []) := by
 unfold s_KeyFor at H0
 refine ct_of_cw func47 J ntmps47 J (Sat.refl _ _) ?_
 refine sr (oE (stpU_alloc 0 tz50 J) J ?_)
 rintro _ _ ⟨b1, rfl, rfl⟩
 refine nq (oM J (oI J (nn (cH J H0 (fun H0 => ?_) (fun H0 => ?_)))))
 ·refine sr (oM J (oD (stp_build (cs := #[I 0, I a1]) (sP J sE) bt50_12) J (oC2 0 ts50 J J (nr (kR ?_)))))
  obtain rfl := sI H0
  exact kr results47 (rC2 0 ts50 J J) [] ⟨J, J⟩
 refine ks (oM J (oM J (oD (stp_build (cs := #[I a0, I a1]) (sP J (sP J sE)) bt50_13) J (oC2 0 ts50 J J (nn (cw_ret ?_))))))
 obtain rfl := sI H0
 exact kr results47 (rC2 0 ts50 J J) [] ⟨J, J⟩

theorem c_s_l2Hash (fl : Nat) (w : World) (a0 : K) (a1 : Int) (r : Int) (H0 : s_l2Hash fl a0 a1 = some r) :
  Ct prog 77 [.agg #[I a0.s, I a0.p], I a1] w [] (fun rv h' => rv = I r ∧ h' = []) := by
 unfold s_l2Hash at H0
 refine ct_of_cw func77 J ntmps77 J (Sat.refl _ _) ?_
 refine sr (oE (stpU_box 0 J J) J ?_)
 rintro _ _ ⟨b1, rfl, rfl⟩
 obtain ⟨x2, e2, H0⟩ := bS H0
 obtain ⟨x3, e3, H0⟩ := bS H0
 obtain ⟨x4, e4, H0⟩ := bS H0
 refine ss J (oAL 0 u50 J ts3 J 0 J (oD (stp_mul J J e2) J (oAL 1 u50 J ts3 J 0 J (oP e3 J (ss J (oM J (oD (stp_mul J J e4) J ?_)))))))
 obtain ⟨x5, e5, H0⟩ := bS H0
 obtain ⟨x6, e6, H0⟩ := bS H0
 obtain ⟨x7, e7, H0⟩ := bS H0
 refine oD (stp_rem J J e5) J (oM J (oD (stp_mul J J e6) J (oD (stp_quo J J e7) J (sn J (cw_ret ?_)))))
 obtain rfl := sI H0
 exact kr results77 (rT J) [] ⟨J, J⟩

theorem c_s_l3Chain (fl : Nat) (w : World) (a0 : T) (a1 : Int) (hn0_0 : n0_0 = (a0.b).length) (hr0_0 : RO w [] (RdL p0_0 c0_0 a0.b)) (hn0_1 : n0_1 = (a0.f).length) (hr0_1 : RO w [] (RdL p0_1 c0_1 a0.f)) (r : (List Int) × Bool) (H0 : s_l3Chain fl a0 a1 = some r) :
  Ct prog 76 [.agg #[.slice p0_0 n0_0 c0_0, .slice p0_1 n0_1 c0_1], I a1] w [] (fun rv h' => SL 3 r.1 fun x0 y0 z0 C0 => rv = .tuple #[.slice x0 y0 z0, .bool r.2] ∧ h' = [(0, C0)]) := by
 subst hn0_0 hn0_1
 unfold s_l3Chain at H0
 refine ct_of_cw func76 J ntmps76 J (Sat.refl _ _) ?_
 refine sr (oE (stpU_box 0 J J) J ?_)
 rintro _ _ ⟨b1, rfl, rfl⟩
 refine oS J (ss J (oE (stpU_lit0 sl23 1) J ?_))
 rintro _ _ ⟨p2, C3, rfl, rfl, o3⟩
 obtain ⟨x4, e4, H0⟩ := bS H0
 obtain ⟨o0_0, eo0_0, H0⟩ := bS H0
 refine ss J (oAL 0 u26 J ts23 J 0 J (oM J (oD (stp_indexAddr u23 ts3 (by decide) J J J (Rdb.ro hr0_0) e4) J (oD (stp_load1 ts3 J (Cells.el (Rdb.ro hr0_0) (by decide) e4 0 1 J)) J (sn J (cq (lp (fun f a b => s_l3Chain_L0 fl a0 f a b = some o0_0) (fun a b => o0_0 = .out (a, b)) (fun R s h => ∃ v5 v10 p6 n7 c8 C9, R v5 v10 ∧ s = [(2, .pointer (some ⟨b1, 0, none⟩)), (6, .slice p6 n7 c8), (7, I v10)] ∧ h = [(0, [(b1, .cells #[.slice p0_0 ((a0.b).length) c0_0, .slice p0_1 ((a0.f).length) c0_1] 26 (0, 0))]), (1, C9)] ∧ n7 = (v5).length ∧ OwnC 3 p6 c8 v5 C9) ⟨_, _, p2, 0, 0, C3, eo0_0, J, J, (by simp), o3⟩ ?_ ?_)))))))
 ·rintro fuel _ _ ⟨v5, v10, p6, _, c8, C9, H1, rfl, rfl, rfl, o9⟩
  rcases fuel with _ | fuel
  ·rw [s_l3Chain_L0.eq_1] at H1; cases H1
  rw [s_l3Chain_L0.eq_2] at H1
  refine csr (oM J (oU J (nn (cH J H1 (fun H1 => ?_) (fun H1 => ?_)))))
  ·obtain ⟨y12, ey12, H1⟩ := bS H1
   refine kz (cw_block (csr (oM J (oW J (oM J (ow_cutY 6 24 y12 ?_ ?_))))))
   ·rcases Bool.eq_false_or_eq_true (decide (v10 < 0)) with hy12 | hy12
    ·have ey12 := cond_t ey12 hy12
     refine oO J hy12 J (oO J hy12 J (oO J hy12 J (oO J hy12 J (oO J hy12 J (oD (stp_pick_t J hy12 J) J ?_)))))
     obtain rfl := sI ey12
     exact ow_nil (jy 6 0)
    have ey12 := cond_f ey12 hy12
    refine oG J hy12 (mv J) J (oG J hy12 (fA 1 u26 J ts24 J J J) J (oG J hy12 (lB 0 ts24 J J J) J (oG J hy12 (stp_len u24 J) J (oG J hy12 (stp_geq J J) J (oD (stp_pick_f J hy12 J) J ?_)))))
    obtain rfl := sI ey12
    exact ow_nil (jy 6 0)
   obtain ⟨y13, ey13, H1⟩ := bS H1
   refine oM J (ow_cutY 7 32 y13 ?_ ?_)
   ·rcases Bool.eq_false_or_eq_true y12 with hy13 | hy13
    ·have ey13 := cond_t ey13 hy13
     refine oO J hy13 J (oO J hy13 J (oO J hy13 J (oO J hy13 J (oO J hy13 J (oO J hy13 J (oD (stp_pick_t J hy13 J) J ?_))))))
     obtain rfl := sI ey13
     exact ow_nil (jy 7 0)
    have ey13 := cond_f ey13 hy13
    refine oG J hy13 (mv J) J (oG J hy13 (stp_len u23 J) J (oG J hy13 (fA 1 u26 J ts24 J J J) J (oG J hy13 (lB 0 ts24 J J J) J (oG J hy13 (stp_len u24 J) J (oG J hy13 (stp_geq J J) J (oD (stp_pick_f J hy13 J) J ?_))))))
    obtain rfl := sI ey13
    exact ow_nil (jy 7 0)
   obtain ⟨y14, ey14, H1⟩ := bS H1
   refine oM J (ow_cutY 8 41 y14 ?_ ?_)
   ·rcases Bool.eq_false_or_eq_true y13 with hy14 | hy14
    ·have ey14 := cond_t ey14 hy14
     refine oO J hy14 J (oO J hy14 J (oO J hy14 J (oO J hy14 J (oO J hy14 J (oO J hy14 J (oO J hy14 J (oD (stp_pick_t J hy14 J) J ?_)))))))
     obtain rfl := sI ey14
     exact ow_nil (jy 8 0)
    have ey14 := cond_f ey14 hy14
    obtain ⟨x15, e15, ey14⟩ := bS ey14
    refine oG J hy14 (fA 1 u26 J ts24 J J J) J (oG J hy14 (lB 0 ts24 J J J) J (oG J hy14 (mv J) J (oG J hy14 (stp_indexAddr u24 ts57 (by decide) J J J (Rdb.ro hr0_1) e15) J (oG J hy14 (fA 0 u57 J ts4 J J J) J (oG J hy14 (stp_load1 ts4 J (Cells.el (Rdb.ro hr0_1) (by decide) e15 0 1 J)) J (oG J hy14 (stp_not J) J (oD (stp_pick_f J hy14 J) J ?_)))))))
    obtain rfl := sI ey14
    exact ow_nil (jy 8 0)
   refine ow_nil (kw_nx (cH J H1 (fun H1 => ?_) (fun H1 => ?_)))
   ·refine sr (oM J (oS J (sR J (kw_bl_ret (ar (kw_bl_ret (xr (kR ?_))))))))
    obtain rfl := sI H1
    obtain rfl := sI H0
    exact kr results76 (.cons (.tmp J) (rT J)) [1] (sl J o9 ⟨J, J⟩)
   refine ks (oM J (oM J (oE (stpU_lit (sz := 1) (l := [v10]) [I v10] sl23 2 (sP J sE) J J J J J J J J J) J ?_)))
   rintro _ _ ⟨p17, C18, rfl, rfl, o18⟩
   obtain ⟨x19, e19, H1⟩ := bS H1
   refine oE (stpU_append sl23 J (id := 1) J J J (by simp) J o9 (Rdb.own (id := 2) J o18) e19) J ?_
   rintro _ _ ⟨p20, c21, C22, rfl, rfl, o22⟩
   obtain ⟨x23, e23, H1⟩ := bS H1
   exact sn J (cR (oAL 1 u26 J ts24 J 0 J (oM J (oD (stp_indexAddr u24 ts57 (by decide) J J J (Rdb.ro hr0_1) e23) J (oA 4 u57 J ts3 J (oD (stp_load1 ts3 J (Cells.el (Rdb.ro hr0_1) (by decide) e23 4 1 J)) J (oS J (ow_nil (kw_bl_normal (ka ⟨_, _, p20, ((x19).length), c21, C22, H1, J, J, J, o22⟩))))))))))
  refine cw_exit (kw_nx_exit (ax (kw_bl ?_)))
  obtain rfl := sI H1
  exact kx ⟨_, _, p6, ((v5).length), c8, C9, J, J, J, J, o9⟩
 rintro _ _ ⟨v5, v10, p6, _, c8, C9, rfl, rfl, rfl, rfl, o9⟩
 refine kw_nx (sr (oM J (oS J (sn J (cw_ret ?_)))))
 obtain rfl := sI H0
 exact kr results76 (.cons (.tmp J) (rT J)) [1] (sl J o9 ⟨J, J⟩)

theorem c_s_l3Find (fl : Nat) (w : World) (a0 : T) (a1 : K) (hn0_0 : n0_0 = (a0.b).length) (hr0_0 : RO w [] (RdL p0_0 c0_0 a0.b)) (hn0_1 : n0_1 = (a0.f).length) (hr0_1 : RO w [] (RdL p0_1 c0_1 a0.f)) (r : Int × Int) (H0 : s_l3Find fl a0 a1 = some r) :
  Ct prog 46 [.agg #[.slice p0_0 n0_0 c0_0, .slice p0_1 n0_1 c0_1], .agg #[I a1.s, I a1.p]] w [] (fun rv h' => rv = .tuple #[I r.1, I r.2] ∧ h' = []) := by
 subst hn0_0 hn0_1
 unfold s_l3Find at H0
 refine ct_of_cw func46 J ntmps46 J (Sat.refl _ _) ?_
 refine sr (oE (stpU_box 0 J J) J ?_)
 rintro _ _ ⟨b1, rfl, rfl⟩
 refine oE (stpU_box 1 J J) J ?_
 rintro _ _ ⟨b2, rfl, rfl⟩
 obtain ⟨x3, e3, H0⟩ := bS H0
 obtain ⟨x4, e4, H0⟩ := bS H0
 refine oS J (sn J (cq (rdt g_mixed (rn 0 12) ⟨[[0],[1],[],[0]], [[],[],[],[],[],[],[2]], [6]⟩ (dB2 0 ts26 J (dB2 1 ts50 J (dA 0 J u26 J ts23 J (dL 0 ts23 J (dD J (stp_len u23 J) (dV J (fun hh => uC 2 cf77 (fun w hw => c_s_l2Hash fl w a1 ((a0.b).length : Int) x3 e3) (yB J J)) J (dE J (fun hh => uC 2 cf76 (fun w hw => c_s_l3Chain fl w a0 x3 J (rp hr0_0 hw) J (rp hr0_1 hw) x4 e4) (yB J J)) ?_))))))))))
 rintro _ _ ⟨_, ⟨p5, _, c7, C8, rfl, o8, rfl, rfl⟩, rfl⟩
 obtain ⟨o0_0, eo0_0, H0⟩ := bS H0
 refine dk J (dM J (dT J (dT J (dS J (dS J (dn (kw_nx (csr (sn J (lp (fun f a => s_l3Find_L0 fl a0 a1 x4 f a = some o0_0) (fun a => o0_0 = .out a) (fun R s h => ∃ v9, R v9 ∧ s = [(2, .pointer (some ⟨b1, 0, none⟩)), (3, .pointer (some ⟨b2, 0, none⟩)), (6, .slice p5 ((x4.1).length) c7), (8, I v9)] ∧ h = [(0, [(b1, .cells #[.slice p0_0 ((a0.b).length) c0_0, .slice p0_1 ((a0.f).length) c0_1] 26 (0, 0))]), (1, [(b2, .cells #[I a1.s, I a1.p] 50 (0, 0))]), (2, C8)]) ⟨_, eo0_0, J, J⟩ ?_ ?_))))))))))
 ·rintro fuel _ _ ⟨v9, H1, rfl, rfl⟩
  rcases fuel with _ | fuel
  ·rw [s_l3Find_L0.eq_1] at H1; cases H1
  rw [s_l3Find_L0.eq_2] at H1
  refine csr (oM J (oM J (oD (stp_len u23 J) J (oW J (nn (cH J H1 (fun H1 => ?_) (fun H1 => ?_)))))))
  ·obtain ⟨x11, e11, H1⟩ := bS H1
   obtain ⟨x12, e12, H1⟩ := bS H1
   refine kq (cw_block (cq (rdt g_mixed (rn 0 11) ⟨[[],[0],[],[],[2],[2],[],[],[],[1]], [], []⟩ (dA 1 J u26 J ts24 J (dL 0 ts24 J (dM J (dM J (dD J (stp_indexAddr u23 ts3 (by decide) J J J (Rdb.own (id := 2) J o8) e11) (dD J (stp_load1 ts3 J (Cells.el (Rdb.own (id := 2) J o8) (by decide) e11 0 1 J)) (dD J (stp_indexAddr u24 ts57 (by decide) J J J (Rdb.ro hr0_1) e12) (dA 1 J u57 J ts50 J ?_)))))))))))
   refine dD J (stp_loadN (us := [_, _]) ts50 J (Cells.el (Rdb.ro hr0_1) (by decide) e12 1 2 J)) (dB2 1 ts50 J (dD J (stp_eqlS te50 x12.k a1 J J) (dn (kw_nx (cH J H1 (fun H1 => ?_) (fun H1 => ?_))))))
   ·obtain ⟨x14, e14, H1⟩ := bS H1
    refine sr (oM J (oM J (oD (stp_indexAddr u23 ts3 (by decide) J J J (Rdb.own (id := 2) J o8) e11) J (oD (stp_load1 ts3 J (Cells.el (Rdb.own (id := 2) J o8) (by decide) e11 0 1 J)) J (oM J (oP e14 J (oS J (sr1 J (kw_bl_ret (kR (ar ?_)))))))))))
    refine kw_bl_ret (xr (kR ?_))
    obtain rfl := sI H1
    obtain rfl := sI H0
    exact kr results46 (.cons (.tmp J) (rT J)) [] ⟨J, J⟩
   obtain ⟨x15, e15, H1⟩ := bS H1
   exact cw_skip (kb (cR (oM J (oP e15 J (oS J (ow_nil (ka ⟨_, H1, J, J⟩)))))))
  refine cw_exit (kw_nx_exit (ax (kw_bl ?_)))
  obtain rfl := sI H1
  exact kx ⟨_, J, J, J⟩
 rintro _ _ ⟨v9, rfl, rfl, rfl⟩
 refine kw_nx (sr (oM J (oD (stp_len u23 J) J (oS J (sn J (cw_ret ?_))))))
 obtain rfl := sI H0
 exact kr results46 (.cons (.tmp J) (rT J)) [] ⟨J, J⟩

theorem c_s_l6Line (fl : Nat) (w : World) (a0 : Mc) (a1 : Ln) (hn0_0 : n0_0 = (a0.t.b).length) (hr0_0 : RO w [] (RdL p0_0 c0_0 a0.t.b)) (hn0_1 : n0_1 = (a0.t.f).length) (hr0_1 : RO w [] (RdL p0_1 c0_1 a0.t.f)) (hn0_2 : n0_2 = (a0.c.l).length) (hr0_2 : RO w [] (RdL p0_2 c0_2 a0.c.l)) (hn0_3 : n0_3 = (a0.g.o).length) (hr0_3 : RO w [] (RdL p0_3 c0_3 a0.g.o)) (r : Bool) (H0 : s_l6Line fl a0 a1 = some r) :
  Ct prog 99 [.agg #[.slice p0_0 n0_0 c0_0, .slice p0_1 n0_1 c0_1, .slice p0_2 n0_2 c0_2, I a0.c.h, I a0.g.c, I a0.g.n, I a0.g.r, .slice p0_3 n0_3 c0_3, I a0.s], .agg #[.bool a1.va, I a1.tg, I a1.pg, I a1.fr, I a1.ri, .bool a1.wi]] w [] (fun rv h' => rv = .bool r ∧ h' = []) := by
 subst hn0_0 hn0_1 hn0_2 hn0_3
 unfold s_l6Line at H0
 refine ct_of_cw func99 J ntmps99 J (Sat.refl _ _) ?_
 refine sr (oE (stpU_box 0 J J) J ?_)
 rintro _ _ ⟨b1, rfl, rfl⟩
 refine oE (stpU_box 1 J J) J ?_
 rintro _ _ ⟨b2, rfl, rfl⟩
 refine ss J (sq J (oAL 1 u104 J ts3 J 1 J (oQ J (oAL 2 u104 J ts3 J 1 J (oI J (oD (stp_neqB u4 J J) J ?_))))))
 refine nn (cH J H0 (fun H0 => ?_) (fun H0 => ?_))
 ·refine sr (sr1 J (kR ?_))
  obtain rfl := sI H0
  exact kr results99 (rT J) [] ⟨J, J⟩
 refine kq (sr (oAL 1 u104 J ts3 J 1 J (oU J (nn (cH J H0 (fun H0 => ?_) (fun H0 => ?_))))))
 ·obtain ⟨x5, e5, H0⟩ := bS H0
  refine sr (oA 4 u34 J ts32 J (oB4 0 ts32 J (oAL 1 u104 J ts3 J 1 J (oE (uC 2 cf135 (fun w hw => c_s_SpaceOf fl w a0.g a1.tg J (rp hr0_3 hw) x5 e5) (yB J J)) J ?_))))
  rintro _ _ ⟨_, ⟨rfl, rfl⟩, rfl⟩
  refine oMTT J J J (oS J (sq J (oM J (oK J (nn (cH J H0 (fun H0 => ?_) (fun H0 => ?_)))))))
  ·refine sr (sR J (kR ?_))
   obtain rfl := sI H0
   exact kr results99 (rT J) [] ⟨J, J⟩
  obtain ⟨x7, e7, H0⟩ := bS H0
  refine kz (cR (oM J (sn J (cq (rdt g_mixed (rn 0 12) ⟨[[],[0],[],[],[1]], [], []⟩ (dA 0 J u34 J ts26 J (dB2 0 ts26 J (dM J (dA 2 J u104 J ts3 J (dL 1 ts3 J (dV J (fun hh => uC 2 cf47 (fun w hw => c_s_KeyFor fl w x5.1 a1.pg x7 e7) (yB J J)) J ?_)))))))))))
  obtain ⟨x8, e8, H0⟩ := bS H0
  obtain ⟨y9, ey9, H0⟩ := bS H0
  refine dV J (fun hh => uC 2 cf46 (fun w hw => c_s_l3Find fl w a0.t x7 J (rp hr0_0 hw) J (rp hr0_1 hw) x8 e8) (yB J J)) J (dM J (dT J (dT J (dS J (dS J (dn (kw_nx (cq (rdt g_mixed (rn 0 31) ⟨[[],[],[],[],[],[1],[],[],[],[],[],[0],[],[],[],[],[],[1],[],[],[],[],[1],[],[],[],[1]], [], []⟩ (dM J (dI J (dM J (dcY 5 48 y9 ?_ ?_)))))))))))))
  ·rcases Bool.eq_false_or_eq_true (decide (0 ≤ x8.1)) with hy9 | hy9
   ·have ey9 := cond_t ey9 hy9
    refine dG J hy9 (mv J) (dG J hy9 (fA 3 u104 J ts3 J J J) (dG J hy9 (lB 1 ts3 J J J) (dG J hy9 (stp_eql J J) (dD J (stp_pick_t J hy9 J) ?_))))
    obtain rfl := sI ey9
    exact dy 5 0
   have ey9 := cond_f ey9 hy9
   refine dO J hy9 (dO J hy9 (dO J hy9 (dO J hy9 (dD J (stp_pick_f J hy9 J) ?_))))
   obtain rfl := sI ey9
   exact dy 5 0
  obtain ⟨y10, ey10, H0⟩ := bS H0
  refine dM J (dcY 11 60 y10 ?_ ?_)
  ·rcases Bool.eq_false_or_eq_true y9 with hy10 | hy10
   ·have ey10 := cond_t ey10 hy10
    obtain ⟨x11, e11, ey10⟩ := bS ey10
    refine dG J hy10 (fA 0 u34 J ts26 J J J) (dG J hy10 (fA 1 u26 J ts24 J J J) (dG J hy10 (lB 0 ts24 J J J) (dG J hy10 (mv J) (dG J hy10 (stp_indexAddr u24 ts57 (by decide) J J J (Rdb.ro hr0_1) e11) (dG J hy10 (fA 3 u57 J ts3 J J J) (dG J hy10 (stp_load1 ts3 J (Cells.el (Rdb.ro hr0_1) (by decide) e11 3 1 J)) (dG J hy10 (fA 4 u104 J ts3 J J J) (dG J hy10 (lB 1 ts3 J J J) (dG J hy10 (stp_eql J J) (dD J (stp_pick_t J hy10 J) ?_))))))))))
    obtain rfl := sI ey10
    exact dy 11 0
   have ey10 := cond_f ey10 hy10
   refine dO J hy10 (dO J hy10 (dO J hy10 (dO J hy10 (dO J hy10 (dO J hy10 (dO J hy10 (dO J hy10 (dO J hy10 (dO J hy10 (dD J (stp_pick_f J hy10 J) ?_))))))))))
   obtain rfl := sI ey10
   exact dy 11 0
  obtain ⟨y12, ey12, H0⟩ := bS H0
  refine dM J (dcY 9 70 y12 ?_ ?_)
  ·rcases Bool.eq_false_or_eq_true y10 with hy12 | hy12
   ·have ey12 := cond_t ey12 hy12
    obtain ⟨y13, ey13, ey12⟩ := bS ey12
    refine dG J hy12 (fA 5 u104 J ts4 J J J) (dG J hy12 (lB 1 ts4 J J J) (dG J hy12 (stp_not J) (dG J hy12 (mv J) (dcJ 4 69 y13 ?_ ?_))))
    ·rcases Bool.eq_false_or_eq_true (!a1.wi) with hy13 | hy13
     ·have ey13 := cond_t ey13 hy13
      refine dO J hy13 (dO J hy13 (dO J hy13 (dG J hy12 (stp_pick_t J hy13 J) ?_)))
      obtain rfl := sI ey13
      exact dy 4 0
     have ey13 := cond_f ey13 hy13
     refine dG J hy13 (fA 1 u104 J ts3 J J J) (dG J hy13 (lB 1 ts3 J J J) (dG J hy13 (stp_eql J J) (dG J hy12 (stp_pick_f J hy13 J) ?_)))
     obtain rfl := sI ey13
     exact dy 4 0
    refine dD J (stp_pick_t J hy12 J) ?_
    obtain rfl := sI ey12
    exact dy 6 0
   have ey12 := cond_f ey12 hy12
   refine dO J hy12 (dO J hy12 (dO J hy12 (dO J hy12 (dX J (dX J (dX J (dO J hy12 (dD J (stp_pick_f J hy12 J) ?_))))))))
   obtain rfl := sI ey12
   exact dy 9 0
  refine dS J (dn (kw_nx (cw_ret ?_)))
  obtain rfl := sI H0
  exact kr results99 (rT J) [] ⟨J, J⟩
 obtain ⟨x14, e14, H0⟩ := bS H0
 obtain ⟨x15, e15, H0⟩ := bS H0
 refine kq (rdt g_mixed (rn 0 12) ⟨[[],[0],[],[],[1]], [], []⟩ (dA 0 J u34 J ts26 J (dB2 0 ts26 J (dM J (dA 2 J u104 J ts3 J (dL 1 ts3 J (dV J (fun hh => uC 2 cf47 (fun w hw => c_s_KeyFor fl w 0 a1.pg x14 e14) (yB J J)) J (dV J (fun hh => uC 2 cf46 (fun w hw => c_s_l3Find fl w a0.t x14 J (rp hr0_0 hw) J (rp hr0_1 hw) x15 e15) (yB J J)) J (dM J (dT J (dT J ?_)))))))))))
 obtain ⟨y16, ey16, H0⟩ := bS H0
 refine dS J (dS J (dn (kw_nx (cq (rdt g_mixed (rn 0 31) ⟨[[],[],[],[],[],[1],[],[],[],[],[],[0],[],[],[],[],[],[1],[],[],[],[],[1],[],[],[],[1]], [], []⟩ (dM J (dI J (dM J (dcY 5 48 y16 ?_ ?_)))))))))
 ·rcases Bool.eq_false_or_eq_true (decide (0 ≤ x15.1)) with hy16 | hy16
  ·have ey16 := cond_t ey16 hy16
   refine dG J hy16 (mv J) (dG J hy16 (fA 3 u104 J ts3 J J J) (dG J hy16 (lB 1 ts3 J J J) (dG J hy16 (stp_eql J J) (dD J (stp_pick_t J hy16 J) ?_))))
   obtain rfl := sI ey16
   exact dy 5 0
  have ey16 := cond_f ey16 hy16
  refine dO J hy16 (dO J hy16 (dO J hy16 (dO J hy16 (dD J (stp_pick_f J hy16 J) ?_))))
  obtain rfl := sI ey16
  exact dy 5 0
 obtain ⟨y17, ey17, H0⟩ := bS H0
 refine dM J (dcY 11 60 y17 ?_ ?_)
 ·rcases Bool.eq_false_or_eq_true y16 with hy17 | hy17
  ·have ey17 := cond_t ey17 hy17
   obtain ⟨x18, e18, ey17⟩ := bS ey17
   refine dG J hy17 (fA 0 u34 J ts26 J J J) (dG J hy17 (fA 1 u26 J ts24 J J J) (dG J hy17 (lB 0 ts24 J J J) (dG J hy17 (mv J) (dG J hy17 (stp_indexAddr u24 ts57 (by decide) J J J (Rdb.ro hr0_1) e18) (dG J hy17 (fA 3 u57 J ts3 J J J) (dG J hy17 (stp_load1 ts3 J (Cells.el (Rdb.ro hr0_1) (by decide) e18 3 1 J)) (dG J hy17 (fA 4 u104 J ts3 J J J) (dG J hy17 (lB 1 ts3 J J J) (dG J hy17 (stp_eql J J) (dD J (stp_pick_t J hy17 J) ?_))))))))))
   obtain rfl := sI ey17
   exact dy 11 0
  have ey17 := cond_f ey17 hy17
  refine dO J hy17 (dO J hy17 (dO J hy17 (dO J hy17 (dO J hy17 (dO J hy17 (dO J hy17 (dO J hy17 (dO J hy17 (dO J hy17 (dD J (stp_pick_f J hy17 J) ?_))))))))))
  obtain rfl := sI ey17
  exact dy 11 0
 obtain ⟨y19, ey19, H0⟩ := bS H0
 refine dM J (dcY 9 70 y19 ?_ ?_)
 ·rcases Bool.eq_false_or_eq_true y17 with hy19 | hy19
  ·have ey19 := cond_t ey19 hy19
   obtain ⟨y20, ey20, ey19⟩ := bS ey19
   refine dG J hy19 (fA 5 u104 J ts4 J J J) (dG J hy19 (lB 1 ts4 J J J) (dG J hy19 (stp_not J) (dG J hy19 (mv J) (dcJ 4 69 y20 ?_ ?_))))
   ·rcases Bool.eq_false_or_eq_true (!a1.wi) with hy20 | hy20
    ·have ey20 := cond_t ey20 hy20
     refine dO J hy20 (dO J hy20 (dO J hy20 (dG J hy19 (stp_pick_t J hy20 J) ?_)))
     obtain rfl := sI ey20
     exact dy 4 0
    have ey20 := cond_f ey20 hy20
    refine dG J hy20 (fA 1 u104 J ts3 J J J) (dG J hy20 (lB 1 ts3 J J J) (dG J hy20 (stp_eql J J) (dG J hy19 (stp_pick_f J hy20 J) ?_)))
    obtain rfl := sI ey20
    exact dy 4 0
   refine dD J (stp_pick_t J hy19 J) ?_
   obtain rfl := sI ey19
   exact dy 6 0
  have ey19 := cond_f ey19 hy19
  refine dO J hy19 (dO J hy19 (dO J hy19 (dO J hy19 (dX J (dX J (dX J (dO J hy19 (dD J (stp_pick_f J hy19 J) ?_))))))))
  obtain rfl := sI ey19
  exact dy 9 0
 refine dS J (dn (kw_nx (cw_ret ?_)))
 obtain rfl := sI H0
 exact kr results99 (rT J) [] ⟨J, J⟩

theorem c_s_MachineValid (fl : Nat) (w : World) (a0 : Mc) (hn0_0 : n0_0 = (a0.t.b).length) (hr0_0 : RO w [] (RdL p0_0 c0_0 a0.t.b)) (hn0_1 : n0_1 = (a0.t.f).length) (hr0_1 : RO w [] (RdL p0_1 c0_1 a0.t.f)) (hn0_2 : n0_2 = (a0.c.l).length) (hr0_2 : RO w [] (RdL p0_2 c0_2 a0.c.l)) (hn0_3 : n0_3 = (a0.g.o).length) (hr0_3 : RO w [] (RdL p0_3 c0_3 a0.g.o)) (r : Bool) (H0 : s_MachineValid fl a0 = some r) :
  Ct prog 55 [.agg #[.slice p0_0 n0_0 c0_0, .slice p0_1 n0_1 c0_1, .slice p0_2 n0_2 c0_2, I a0.c.h, I a0.g.c, I a0.g.n, I a0.g.r, .slice p0_3 n0_3 c0_3, I a0.s]] w [] (fun rv h' => rv = .bool r ∧ h' = []) := by
 subst hn0_0 hn0_1 hn0_2 hn0_3
 unfold s_MachineValid at H0
 refine ct_of_cw func55 J ntmps55 J (Sat.refl _ _) ?_
 refine sr (oE (stpU_box 0 J J) J ?_)
 rintro _ _ ⟨b1, rfl, rfl⟩
 obtain ⟨x2, e2, H0⟩ := bS H0
 refine sq J (oA 0 u34 J ts26 J (oB2 0 ts26 J (oE (uC 1 cf95 (fun w hw => c_s_TableValid fl w a0.t J (rp hr0_0 hw) J (rp hr0_1 hw) x2 e2) (yA J)) J ?_)))
 rintro _ _ ⟨_, ⟨rfl, rfl⟩, rfl⟩
 obtain ⟨y3, ey3, H0⟩ := bS H0
 refine oK J (oM J (ow_cutY 5 15 y3 ?_ ?_))
 ·rcases Bool.eq_false_or_eq_true (!x2) with hy3 | hy3
  ·have ey3 := cond_t ey3 hy3
   refine oO J hy3 J (oO J hy3 J (oO J hy3 J (oO J hy3 J (oD (stp_pick_t J hy3 J) J ?_))))
   obtain rfl := sI ey3
   exact ow_nil (jy 5 0)
  have ey3 := cond_f ey3 hy3
  obtain ⟨x4, e4, ey3⟩ := bS ey3
  refine oG J hy3 (fA 2 u34 J ts29 J J J) J (oG J hy3 (stp_loadN (us := [_, _]) ts29 J (Cells.box (id := 0) J 2 J)) J (ow_eff (.some J hy3) (uC 1 cf96 (fun w hw => c_s_CacheValid fl w a0.c J (rp hr0_2 hw) x4 e4) (yA J)) J ?_))
  rintro _ _ ⟨_, ⟨rfl, rfl⟩, rfl⟩
  refine oG J hy3 (stp_not J) J (oD (stp_pick_f J hy3 J) J ?_)
  obtain rfl := sI ey3
  exact ow_nil (jy 5 0)
 obtain ⟨y5, ey5, H0⟩ := bS H0
 refine oM J (ow_cutY 5 21 y5 ?_ ?_)
 ·rcases Bool.eq_false_or_eq_true y3 with hy5 | hy5
  ·have ey5 := cond_t ey5 hy5
   refine oO J hy5 J (oO J hy5 J (oO J hy5 J (oO J hy5 J (oD (stp_pick_t J hy5 J) J ?_))))
   obtain rfl := sI ey5
   exact ow_nil (jy 5 0)
  have ey5 := cond_f ey5 hy5
  obtain ⟨x6, e6, ey5⟩ := bS ey5
  refine oG J hy5 (fA 4 u34 J ts32 J J J) J (oG J hy5 (stp_loadN (us := [_, _, _, _]) ts32 J (Cells.box (id := 0) J 4 J)) J (ow_eff (.some J hy5) (uC 1 cf97 (fun w hw => c_s_TagsValid fl w a0.g J (rp hr0_3 hw) x6 e6) (yA J)) J ?_))
  rintro _ _ ⟨_, ⟨rfl, rfl⟩, rfl⟩
  refine oG J hy5 (stp_not J) J (oD (stp_pick_f J hy5 J) J ?_)
  obtain rfl := sI ey5
  exact ow_nil (jy 5 0)
 obtain ⟨y7, ey7, H0⟩ := bS H0
 refine oM J (ow_cutY 7 29 y7 ?_ ?_)
 ·rcases Bool.eq_false_or_eq_true y5 with hy7 | hy7
  ·have ey7 := cond_t ey7 hy7
   refine oO J hy7 J (oO J hy7 J (oO J hy7 J (oO J hy7 J (oO J hy7 J (oO J hy7 J (oD (stp_pick_t J hy7 J) J ?_))))))
   obtain rfl := sI ey7
   exact ow_nil (jy 7 0)
  have ey7 := cond_f ey7 hy7
  obtain ⟨x8, e8, ey7⟩ := bS ey7
  refine oG J hy7 (fA 4 u34 J ts32 J J J) J (oG J hy7 (stp_loadN (us := [_, _, _, _]) ts32 J (Cells.box (id := 0) J 4 J)) J (oG J hy7 (fA 8 u34 J ts3 J J J) J (oG J hy7 (lB 0 ts3 J J J) J (ow_eff (.some J hy7) (uC 1 cf98 (fun w hw => c_s_l5Find fl w a0.g a0.s J (rp hr0_3 hw) x8 e8) (yB J J)) J ?_))))
  rintro _ _ ⟨_, ⟨rfl, rfl⟩, rfl⟩
  refine oG J hy7 (stp_lss J J) J (oD (stp_pick_f J hy7 J) J ?_)
  obtain rfl := sI ey7
  exact ow_nil (jy 7 0)
 refine ow_nil (kw_nx (cH J H0 (fun H0 => ?_) (fun H0 => ?_)))
 ·refine sr (sr1 J (kR ?_))
  obtain rfl := sI H0
  exact kr results55 (rT J) [] ⟨J, J⟩
 obtain ⟨o0_0, eo0_0, H0⟩ := bS H0
 refine kq (sr (sn J (lp (fun f a => s_MachineValid_L0 fl a0 f a = some o0_0) (fun a => o0_0 = .out a) (fun R s h => ∃ v10, R v10 ∧ s = [(1, .pointer (some ⟨b1, 0, none⟩)), (3, I v10)] ∧ h = [(0, [(b1, .cells #[.slice p0_0 ((a0.t.b).length) c0_0, .slice p0_1 ((a0.t.f).length) c0_1, .slice p0_2 ((a0.c.l).length) c0_2, I a0.c.h, I a0.g.c, I a0.g.n, I a0.g.r, .slice p0_3 ((a0.g.o).length) c0_3, I a0.s] 34 (0, 0))])]) ⟨_, eo0_0, J, J⟩ ?_ ?_)))
 ·rintro fuel _ _ ⟨v10, H1, rfl, rfl⟩
  rcases fuel with _ | fuel
  ·rw [s_MachineValid_L0.eq_1] at H1; cases H1
  rw [s_MachineValid_L0.eq_2] at H1
  refine csr (oM J (oA 0 u34 J ts26 J (oAL 1 u26 J ts24 J 0 J (oD (stp_len u24 J) J (oW J (nn (cH J H1 (fun H1 => ?_) (fun H1 => ?_))))))))
  ·obtain ⟨x12, e12, H1⟩ := bS H1
   refine kq (cw_block (sr (oA 0 u34 J ts26 J (oAL 1 u26 J ts24 J 0 J (oM J (oD (stp_indexAddr u24 ts57 (by decide) J J J (Rdb.ro hr0_1) e12) J (oD (stp_loadN (us := [_, _, _, _, _]) ts57 J (Cells.el (Rdb.ro hr0_1) (by decide) e12 0 5 J)) J (oE (stpU_alloc 1 tz57 J) J ?_))))))))
   rintro _ _ ⟨b13, rfl, rfl⟩
   obtain ⟨y14, ey14, H1⟩ := bS H1
   refine oC5 1 ts57 J J (ns (oAL 0 u57 J ts4 J 1 J (oM J (ow_cutY 5 51 y14 ?_ ?_))))
   ·rcases Bool.eq_false_or_eq_true x12.u with hy14 | hy14
    ·have ey14 := cond_t ey14 hy14
     refine oG J hy14 (fA 1 u57 J ts50 J J J) J (oG J hy14 (fA 1 u50 J ts3 J J J) J (oG J hy14 (lB 1 ts3 J J J) J (oG J hy14 (stp_geq J J) J (oD (stp_pick_t J hy14 J) J ?_))))
     obtain rfl := sI ey14
     exact ow_nil (jy 5 0)
    have ey14 := cond_f ey14 hy14
    refine oO J hy14 J (oO J hy14 J (oO J hy14 J (oO J hy14 J (oD (stp_pick_f J hy14 J) J ?_))))
    obtain rfl := sI ey14
    exact ow_nil (jy 5 0)
   obtain ⟨y15, ey15, H1⟩ := bS H1
   refine oM J (ow_cutY 5 57 y15 ?_ ?_)
   ·rcases Bool.eq_false_or_eq_true y14 with hy15 | hy15
    ·have ey15 := cond_t ey15 hy15
     refine oG J hy15 (fA 1 u57 J ts50 J J J) J (oG J hy15 (fA 0 u50 J ts3 J J J) J (oG J hy15 (lB 1 ts3 J J J) J (oG J hy15 (stp_neq J J) J (oD (stp_pick_t J hy15 J) J ?_))))
     obtain rfl := sI ey15
     exact ow_nil (jy 5 0)
    have ey15 := cond_f ey15 hy15
    refine oO J hy15 J (oO J hy15 J (oO J hy15 J (oO J hy15 J (oD (stp_pick_f J hy15 J) J ?_))))
    obtain rfl := sI ey15
    exact ow_nil (jy 5 0)
   refine ow_nil (kw_nx (cH J H1 (fun H1 => ?_) (fun H1 => ?_)))
   ·refine sr (sr1 J (kw_bl_ret (kR (ar (kw_bl_ret (xr (kR ?_)))))))
    obtain rfl := sI H1
    obtain rfl := sI H0
    exact kr results55 (rT J) [] ⟨J, J⟩
   obtain ⟨x17, e17, H1⟩ := bS H1
   exact cw_skip (kb (cR (oM J (oP e17 J (oS J (ow_nil (ka ⟨_, H1, J, J⟩)))))))
  refine cw_exit (kw_nx_exit (ax (kw_bl ?_)))
  obtain rfl := sI H1
  exact kx ⟨_, J, J, J⟩
 rintro _ _ ⟨v10, rfl, rfl, rfl⟩
 obtain ⟨o0_1, eo0_1, H0⟩ := bS H0
 refine kw_nx (csr (sn J (lp (fun f a => s_MachineValid_L1 fl a0 f a = some o0_1) (fun a => o0_1 = .out a) (fun R s h => ∃ v18, R v18 ∧ s = [(1, .pointer (some ⟨b1, 0, none⟩)), (5, I v18)] ∧ h = [(0, [(b1, .cells #[.slice p0_0 ((a0.t.b).length) c0_0, .slice p0_1 ((a0.t.f).length) c0_1, .slice p0_2 ((a0.c.l).length) c0_2, I a0.c.h, I a0.g.c, I a0.g.n, I a0.g.r, .slice p0_3 ((a0.g.o).length) c0_3, I a0.s] 34 (0, 0))])]) ⟨_, eo0_1, J, J⟩ ?_ ?_)))
 ·rintro fuel _ _ ⟨v18, H1, rfl, rfl⟩
  rcases fuel with _ | fuel
  ·rw [s_MachineValid_L1.eq_1] at H1; cases H1
  rw [s_MachineValid_L1.eq_2] at H1
  refine csr (oM J (oA 2 u34 J ts29 J (oAL 0 u29 J ts27 J 0 J (oD (stp_len u27 J) J (oW J (nn (cH J H1 (fun H1 => ?_) (fun H1 => ?_))))))))
  ·obtain ⟨x20, e20, H1⟩ := bS H1
   refine kq (cw_block (cq (rdt g_mixed (rn 0 18) ⟨[[],[],[0],[],[],[],[],[],[0],[],[],[0]], [], []⟩ (dA 2 J u34 J ts29 J (dA 0 J u29 J ts27 J (dL 0 ts27 J (dM J (dD J (stp_indexAddr u27 ts104 (by decide) J J J (Rdb.ro hr0_2) e20) (dA 0 J u104 J ts4 J (dD J (stp_load1 ts4 J (Cells.el (Rdb.ro hr0_2) (by decide) e20 0 1 J)) (dM J ?_)))))))))))
   obtain ⟨y21, ey21, H1⟩ := bS H1
   refine dcY 10 83 y21 ?_ ?_
   ·rcases Bool.eq_false_or_eq_true x20.va with hy21 | hy21
    ·have ey21 := cond_t ey21 hy21
     obtain ⟨x22, e22, ey21⟩ := bS ey21
     refine dG J hy21 (stp_loadN (us := [_, _, _, _, _, _, _, _, _]) ts34 J (Cells.box (id := 0) J 9 J)) (dG J hy21 (fA 2 u34 J ts29 J J J) (dG J hy21 (fA 0 u29 J ts27 J J J) (dG J hy21 (lB 0 ts27 J J J) (dG J hy21 (mv J) (dG J hy21 (stp_indexAddr u27 ts104 (by decide) J J J (Rdb.ro hr0_2) e20) (dG J hy21 (stp_loadN (us := [_, _, _, _, _, _]) ts104 J (Cells.el (Rdb.ro hr0_2) (by decide) e20 0 6 J)) (dVg J hy21 (fun hh => uC 2 cf99 (fun w hw => c_s_l6Line fl w a0 x20 J (rp hr0_0 hw) J (rp hr0_1 hw) J (rp hr0_2 hw) J (rp hr0_3 hw) x22 e22) (yB J J)) J (dG J hy21 (stp_not J) (dD J (stp_pick_t J hy21 J) ?_)))))))))
     obtain rfl := sI ey21
     exact dy 10 0
    have ey21 := cond_f ey21 hy21
    refine dO J hy21 (dO J hy21 (dO J hy21 (dO J hy21 (dO J hy21 (dO J hy21 (dO J hy21 (dO J hy21 (dO J hy21 (dD J (stp_pick_f J hy21 J) ?_)))))))))
    obtain rfl := sI ey21
    exact dy 10 0
   refine dn (kw_nx (cH J H1 (fun H1 => ?_) (fun H1 => ?_)))
   ·refine sr (sr1 J (kw_bl_ret (kR (ar (kw_bl_ret (xr (kR ?_)))))))
    obtain rfl := sI H1
    obtain rfl := sI H0
    exact kr results55 (rT J) [] ⟨J, J⟩
   obtain ⟨x24, e24, H1⟩ := bS H1
   exact cw_skip (kb (cR (oM J (oP e24 J (oS J (ow_nil (ka ⟨_, H1, J, J⟩)))))))
  refine cw_exit (kw_nx_exit (ax (kw_bl ?_)))
  obtain rfl := sI H1
  exact kx ⟨_, J, J, J⟩
 rintro _ _ ⟨v18, rfl, rfl, rfl⟩
 refine kw_nx (sr (sn J (cw_ret ?_)))
 obtain rfl := sI H0
 exact kr results55 (rT J) [] ⟨J, J⟩

theorem c_s_l3Copy (fl : Nat) (w : World) (a0 : T) (hn0_0 : n0_0 = (a0.b).length) (hr0_0 : RO w [] (RdL p0_0 c0_0 a0.b)) (hn0_1 : n0_1 = (a0.f).length) (hr0_1 : RO w [] (RdL p0_1 c0_1 a0.f)) (r : T) (H0 : s_l3Copy fl a0 = some r) :
  Ct prog 100 [.agg #[.slice p0_0 n0_0 c0_0, .slice p0_1 n0_1 c0_1]] w [] (fun rv h' => SL 3 r.b fun x0 y0 z0 C0 => SL 57 r.f fun x1 y1 z1 C1 => rv = .agg #[.slice x0 y0 z0, .slice x1 y1 z1] ∧ h' = [(0, C0), (1, C1)]) := by
 subst hn0_0 hn0_1
 unfold s_l3Copy at H0
 refine ct_of_cw func100 J ntmps100 J (Sat.refl _ _) ?_
 refine sr (oE (stpU_box 0 J J) J ?_)
 rintro _ _ ⟨b1, rfl, rfl⟩
 refine oE (stpU_alloc 1 tz26 J) J ?_
 rintro _ _ ⟨b2, rfl, rfl⟩
 refine nn (cq (rdt g_mixed [.n 1, .n 2, .n 5, .n 6, .d 0, .d 4, .o 0, .n 3, .o 4, .n 7, .n 8, .n 9] ⟨[[],[],[0],[2],[],[],[0],[3],[],[1]], [[2],[],[],[2],[3],[],[],[3],[],[1]], [0,3,4,7]⟩ (dA 0 J u26 J ts23 J (dL 0 ts23 J (dA 1 J u26 J ts24 J (dL 0 ts24 J (dq J (fun hh => stpU_lit0 sl23 2) (by rintro _ _ ⟨_, _, rfl, rfl, _⟩; rfl) (dq J (fun hh => stpU_lit0 sl24 3) (by rintro _ _ ⟨_, _, rfl, rfl, _⟩; rfl) (dp J ?_)))))))))
 rintro _ _ ⟨p3, C4, rfl, rfl, o4⟩
 obtain ⟨x7, e7, H0⟩ := bS H0
 refine dE J (fun hh => stpU_append sl23 J (id := 2) J (by simp) J J (hh _ _ J) o4 (Rdb.ro hr0_0) e7) ?_
 rintro _ _ ⟨p8, c9, C10, rfl, rfl, o10⟩
 refine dk J (dp J ?_)
 rintro _ _ ⟨p5, C6, rfl, rfl, o6⟩
 obtain ⟨x11, e11, H0⟩ := bS H0
 refine dE J (fun hh => stpU_append sl24 J (id := 3) J (by simp) J J (hh _ _ J) o6 (Rdb.ro hr0_1) e11) ?_
 rintro _ _ ⟨p12, c13, C14, rfl, rfl, o14⟩
 refine dk J (dD J (stp_build (cs := #[.slice p8 ((x7).length) c9, .slice p12 ((x11).length) c13]) (sP J (sP J sE)) bt26_14) (dC2 1 ts26 J J J (dn (kw_nx (cw_ret ?_)))))
 obtain rfl := sI H0
 exact kr results100 (rC2 1 ts26 J J) [2, 3] (sl J o10 (sl J o14 ⟨J, J⟩))

theorem c_s_l4Copy (fl : Nat) (w : World) (a0 : Ca) (hn0_0 : n0_0 = (a0.l).length) (hr0_0 : RO w [] (RdL p0_0 c0_0 a0.l)) (r : Ca) (H0 : s_l4Copy fl a0 = some r) :
  Ct prog 101 [.agg #[.slice p0_0 n0_0 c0_0, I a0.h]] w [] (fun rv h' => SL 104 r.l fun x0 y0 z0 C0 => rv = .agg #[.slice x0 y0 z0, I r.h] ∧ h' = [(0, C0)]) := by
 subst hn0_0
 unfold s_l4Copy at H0
 refine ct_of_cw func101 J ntmps101 J (Sat.refl _ _) ?_
 refine sr (oE (stpU_box 0 J J) J ?_)
 rintro _ _ ⟨b1, rfl, rfl⟩
 refine oE (stpU_alloc 1 tz29 J) J ?_
 rintro _ _ ⟨b2, rfl, rfl⟩
 refine nn (cq (rdt g_mixed [.n 1, .n 2, .n 4, .n 5, .n 0, .n 3, .n 6, .n 7] ⟨[[],[],[0],[2],[],[0],[],[1]], [[2],[],[],[2],[],[],[],[1]], [0,3]⟩ (dA 0 J u29 J ts27 J (dL 0 ts27 J (dA 1 J u29 J ts3 J (dL 0 ts3 J (dE J (fun hh => stpU_lit0 sl27 2) ?_)))))))
 rintro _ _ ⟨p3, C4, rfl, rfl, o4⟩
 obtain ⟨x5, e5, H0⟩ := bS H0
 refine dk J (dE J (fun hh => stpU_append sl27 J (id := 2) J (by simp) J J (hh _ _ J) o4 (Rdb.ro hr0_0) e5) ?_)
 rintro _ _ ⟨p6, c7, C8, rfl, rfl, o8⟩
 refine dk J (dD J (stp_build (cs := #[.slice p6 ((x5).length) c7, I a0.h]) (sP J (sP J sE)) bt29_15) (dC2 1 ts29 J J J (dn (kw_nx (cw_ret ?_)))))
 obtain rfl := sI H0
 exact kr results101 (rC2 1 ts29 J J) [2] (sl J o8 ⟨J, J⟩)

theorem c_s_l6Copy (fl : Nat) (w : World) (a0 : Mc) (hn0_0 : n0_0 = (a0.t.b).length) (hr0_0 : RO w [] (RdL p0_0 c0_0 a0.t.b)) (hn0_1 : n0_1 = (a0.t.f).length) (hr0_1 : RO w [] (RdL p0_1 c0_1 a0.t.f)) (hn0_2 : n0_2 = (a0.c.l).length) (hr0_2 : RO w [] (RdL p0_2 c0_2 a0.c.l)) (hn0_3 : n0_3 = (a0.g.o).length) (hr0_3 : RO w [] (RdL p0_3 c0_3 a0.g.o)) (r : Mc) (H0 : s_l6Copy fl a0 = some r) :
  Ct prog 56 [.agg #[.slice p0_0 n0_0 c0_0, .slice p0_1 n0_1 c0_1, .slice p0_2 n0_2 c0_2, I a0.c.h, I a0.g.c, I a0.g.n, I a0.g.r, .slice p0_3 n0_3 c0_3, I a0.s]] w [] (fun rv h' => SL 3 r.t.b fun x0 y0 z0 C0 => SL 57 r.t.f fun x1 y1 z1 C1 => SL 104 r.c.l fun x2 y2 z2 C2 => SL 70 r.g.o fun x3 y3 z3 C3 => rv = .agg #[.slice x0 y0 z0, .slice x1 y1 z1, .slice x2 y2 z2, I r.c.h, I r.g.c, I r.g.n, I r.g.r, .slice x3 y3 z3, I r.s] ∧ h' = [(0, C0), (1, C1), (2, C2), (3, C3)]) := by
 subst hn0_0 hn0_1 hn0_2 hn0_3
 unfold s_l6Copy at H0
 refine ct_of_cw func56 J ntmps56 J (Sat.refl _ _) ?_
 refine sr (oE (stpU_box 0 J J) J ?_)
 rintro _ _ ⟨b1, rfl, rfl⟩
 refine oE (stpU_alloc 1 tz34 J) J ?_
 rintro _ _ ⟨b2, rfl, rfl⟩
 obtain ⟨x3, e3, H0⟩ := bS H0
 refine nn (cq (rdt g_mixed [.n 0, .n 1, .n 3, .n 4, .n 6, .n 7, .n 9, .n 10, .n 2, .n 5, .n 8, .n 11, .n 12] ⟨[[],[0],[],[],[0],[],[],[0],[],[],[0],[],[1]], [[],[],[2,3],[],[],[4],[],[],[5],[],[],[],[1]], [2,5,8]⟩ (dA 0 J u34 J ts26 J (dB2 0 ts26 J (dA 2 J u34 J ts29 J (dB2 0 ts29 J (dA 4 J u34 J ts32 J (dB4 0 ts32 J (dA 8 J u34 J ts3 J (dL 0 ts3 J (dE J (fun hh => uC 2 cf100 (fun w hw => c_s_l3Copy fl w a0.t J (rp hr0_0 hw) J (rp hr0_1 hw) x3 e3) (yA J)) ?_)))))))))))
 rintro _ _ ⟨_, ⟨p4, _, c6, C7, rfl, o7, p8, _, c10, C11, rfl, o11, rfl, rfl⟩, rfl⟩
 obtain ⟨x12, e12, H0⟩ := bS H0
 refine dk J (dE J (fun hh => uC 4 cf101 (fun w hw => c_s_l4Copy fl w a0.c J (rp hr0_2 hw) x12 e12) (yA J)) ?_)
 rintro _ _ ⟨_, ⟨p13, _, c15, C16, rfl, o16, rfl, rfl⟩, rfl⟩
 obtain ⟨x17, e17, H0⟩ := bS H0
 refine dk J (dE J (fun hh => uC 5 cf102 (fun w hw => c_s_l5Copy fl w a0.g J (rp hr0_3 hw) x17 e17) (yA J)) ?_)
 rintro _ _ ⟨_, ⟨p18, _, c20, C21, rfl, o21, rfl, rfl⟩, rfl⟩
 refine dk J (dD J (stp_build (cs := #[.slice p4 ((x3.b).length) c6, .slice p8 ((x3.f).length) c10, .slice p13 ((x12.l).length) c15, I x12.h, I x17.c, I x17.n, I x17.r, .slice p18 ((x17.o).length) c20, I a0.s]) (sP J (sP J (sP J (sP J sE)))) bt34_16) (dC9 1 ts34 J J J (dn (kw_nx (cw_ret ?_)))))
 obtain rfl := sI H0
 exact kr results56 (rC9 1 ts34 J J) [2, 3, 4, 5] (sl J o7 (sl J o11 (sl J o16 (sl J o21 ⟨J, J⟩))))

theorem c_s_l6Fresh (fl : Nat) (w : World) (a0 : Ca) (hn0_0 : n0_0 = (a0.l).length) (hr0_0 : RO w [] (RdL p0_0 c0_0 a0.l)) (r : Ca) (H0 : s_l6Fresh fl a0 = some r) :
  Ct prog 152 [.agg #[.slice p0_0 n0_0 c0_0, I a0.h]] w [] (fun rv h' => SL 104 r.l fun x0 y0 z0 C0 => rv = .agg #[.slice x0 y0 z0, I r.h] ∧ h' = [(0, C0)]) := by
 subst hn0_0
 unfold s_l6Fresh at H0
 refine ct_of_cw func152 J ntmps152 J (Sat.refl _ _) ?_
 refine sr (oE (stpU_box 0 J J) J ?_)
 rintro _ _ ⟨b1, rfl, rfl⟩
 refine oE (stpU_alloc 1 tz29 J) J ?_
 rintro _ _ ⟨b2, rfl, rfl⟩
 obtain ⟨x3, e3, H0⟩ := bS H0
 refine ns (oB2 0 ts29 J (oE (uC 2 cf101 (fun w hw => c_s_l4Copy fl w a0 J (rp hr0_0 hw) x3 e3) (yA J)) J ?_))
 rintro _ _ ⟨_, ⟨p4, _, c6, C7, rfl, o7, rfl, rfl⟩, rfl⟩
 refine oE (stpU_alloc 3 tz29 J) J ?_
 rintro _ _ ⟨b8, rfl, rfl⟩
 obtain ⟨o0_0, eo0_0, H0⟩ := bS H0
 refine oC2 3 ts29 J J (nq (sn J (lp (fun f a b => s_l6Fresh_L0 fl x3 f a b = some o0_0) (fun a b => o0_0 = .out (a, b)) (fun R s h => ∃ v9 v11 C10, R v9 v11 ∧ s = [(2, .pointer (some ⟨b2, 0, none⟩)), (3, .pointer (some ⟨b8, 0, none⟩)), (4, I v11)] ∧ h = [(1, [(b2, .cells #[sN, I 0] 29 (0, 0))]), (2, C10), (3, [(b8, .cells #[.slice p4 ((x3.l).length) c6, I x3.h] 29 (0, 0))])] ∧ (x3.l).length = (v9).length ∧ OwnC 104 p4 c6 v9 C10) ⟨_, _, C7, eo0_0, J, J, J, o7⟩ ?_ ?_)))
 ·rintro fuel _ _ ⟨v9, v11, C10, H1, rfl, rfl, hl10, o10⟩
  rcases fuel with _ | fuel
  ·rw [s_l6Fresh_L0.eq_1] at H1; cases H1
  rw [s_l6Fresh_L0.eq_2] at H1
  refine csr (oM J (oAL 0 u29 J ts27 J 3 J (oD (stp_len u27 J) J (oW J (nn (cH J H1 (fun H1 => ?_) (fun H1 => ?_)))))))
  ·obtain ⟨x13, e13, H1⟩ := bS H1
   refine kq (cw_block (sr (oAL 0 u29 J ts27 J 3 J (oM J (oD (stp_indexAddr u27 ts104 (by decide) J (by simp [hl10]) J (Rdb.own (id := 2) J o10) e13) J (oA 1 u104 J ts3 J (oD (stp_load1 ts3 J (Cells.el (Rdb.own (id := 2) J o10) (by decide) e13 1 1 J)) J (oU J (nn (cH J H1 (fun H1 => ?_) (fun H1 => ?_)))))))))))
   ·refine cR (oAL 0 u29 J ts27 J 3 J (oM J (oD (stp_build (cs := #[.bool false, I 0, I 0, I 0, I 0, .bool false]) sE bt104_11) J (oD (stp_indexAddr u27 ts104 (by decide) J (by simp [hl10]) J (Rdb.own (id := 2) J o10) e13) J (oF (stpU_storeEl (id := 2) (i := 0) (⟨false, 0, 0, 0, 0, false⟩ : Ln) (by decide) ts104 J J J o10 e13 J J J J) ?_)))))
    rintro _ _ ⟨C15, rfl, o15⟩
    obtain ⟨x16, e16, H1⟩ := bS H1
    exact ow_nil (kb (cR (oM J (oP e16 J (oS J (ow_nil (ka ⟨_, _, C15, H1, J, J, (by simp [hl10]), o15⟩)))))))
   obtain ⟨x17, e17, H1⟩ := bS H1
   exact cw_skip (kb (cR (oM J (oP e17 J (oS J (ow_nil (ka ⟨_, _, C10, H1, J, J, (by simp [hl10]), o10⟩)))))))
  refine cw_exit (kw_nx_exit (ax (kw_bl ?_)))
  obtain rfl := sI H1
  exact kx ⟨_, _, C10, J, J, J, (by simp [hl10]), o10⟩
 rintro _ _ ⟨v9, v11, C10, rfl, rfl, rfl, hl10, o10⟩
 refine kw_nx (sr (oB2 3 ts29 J (oC2 1 ts29 J J (nn (cw_ret ?_)))))
 obtain rfl := sI H0
 exact kr results152 (rC2 1 ts29 J J) [2] (sl (by simp [hl10]) o10 ⟨J, J⟩)

theorem c_s_EnterSpace (fl : Nat) (w : World) (a0 : Mc) (a1 : Int) (hn0_0 : n0_0 = (a0.t.b).length) (hr0_0 : RO w [] (RdL p0_0 c0_0 a0.t.b)) (hn0_1 : n0_1 = (a0.t.f).length) (hr0_1 : RO w [] (RdL p0_1 c0_1 a0.t.f)) (hn0_2 : n0_2 = (a0.c.l).length) (hr0_2 : RO w [] (RdL p0_2 c0_2 a0.c.l)) (hn0_3 : n0_3 = (a0.g.o).length) (hr0_3 : RO w [] (RdL p0_3 c0_3 a0.g.o)) (r : Mc × Bool) (H0 : s_EnterSpace fl a0 a1 = some r) :
  Ct prog 148 [.agg #[.slice p0_0 n0_0 c0_0, .slice p0_1 n0_1 c0_1, .slice p0_2 n0_2 c0_2, I a0.c.h, I a0.g.c, I a0.g.n, I a0.g.r, .slice p0_3 n0_3 c0_3, I a0.s], I a1] w [] (fun rv h' => SL 3 r.1.t.b fun x0 y0 z0 C0 => SL 57 r.1.t.f fun x1 y1 z1 C1 => SL 104 r.1.c.l fun x2 y2 z2 C2 => SL 70 r.1.g.o fun x3 y3 z3 C3 => rv = .tuple #[.agg #[.slice x0 y0 z0, .slice x1 y1 z1, .slice x2 y2 z2, I r.1.c.h, I r.1.g.c, I r.1.g.n, I r.1.g.r, .slice x3 y3 z3, I r.1.s], .bool r.2] ∧ h' = [(0, C0), (1, C1), (2, C2), (3, C3)]) := by
 subst hn0_0 hn0_1 hn0_2 hn0_3
 unfold s_EnterSpace at H0
 refine ct_of_cw func148 J ntmps148 J (Sat.refl _ _) ?_
 refine sr (oE (stpU_box 0 J J) J ?_)
 rintro _ _ ⟨b1, rfl, rfl⟩
 refine oE (stpU_alloc 1 tz34 J) J ?_
 rintro _ _ ⟨b2, rfl, rfl⟩
 obtain ⟨x3, e3, H0⟩ := bS H0
 refine ss J (oA 4 u34 J ts32 J (oB4 0 ts32 J (oM J (oE (uC 2 cf147 (fun w hw => c_s_TakeTag fl w a0.g a1 J (rp hr0_3 hw) x3 e3) (yB J J)) J ?_))))
 rintro _ _ ⟨_, ⟨p4, _, c6, C7, rfl, o7, rfl, rfl⟩, rfl⟩
 refine oMTT J J J (oT J (oT J (oE (stpU_alloc 3 tz32 J) J ?_)))
 rintro _ _ ⟨b8, rfl, rfl⟩
 obtain ⟨x9, e9, H0⟩ := bS H0
 refine oC4 3 ts32 J J (oS J (oS J (sq J (oB9 0 ts34 J (oE (uC 4 cf55 (fun w hw => c_s_MachineValid fl w a0 J (rp hr0_0 hw) J (rp hr0_1 hw) J (rp hr0_2 hw) J (rp hr0_3 hw) x9 e9) (yA J)) J ?_)))))
 rintro _ _ ⟨_, ⟨rfl, rfl⟩, rfl⟩
 obtain ⟨y10, ey10, H0⟩ := bS H0
 refine oK J (oM J (ow_cutY 3 26 y10 ?_ ?_))
 ·rcases Bool.eq_false_or_eq_true (!x9) with hy10 | hy10
  ·have ey10 := cond_t ey10 hy10
   refine oO J hy10 J (oO J hy10 J (oD (stp_pick_t J hy10 J) J ?_))
   obtain rfl := sI ey10
   exact ow_nil (jy 3 0)
  have ey10 := cond_f ey10 hy10
  refine oG J hy10 (mv J) J (oG J hy10 (stp_not J) J (oD (stp_pick_f J hy10 J) J ?_))
  obtain rfl := sI ey10
  exact ow_nil (jy 3 0)
 refine ow_nil (kw_nx (cH J H0 (fun H0 => ?_) (fun H0 => ?_)))
 ·refine sr (oD (stp_build (cs := #[sN, sN, sN, I 0, I 0, I 0, I 0, sN, I 0]) sE bt34_6) J (oC9 1 ts34 J J (sR J (kA 4 (kA 5 (kA 6 (kA 7 ?_)))))))
  obtain rfl := sI H0
  exact kr results148 (.cons (.cellN (us := [_, _, _, _, _, _, _, _, _]) ts34 J (Cells.box (id := 1) J 9 J)) (rT J)) [4, 5, 6, 7] (sl J oN0 (sl J oN0 (sl J oN0 (sl J oN0 ⟨J, J⟩))))
 obtain ⟨x12, e12, H0⟩ := bS H0
 refine ks (oB9 0 ts34 J (oE (uC 8 cf56 (fun w hw => c_s_l6Copy fl w a0 J (rp hr0_0 hw) J (rp hr0_1 hw) J (rp hr0_2 hw) J (rp hr0_3 hw) x12 e12) (yA J)) J ?_))
 rintro _ _ ⟨_, ⟨p13, _, c15, C16, rfl, o16, p17, _, c19, C20, rfl, o20, p21, _, c23, C24, rfl, o24, p25, _, c27, C28, rfl, o28, rfl, rfl⟩, rfl⟩
 refine oE (stpU_alloc 12 tz34 J) J ?_
 rintro _ _ ⟨b29, rfl, rfl⟩
 refine oC9 12 ts34 J J (ns (oB4 3 ts32 J (oA 4 u34 J ts32 J (oC9 12 ts32 J J (ns (oM J (oA 8 u34 J ts3 J (oC9 12 ts3 J J (nn (cq (sr ?_)))))))))))
 refine oM J (nn (cH J H0 (fun H0 => ?_) (fun H0 => ?_)))
 ·obtain ⟨x31, e31, H0⟩ := bS H0
  refine cR (oA 2 u34 J ts29 J (oB2 0 ts29 J (oE (uC 13 cf152 (fun w hw => c_s_l6Fresh fl w a0.c J (rp hr0_2 hw) x31 e31) (yA J)) J ?_)))
  rintro _ _ ⟨_, ⟨p32, _, c34, C35, rfl, o35, rfl, rfl⟩, rfl⟩
  refine oA 2 u34 J ts29 J (oC9 12 ts29 J J (ns (oB9 12 ts34 J (oC9 1 ts34 J J (sn J (cw_ret ?_))))))
  obtain rfl := sI H0
  exact kr results148 (.cons (.cellN (us := [_, _, _, _, _, _, _, _, _]) ts34 J (Cells.box (id := 1) J 9 J)) (rT J)) [8, 9, 13, 2] (sl J o16 (sl J o20 (sl J o35 (sl J o7 ⟨J, J⟩))))
 refine ks (oB9 12 ts34 J (oC9 1 ts34 J J (sn J (cw_ret ?_))))
 obtain rfl := sI H0
 exact kr results148 (.cons (.cellN (us := [_, _, _, _, _, _, _, _, _]) ts34 J (Cells.box (id := 1) J 9 J)) (rT J)) [8, 9, 10, 2] (sl J o16 (sl J o20 (sl J o24 (sl J o7 ⟨J, J⟩))))

theorem c_s_l6Page (fl : Nat) (w : World) (m0 : Nat) (a0_0 : (List UInt8)) (a0_1 : Int) (hn0_0_0 : n0_0_0 = (a0_0).length) (hr0_0_0 : RO w (hkeys [(0, [(m0, .cells #[.slice p0_0_0 n0_0_0 c0_0_0, I a0_1] 95 (0, 0))])]) (RdL p0_0_0 c0_0_0 a0_0)) (hM : Sat w (hkeys [(0, [(m0, .cells #[.slice p0_0_0 n0_0_0 c0_0_0, I a0_1] 95 (0, 0))])]) w [(0, [(m0, .cells #[.slice p0_0_0 n0_0_0 c0_0_0, I a0_1] 95 (0, 0))])]) (r : Int × Int) (H0 : s_l6Page fl a0_0 a0_1 = some r) :
  Ct prog 149 [.pointer (some ⟨m0, 0, none⟩)] w [(0, [(m0, .cells #[.slice p0_0_0 n0_0_0 c0_0_0, I a0_1] 95 (0, 0))])] (fun rv h' => rv = I r.1 ∧ h' = [(0, [(m0, .cells #[.slice p0_0_0 n0_0_0 c0_0_0, I r.2] 95 (0, 0))])]) := by
 subst hn0_0_0
 unfold s_l6Page at H0
 refine ct_of_cw func149 J ntmps149 J hM ?_
 refine sr (ss J (oM J (oE (stpU_lit (sz := 1) (l := [1, 2, 3, 4, 200, 201, 5]) [I 1, I 2, I 3, I 4, I 200, I 201, I 5] sl23 1 (sP J (sP J (sP J (sP J (sP J (sP J (sP J sE))))))) J J J J J J J J J) J ?_)))
 rintro _ _ ⟨p1, C2, rfl, rfl, o2⟩
 obtain ⟨x3, e3, H0⟩ := bS H0
 refine oE (uM (rq 0 2) cf24 (fun w hw hb => c_s_l12Rd_num fl w m0 a0_0 a0_1 ([1, 2, 3, 4, 200, 201, 5]) J (RO.passM hr0_0_0 hw hb) (by simp) (OwnC.passM (id := 1) J o2 hw hb ⟨J, trivial⟩) (hw.pass (js := [0]) ⟨0, [], J, J, trivial⟩ (by decide)) x3 e3) (yB J J) ⟨J, (pI (fun _ _ h => h.2) J), trivial⟩) J ?_
 rintro _ _ ⟨_, ⟨rfl, rfl⟩, rfl⟩
 refine sn J (cw_ret ?_)
 obtain rfl := sI H0
 exact kr results149 (rT J) [0] ⟨J, J⟩

theorem c_s_KeyValid (fl : Nat) (w : World) (a0 : K) (r : Bool) (H0 : s_KeyValid fl a0 = some r) :
  Ct prog 140 [.agg #[I a0.s, I a0.p]] w [] (fun rv h' => rv = .bool r ∧ h' = []) := by
 unfold s_KeyValid at H0
 refine ct_of_cw func140 J ntmps140 J (Sat.refl _ _) ?_
 refine sr (oE (stpU_box 0 J J) J ?_)
 rintro _ _ ⟨b1, rfl, rfl⟩
 obtain ⟨x2, e2, H0⟩ := bS H0
 refine ss J (oAL 0 u50 J ts3 J 0 J (oE (uC 1 cf134 (fun w hw => c_s_l1Space fl w a0.s x2 e2) (yA J)) J ?_))
 rintro _ _ ⟨_, ⟨rfl, rfl⟩, rfl⟩
 obtain ⟨y3, ey3, H0⟩ := bS H0
 refine oM J (ow_cutY 4 10 y3 ?_ ?_)
 ·rcases Bool.eq_false_or_eq_true x2 with hy3 | hy3
  ·have ey3 := cond_t ey3 hy3
   obtain ⟨x4, e4, ey3⟩ := bS ey3
   refine oG J hy3 (fA 1 u50 J ts3 J J J) J (oG J hy3 (lB 0 ts3 J J J) J (ow_eff (.some J hy3) (uC 1 cf44 (fun w hw => c_s_l1Page fl w a0.p x4 e4) (yA J)) J ?_))
   rintro _ _ ⟨_, ⟨rfl, rfl⟩, rfl⟩
   refine oD (stp_pick_t J hy3 J) J ?_
   obtain rfl := sI ey3
   exact ow_nil (jy 4 0)
  have ey3 := cond_f ey3 hy3
  refine oO J hy3 J (oO J hy3 J (oO J hy3 J (oD (stp_pick_f J hy3 J) J ?_)))
  obtain rfl := sI ey3
  exact ow_nil (jy 4 0)
 refine sn J (cw_ret ?_)
 obtain rfl := sI H0
 exact kr results140 (rT J) [] ⟨J, J⟩

theorem c_s_l6Shared (fl : Nat) (w : World) (a0 : K) (r : Bool) (H0 : s_l6Shared fl a0 = some r) :
  Ct prog 119 [.agg #[I a0.s, I a0.p]] w [] (fun rv h' => rv = .bool r ∧ h' = []) := by
 unfold s_l6Shared at H0
 refine ct_of_cw func119 J ntmps119 J (Sat.refl _ _) ?_
 refine sr (oE (stpU_box 0 J J) J ?_)
 rintro _ _ ⟨b1, rfl, rfl⟩
 obtain ⟨x2, e2, H0⟩ := bS H0
 obtain ⟨y3, ey3, H0⟩ := bS H0
 refine sn J (cq (rdt g_mixed (rn 0 12) ⟨[[0],[],[],[],[0],[],[0],[],[0]], [], []⟩ (dB2 0 ts50 J (dV J (fun hh => uC 1 cf140 (fun w hw => c_s_KeyValid fl w a0 x2 e2) (yA J)) J (dM J (dcY 8 13 y3 ?_ ?_))))))
 ·rcases Bool.eq_false_or_eq_true x2 with hy3 | hy3
  ·have ey3 := cond_t ey3 hy3
   obtain ⟨x4, e4, ey3⟩ := bS ey3
   refine dG J hy3 (fA 0 u50 J ts3 J J J) (dG J hy3 (lB 0 ts3 J J J) (dG J hy3 (fA 1 u50 J ts3 J J J) (dG J hy3 (lB 0 ts3 J J J) (dVg J hy3 (fun hh => uC 1 cf47 (fun w hw => c_s_KeyFor fl w a0.s a0.p x4 e4) (yB J J)) J (dG J hy3 (stp_loadN (us := [_, _]) ts50 J (Cells.box (id := 0) J 2 J)) (dG J hy3 (stp_eqlS te50 x4 a0 J J) (dD J (stp_pick_t J hy3 J) ?_)))))))
   obtain rfl := sI ey3
   exact dy 8 0
  have ey3 := cond_f ey3 hy3
  refine dO J hy3 (dO J hy3 (dO J hy3 (dO J hy3 (dO J hy3 (dO J hy3 (dO J hy3 (dD J (stp_pick_f J hy3 J) ?_)))))))
  obtain rfl := sI ey3
  exact dy 8 0
 refine dS J (dn (kw_nx (cw_ret ?_)))
 obtain rfl := sI H0
 exact kr results119 (rT J) [] ⟨J, J⟩

theorem c_s_l3Map (fl : Nat) (w : World) (a0 : T) (a1 : K) (a2 : Int) (a3 : Int) (hn0_0 : n0_0 = (a0.b).length) (hr0_0 : RO w [] (RdL p0_0 c0_0 a0.b)) (hn0_1 : n0_1 = (a0.f).length) (hr0_1 : RO w [] (RdL p0_1 c0_1 a0.f)) (r : T) (H0 : s_l3Map fl a0 a1 a2 a3 = some r) :
  Ct prog 141 [.agg #[.slice p0_0 n0_0 c0_0, .slice p0_1 n0_1 c0_1], .agg #[I a1.s, I a1.p], I a2, I a3] w [] (fun rv h' => SL 3 r.b fun x0 y0 z0 C0 => SL 57 r.f fun x1 y1 z1 C1 => rv = .agg #[.slice x0 y0 z0, .slice x1 y1 z1] ∧ h' = [(0, C0), (1, C1)]) := by
 subst hn0_0 hn0_1
 unfold s_l3Map at H0
 refine ct_of_cw func141 J ntmps141 J (Sat.refl _ _) ?_
 refine sr (oE (stpU_box 0 J J) J ?_)
 rintro _ _ ⟨b1, rfl, rfl⟩
 refine oE (stpU_box 1 J J) J ?_
 rintro _ _ ⟨b2, rfl, rfl⟩
 refine oE (stpU_alloc 2 tz26 J) J ?_
 rintro _ _ ⟨b3, rfl, rfl⟩
 obtain ⟨x4, e4, H0⟩ := bS H0
 refine ns (oB2 0 ts26 J (oE (uC 3 cf100 (fun w hw => c_s_l3Copy fl w a0 J (rp hr0_0 hw) J (rp hr0_1 hw) x4 e4) (yA J)) J ?_))
 rintro _ _ ⟨_, ⟨p5, _, c7, C8, rfl, o8, p9, _, c11, C12, rfl, o12, rfl, rfl⟩, rfl⟩
 refine oE (stpU_alloc 5 tz26 J) J ?_
 rintro _ _ ⟨b13, rfl, rfl⟩
 obtain ⟨x14, e14, H0⟩ := bS H0
 refine oC2 5 ts26 J J (ns (oB2 1 ts50 J (oAL 0 u26 J ts23 J 0 J (oD (stp_len u23 J) J (oE (uC 6 cf77 (fun w hw => c_s_l2Hash fl w a1 ((a0.b).length : Int) x14 e14) (yB J J)) J ?_)))))
 rintro _ _ ⟨_, ⟨rfl, rfl⟩, rfl⟩
 obtain ⟨x15, e15, H0⟩ := bS H0
 refine sn J (cq (rdt g_mixed (rn 0 13) ⟨[[],[5],[],[1],[],[],[5],[],[3],[3],[],[4],[4]], [[],[],[],[],[],[],[],[],[],[],[],[],[4]], [12]⟩ (dA 1 J u26 J ts24 J (dL 5 ts24 J (dM J (dB2 1 ts50 J (dM J (dA 0 J u26 J ts23 J (dL 5 ts23 J (dM J (dD J (stp_indexAddr u23 ts3 (by decide) J J J (Rdb.own (id := 3) J o8) e15) (dD J (stp_load1 ts3 J (Cells.el (Rdb.own (id := 3) J o8) (by decide) e15 0 1 J)) ?_))))))))))))
 obtain ⟨x16, e16, H0⟩ := bS H0
 refine dD J (stp_build (cs := #[.bool true, I a1.s, I a1.p, I a3, I x15]) (sP J (sP J (sP J (sP J sE)))) bt57_17) (dD J (stp_indexAddr u24 ts57 (by decide) J J J (Rdb.own (id := 4) J o12) e16) (dF J (fun hh => stpU_storeEl (id := 4) (i := 0) (⟨true, a1, a3, x15⟩ : F) (by decide) ts57 J J (hh _ _ J) o12 e16 J J J J) ?_))
 rintro _ _ ⟨C17, rfl, o17⟩
 refine dk J (dn (kw_nx (sr (oAL 0 u26 J ts23 J 5 J (oM J (oM J (oD (stp_indexAddr u23 ts3 (by decide) J J J (Rdb.own (id := 3) J o8) e15) J (oF (stpU_storeEl (id := 3) (i := 0) a2 (by decide) ts3 J J J o8 e15 J J J J) ?_))))))))
 rintro _ _ ⟨C18, rfl, o18⟩
 refine ns (oB2 5 ts26 J (oC2 2 ts26 J J (nn (cw_ret ?_))))
 obtain rfl := sI H0
 exact kr results141 (rC2 2 ts26 J J) [3, 4] (sl (by simp) o18 (sl (by simp) o17 ⟨J, J⟩))

theorem c_s_MapPage (fl : Nat) (w : World) (a0 : T) (a1 : K) (a2 : Int) (a3 : Int) (hn0_0 : n0_0 = (a0.b).length) (hr0_0 : RO w [] (RdL p0_0 c0_0 a0.b)) (hn0_1 : n0_1 = (a0.f).length) (hr0_1 : RO w [] (RdL p0_1 c0_1 a0.f)) (r : T × Bool) (H0 : s_MapPage fl a0 a1 a2 a3 = some r) :
  Ct prog 120 [.agg #[.slice p0_0 n0_0 c0_0, .slice p0_1 n0_1 c0_1], .agg #[I a1.s, I a1.p], I a2, I a3] w [] (fun rv h' => SL 3 r.1.b fun x0 y0 z0 C0 => SL 57 r.1.f fun x1 y1 z1 C1 => rv = .tuple #[.agg #[.slice x0 y0 z0, .slice x1 y1 z1], .bool r.2] ∧ h' = [(0, C0), (1, C1)]) := by
 subst hn0_0 hn0_1
 unfold s_MapPage at H0
 refine ct_of_cw func120 J ntmps120 J (Sat.refl _ _) ?_
 refine sr (oE (stpU_box 0 J J) J ?_)
 rintro _ _ ⟨b1, rfl, rfl⟩
 refine oE (stpU_box 1 J J) J ?_
 rintro _ _ ⟨b2, rfl, rfl⟩
 refine oE (stpU_alloc 2 tz26 J) J ?_
 rintro _ _ ⟨b3, rfl, rfl⟩
 obtain ⟨x4, e4, H0⟩ := bS H0
 refine sq J (oB2 0 ts26 J (oE (uC 3 cf95 (fun w hw => c_s_TableValid fl w a0 J (rp hr0_0 hw) J (rp hr0_1 hw) x4 e4) (yA J)) J ?_))
 rintro _ _ ⟨_, ⟨rfl, rfl⟩, rfl⟩
 obtain ⟨y5, ey5, H0⟩ := bS H0
 refine oK J (oM J (ow_cutY 4 19 y5 ?_ ?_))
 ·rcases Bool.eq_false_or_eq_true (!x4) with hy5 | hy5
  ·have ey5 := cond_t ey5 hy5
   refine oO J hy5 J (oO J hy5 J (oO J hy5 J (oD (stp_pick_t J hy5 J) J ?_)))
   obtain rfl := sI ey5
   exact ow_nil (jy 4 0)
  have ey5 := cond_f ey5 hy5
  obtain ⟨x6, e6, ey5⟩ := bS ey5
  refine oG J hy5 (stp_loadN (us := [_, _]) ts50 J (Cells.box (id := 1) J 2 J)) J (ow_eff (.some J hy5) (uC 3 cf140 (fun w hw => c_s_KeyValid fl w a1 x6 e6) (yA J)) J ?_)
  rintro _ _ ⟨_, ⟨rfl, rfl⟩, rfl⟩
  refine oG J hy5 (stp_not J) J (oD (stp_pick_f J hy5 J) J ?_)
  obtain rfl := sI ey5
  exact ow_nil (jy 4 0)
 obtain ⟨y7, ey7, H0⟩ := bS H0
 refine oM J (ow_cutY 4 24 y7 ?_ ?_)
 ·rcases Bool.eq_false_or_eq_true y5 with hy7 | hy7
  ·have ey7 := cond_t ey7 hy7
   refine oO J hy7 J (oO J hy7 J (oO J hy7 J (oD (stp_pick_t J hy7 J) J ?_)))
   obtain rfl := sI ey7
   exact ow_nil (jy 4 0)
  have ey7 := cond_f ey7 hy7
  obtain ⟨x8, e8, ey7⟩ := bS ey7
  refine oG J hy7 (mv J) J (ow_eff (.some J hy7) (uC 3 cf45 (fun w hw => c_s_RightsValid fl w a3 x8 e8) (yA J)) J ?_)
  rintro _ _ ⟨_, ⟨rfl, rfl⟩, rfl⟩
  refine oG J hy7 (stp_not J) J (oD (stp_pick_f J hy7 J) J ?_)
  obtain rfl := sI ey7
  exact ow_nil (jy 4 0)
 obtain ⟨y9, ey9, H0⟩ := bS H0
 refine oM J (ow_cutY 3 28 y9 ?_ ?_)
 ·rcases Bool.eq_false_or_eq_true y7 with hy9 | hy9
  ·have ey9 := cond_t ey9 hy9
   refine oO J hy9 J (oO J hy9 J (oD (stp_pick_t J hy9 J) J ?_))
   obtain rfl := sI ey9
   exact ow_nil (jy 3 0)
  have ey9 := cond_f ey9 hy9
  refine oG J hy9 (mv J) J (oG J hy9 (stp_lss J J) J (oD (stp_pick_f J hy9 J) J ?_))
  obtain rfl := sI ey9
  exact ow_nil (jy 3 0)
 obtain ⟨y10, ey10, H0⟩ := bS H0
 refine oM J (ow_cutY 6 35 y10 ?_ ?_)
 ·rcases Bool.eq_false_or_eq_true y9 with hy10 | hy10
  ·have ey10 := cond_t ey10 hy10
   refine oO J hy10 J (oO J hy10 J (oO J hy10 J (oO J hy10 J (oO J hy10 J (oD (stp_pick_t J hy10 J) J ?_)))))
   obtain rfl := sI ey10
   exact ow_nil (jy 6 0)
  have ey10 := cond_f ey10 hy10
  refine oG J hy10 (mv J) J (oG J hy10 (fA 1 u26 J ts24 J J J) J (oG J hy10 (lB 0 ts24 J J J) J (oG J hy10 (stp_len u24 J) J (oG J hy10 (stp_geq J J) J (oD (stp_pick_f J hy10 J) J ?_)))))
  obtain rfl := sI ey10
  exact ow_nil (jy 6 0)
 obtain ⟨y11, ey11, H0⟩ := bS H0
 refine oM J (ow_cutY 7 43 y11 ?_ ?_)
 ·rcases Bool.eq_false_or_eq_true y10 with hy11 | hy11
  ·have ey11 := cond_t ey11 hy11
   refine oO J hy11 J (oO J hy11 J (oO J hy11 J (oO J hy11 J (oO J hy11 J (oO J hy11 J (oD (stp_pick_t J hy11 J) J ?_))))))
   obtain rfl := sI ey11
   exact ow_nil (jy 7 0)
  have ey11 := cond_f ey11 hy11
  obtain ⟨x12, e12, ey11⟩ := bS ey11
  refine oG J hy11 (fA 1 u26 J ts24 J J J) J (oG J hy11 (lB 0 ts24 J J J) J (oG J hy11 (mv J) J (oG J hy11 (stp_indexAddr u24 ts57 (by decide) J J J (Rdb.ro hr0_1) e12) J (oG J hy11 (fA 0 u57 J ts4 J J J) J (oG J hy11 (stp_load1 ts4 J (Cells.el (Rdb.ro hr0_1) (by decide) e12 0 1 J)) J (oD (stp_pick_f J hy11 J) J ?_))))))
  obtain rfl := sI ey11
  exact ow_nil (jy 7 0)
 refine ow_nil (kw_nx (cH J H0 (fun H0 => ?_) (fun H0 => ?_)))
 ·refine sr (oD (stp_build (cs := #[sN, sN]) sE bt26_0) J (oC2 2 ts26 J J (sR J (kA 3 (kA 4 ?_)))))
  obtain rfl := sI H0
  exact kr results120 (.cons (.cellN (us := [_, _]) ts26 J (Cells.box (id := 2) J 2 J)) (rT J)) [3, 4] (sl J oN0 (sl J oN0 ⟨J, J⟩))
 obtain ⟨x14, e14, H0⟩ := bS H0
 refine ks (oB2 0 ts26 J (oB2 1 ts50 J (oE (uC 5 cf46 (fun w hw => c_s_l3Find fl w a0 a1 J (rp hr0_0 hw) J (rp hr0_1 hw) x14 e14) (yB J J)) J ?_)))
 rintro _ _ ⟨_, ⟨rfl, rfl⟩, rfl⟩
 refine oMTT J J J (oS J (sq J (oM J (oI J (nn (cH J H0 (fun H0 => ?_) (fun H0 => ?_)))))))
 ·refine sr (oD (stp_build (cs := #[sN, sN]) sE bt26_0) J (oC2 2 ts26 J J (sR J (kA 5 (kA 6 ?_)))))
  obtain rfl := sI H0
  exact kr results120 (.cons (.cellN (us := [_, _]) ts26 J (Cells.box (id := 2) J 2 J)) (rT J)) [5, 6] (sl J oN0 (sl J oN0 ⟨J, J⟩))
 obtain ⟨x16, e16, H0⟩ := bS H0
 refine ks (oB2 0 ts26 J (oB2 1 ts50 J (oM J (oM J (oE (uC 7 cf141 (fun w hw => c_s_l3Map fl w a0 a1 a2 a3 J (rp hr0_0 hw) J (rp hr0_1 hw) x16 e16) (yD J J J J)) J ?_)))))
 rintro _ _ ⟨_, ⟨p17, _, c19, C20, rfl, o20, p21, _, c23, C24, rfl, o24, rfl, rfl⟩, rfl⟩
 refine oC2 2 ts26 J J (sn J (cw_ret ?_))
 obtain rfl := sI H0
 exact kr results120 (.cons (.cellN (us := [_, _]) ts26 J (Cells.box (id := 2) J 2 J)) (rT J)) [7, 8] (sl J o20 (sl J o24 ⟨J, J⟩))

theorem c_s_PutPage (fl : Nat) (w : World) (a0 : Mc) (a1 : K) (a2 : Int) (a3 : Int) (hn0_0 : n0_0 = (a0.t.b).length) (hr0_0 : RO w [] (RdL p0_0 c0_0 a0.t.b)) (hn0_1 : n0_1 = (a0.t.f).length) (hr0_1 : RO w [] (RdL p0_1 c0_1 a0.t.f)) (hn0_2 : n0_2 = (a0.c.l).length) (hr0_2 : RO w [] (RdL p0_2 c0_2 a0.c.l)) (hn0_3 : n0_3 = (a0.g.o).length) (hr0_3 : RO w [] (RdL p0_3 c0_3 a0.g.o)) (r : Mc × Bool) (H0 : s_PutPage fl a0 a1 a2 a3 = some r) :
  Ct prog 81 [.agg #[.slice p0_0 n0_0 c0_0, .slice p0_1 n0_1 c0_1, .slice p0_2 n0_2 c0_2, I a0.c.h, I a0.g.c, I a0.g.n, I a0.g.r, .slice p0_3 n0_3 c0_3, I a0.s], .agg #[I a1.s, I a1.p], I a2, I a3] w [] (fun rv h' => SL 3 r.1.t.b fun x0 y0 z0 C0 => SL 57 r.1.t.f fun x1 y1 z1 C1 => SL 104 r.1.c.l fun x2 y2 z2 C2 => SL 70 r.1.g.o fun x3 y3 z3 C3 => rv = .tuple #[.agg #[.slice x0 y0 z0, .slice x1 y1 z1, .slice x2 y2 z2, I r.1.c.h, I r.1.g.c, I r.1.g.n, I r.1.g.r, .slice x3 y3 z3, I r.1.s], .bool r.2] ∧ h' = [(0, C0), (1, C1), (2, C2), (3, C3)]) := by
 subst hn0_0 hn0_1 hn0_2 hn0_3
 unfold s_PutPage at H0
 refine ct_of_cw func81 J ntmps81 J (Sat.refl _ _) ?_
 refine sr (oE (stpU_box 0 J J) J ?_)
 rintro _ _ ⟨b1, rfl, rfl⟩
 refine oE (stpU_box 1 J J) J ?_
 rintro _ _ ⟨b2, rfl, rfl⟩
 refine oE (stpU_alloc 2 tz34 J) J ?_
 rintro _ _ ⟨b3, rfl, rfl⟩
 obtain ⟨x4, e4, H0⟩ := bS H0
 refine sq J (oB9 0 ts34 J (oE (uC 3 cf55 (fun w hw => c_s_MachineValid fl w a0 J (rp hr0_0 hw) J (rp hr0_1 hw) J (rp hr0_2 hw) J (rp hr0_3 hw) x4 e4) (yA J)) J ?_))
 rintro _ _ ⟨_, ⟨rfl, rfl⟩, rfl⟩
 obtain ⟨y5, ey5, H0⟩ := bS H0
 refine oK J (oM J (ow_cutY 4 20 y5 ?_ ?_))
 ·rcases Bool.eq_false_or_eq_true (!x4) with hy5 | hy5
  ·have ey5 := cond_t ey5 hy5
   refine oO J hy5 J (oO J hy5 J (oO J hy5 J (oD (stp_pick_t J hy5 J) J ?_)))
   obtain rfl := sI ey5
   exact ow_nil (jy 4 0)
  have ey5 := cond_f ey5 hy5
  obtain ⟨x6, e6, ey5⟩ := bS ey5
  refine oG J hy5 (stp_loadN (us := [_, _]) ts50 J (Cells.box (id := 1) J 2 J)) J (ow_eff (.some J hy5) (uC 3 cf119 (fun w hw => c_s_l6Shared fl w a1 x6 e6) (yA J)) J ?_)
  rintro _ _ ⟨_, ⟨rfl, rfl⟩, rfl⟩
  refine oG J hy5 (stp_not J) J (oD (stp_pick_f J hy5 J) J ?_)
  obtain rfl := sI ey5
  exact ow_nil (jy 4 0)
 refine ow_nil (kw_nx (cH J H0 (fun H0 => ?_) (fun H0 => ?_)))
 ·refine sr (oD (stp_build (cs := #[sN, sN, sN, I 0, I 0, I 0, I 0, sN, I 0]) sE bt34_6) J (oC9 2 ts34 J J (sR J (kA 3 (kA 4 (kA 5 (kA 6 ?_)))))))
  obtain rfl := sI H0
  exact kr results81 (.cons (.cellN (us := [_, _, _, _, _, _, _, _, _]) ts34 J (Cells.box (id := 2) J 9 J)) (rT J)) [3, 4, 5, 6] (sl J oN0 (sl J oN0 (sl J oN0 (sl J oN0 ⟨J, J⟩))))
 obtain ⟨x8, e8, H0⟩ := bS H0
 refine ks (oA 0 u34 J ts26 J (oB2 0 ts26 J (oB2 1 ts50 J (oM J (oM J (oE (uC 7 cf120 (fun w hw => c_s_MapPage fl w a0.t a1 a2 a3 J (rp hr0_0 hw) J (rp hr0_1 hw) x8 e8) (yD J J J J)) J ?_))))))
 rintro _ _ ⟨_, ⟨p9, _, c11, C12, rfl, o12, p13, _, c15, C16, rfl, o16, rfl, rfl⟩, rfl⟩
 refine oMTT J J J (oE (stpU_alloc 9 tz26 J) J ?_)
 rintro _ _ ⟨b17, rfl, rfl⟩
 refine oC2 9 ts26 J J (sq J (oM J (oK J (nn (cH J H0 (fun H0 => ?_) (fun H0 => ?_))))))
 ·refine sr (oD (stp_build (cs := #[sN, sN, sN, I 0, I 0, I 0, I 0, sN, I 0]) sE bt34_6) J (oC9 2 ts34 J J (sR J (kA 10 (kA 11 (kA 12 (kA 13 ?_)))))))
  obtain rfl := sI H0
  exact kr results81 (.cons (.cellN (us := [_, _, _, _, _, _, _, _, _]) ts34 J (Cells.box (id := 2) J 9 J)) (rT J)) [10, 11, 12, 13] (sl J oN0 (sl J oN0 (sl J oN0 (sl J oN0 ⟨J, J⟩))))
 obtain ⟨x19, e19, H0⟩ := bS H0
 refine ks (oB9 0 ts34 J (oE (uC 14 cf56 (fun w hw => c_s_l6Copy fl w a0 J (rp hr0_0 hw) J (rp hr0_1 hw) J (rp hr0_2 hw) J (rp hr0_3 hw) x19 e19) (yA J)) J ?_))
 rintro _ _ ⟨_, ⟨p20, _, c22, C23, rfl, o23, p24, _, c26, C27, rfl, o27, p28, _, c30, C31, rfl, o31, p32, _, c34, C35, rfl, o35, rfl, rfl⟩, rfl⟩
 refine oE (stpU_alloc 18 tz34 J) J ?_
 rintro _ _ ⟨b36, rfl, rfl⟩
 refine oC9 18 ts34 J J (ns (oB2 9 ts26 J (oA 0 u34 J ts26 J (oC9 18 ts26 J J (ns (oB9 18 ts34 J (oC9 2 ts34 J J (sn J (cw_ret ?_)))))))))
 obtain rfl := sI H0
 exact kr results81 (.cons (.cellN (us := [_, _, _, _, _, _, _, _, _]) ts34 J (Cells.box (id := 2) J 9 J)) (rT J)) [7, 8, 16, 17] (sl J o12 (sl J o16 (sl J o31 (sl J o35 ⟨J, J⟩))))

theorem c_s_l6Tag (fl : Nat) (w : World) (a0 : Mc) (a1 : Int) (a2 : Int) (hn0_0 : n0_0 = (a0.t.b).length) (hr0_0 : RO w [] (RdL p0_0 c0_0 a0.t.b)) (hn0_1 : n0_1 = (a0.t.f).length) (hr0_1 : RO w [] (RdL p0_1 c0_1 a0.t.f)) (hn0_2 : n0_2 = (a0.c.l).length) (hr0_2 : RO w [] (RdL p0_2 c0_2 a0.c.l)) (hn0_3 : n0_3 = (a0.g.o).length) (hr0_3 : RO w [] (RdL p0_3 c0_3 a0.g.o)) (r : Int × Bool) (H0 : s_l6Tag fl a0 a1 a2 = some r) :
  Ct prog 82 [.agg #[.slice p0_0 n0_0 c0_0, .slice p0_1 n0_1 c0_1, .slice p0_2 n0_2 c0_2, I a0.c.h, I a0.g.c, I a0.g.n, I a0.g.r, .slice p0_3 n0_3 c0_3, I a0.s], I a1, I a2] w [] (fun rv h' => rv = .tuple #[I r.1, .bool r.2] ∧ h' = []) := by
 subst hn0_0 hn0_1 hn0_2 hn0_3
 unfold s_l6Tag at H0
 refine ct_of_cw func82 J ntmps82 J (Sat.refl _ _) ?_
 refine sr (oE (stpU_box 0 J J) J ?_)
 rintro _ _ ⟨b1, rfl, rfl⟩
 refine oS J (sq J (oM J (oI J (nn (cH J H0 (fun H0 => ?_) (fun H0 => ?_))))))
 ·refine sr (oS J (sr1 J (kR ?_)))
  obtain rfl := sI H0
  exact kr results82 (.cons (.tmp J) (rT J)) [] ⟨J, J⟩
 obtain ⟨x3, e3, H0⟩ := bS H0
 refine ks (oA 4 u34 J ts32 J (oB4 0 ts32 J (oM J (oE (uC 1 cf98 (fun w hw => c_s_l5Find fl w a0.g a1 J (rp hr0_3 hw) x3 e3) (yB J J)) J ?_))))
 rintro _ _ ⟨_, ⟨rfl, rfl⟩, rfl⟩
 refine sq J (oM J (oW J (nn (cH J H0 (fun H0 => ?_) (fun H0 => ?_)))))
 ·refine sr (oS J (sr1 J (kR ?_)))
  obtain rfl := sI H0
  exact kr results82 (.cons (.tmp J) (rT J)) [] ⟨J, J⟩
 obtain ⟨x5, e5, H0⟩ := bS H0
 refine ks (oA 4 u34 J ts32 J (oAL 3 u32 J ts30 J 0 J (oM J (oD (stp_indexAddr u30 ts70 (by decide) J J J (Rdb.ro hr0_3) e5) J (oA 1 u70 J ts3 J (oD (stp_load1 ts3 J (Cells.el (Rdb.ro hr0_3) (by decide) e5 1 1 J)) J (oS J (sn J (cw_ret ?_)))))))))
 obtain rfl := sI H0
 exact kr results82 (.cons (.tmp J) (rT J)) [] ⟨J, J⟩

theorem c_s_l4Fits (fl : Nat) (w : World) (a0 : Ln) (a1 : Int) (a2 : Int) (r : Bool) (H0 : s_l4Fits fl a0 a1 a2 = some r) :
  Ct prog 121 [.agg #[.bool a0.va, I a0.tg, I a0.pg, I a0.fr, I a0.ri, .bool a0.wi], I a1, I a2] w [] (fun rv h' => rv = .bool r ∧ h' = []) := by
 unfold s_l4Fits at H0
 refine ct_of_cw func121 J ntmps121 J (Sat.refl _ _) ?_
 refine sr (oE (stpU_box 0 J J) J ?_)
 rintro _ _ ⟨b1, rfl, rfl⟩
 obtain ⟨y2, ey2, H0⟩ := bS H0
 refine ss J (oAL 0 u104 J ts4 J 0 J (oM J (ow_cutY 5 14 y2 ?_ ?_)))
 ·rcases Bool.eq_false_or_eq_true a0.va with hy2 | hy2
  ·have ey2 := cond_t ey2 hy2
   refine oG J hy2 (fA 2 u104 J ts3 J J J) J (oG J hy2 (lB 0 ts3 J J J) J (oG J hy2 (mv J) J (oG J hy2 (stp_eql J J) J (oD (stp_pick_t J hy2 J) J ?_))))
   obtain rfl := sI ey2
   exact ow_nil (jy 5 0)
  have ey2 := cond_f ey2 hy2
  refine oO J hy2 J (oO J hy2 J (oO J hy2 J (oO J hy2 J (oD (stp_pick_f J hy2 J) J ?_))))
  obtain rfl := sI ey2
  exact ow_nil (jy 5 0)
 obtain ⟨y3, ey3, H0⟩ := bS H0
 refine oM J (ow_cutY 10 25 y3 ?_ ?_)
 ·rcases Bool.eq_false_or_eq_true y2 with hy3 | hy3
  ·have ey3 := cond_t ey3 hy3
   obtain ⟨y4, ey4, ey3⟩ := bS ey3
   refine oG J hy3 (fA 1 u104 J ts3 J J J) J (oG J hy3 (lB 0 ts3 J J J) J (oG J hy3 (mv J) J (oG J hy3 (stp_eql J J) J (oG J hy3 (mv J) J (ow_cutY 4 24 y4 ?_ ?_)))))
   ·rcases Bool.eq_false_or_eq_true (a0.tg == a1) with hy4 | hy4
    ·have ey4 := cond_t ey4 hy4
     refine oO J hy4 J (oO J hy4 J (oO J hy4 J (oG J hy3 (stp_pick_t J hy4 J) J ?_)))
     obtain rfl := sI ey4
     exact ow_nil (jy 4 0)
    have ey4 := cond_f ey4 hy4
    refine oG J hy4 (fA 1 u104 J ts3 J J J) J (oG J hy4 (lB 0 ts3 J J J) J (oG J hy4 (stp_eql J J) J (oG J hy3 (stp_pick_f J hy4 J) J ?_)))
    obtain rfl := sI ey4
    exact ow_nil (jy 4 0)
   refine oD (stp_pick_t J hy3 J) J ?_
   obtain rfl := sI ey3
   exact ow_nil (jy 7 0)
  have ey3 := cond_f ey3 hy3
  refine oO J hy3 J (oO J hy3 J (oO J hy3 J (oO J hy3 J (oO J hy3 J (oX J J J (oX J J J (oX J J J (oO J hy3 J (oD (stp_pick_f J hy3 J) J ?_)))))))))
  obtain rfl := sI ey3
  exact ow_nil (jy 10 0)
 refine sn J (cw_ret ?_)
 obtain rfl := sI H0
 exact kr results121 (rT J) [] ⟨J, J⟩

theorem c_s_l4Find (fl : Nat) (w : World) (a0 : Ca) (a1 : Int) (a2 : Int) (hn0_0 : n0_0 = (a0.l).length) (hr0_0 : RO w [] (RdL p0_0 c0_0 a0.l)) (r : Int) (H0 : s_l4Find fl a0 a1 a2 = some r) :
  Ct prog 83 [.agg #[.slice p0_0 n0_0 c0_0, I a0.h], I a1, I a2] w [] (fun rv h' => rv = I r ∧ h' = []) := by
 subst hn0_0
 unfold s_l4Find at H0
 refine ct_of_cw func83 J ntmps83 J (Sat.refl _ _) ?_
 refine sr (oE (stpU_box 0 J J) J ?_)
 rintro _ _ ⟨b1, rfl, rfl⟩
 obtain ⟨o0_0, eo0_0, H0⟩ := bS H0
 refine sq J (sn J (lp (fun f a => s_l4Find_L0 fl a0 a1 a2 f a = some o0_0) (fun a => o0_0 = .out a) (fun R s h => ∃ v2, R v2 ∧ s = [(1, I a1), (2, I a2), (3, .pointer (some ⟨b1, 0, none⟩)), (7, I v2)] ∧ h = [(0, [(b1, .cells #[.slice p0_0 ((a0.l).length) c0_0, I a0.h] 29 (0, 0))])]) ⟨_, eo0_0, J, J⟩ ?_ ?_))
 ·rintro fuel _ _ ⟨v2, H1, rfl, rfl⟩
  rcases fuel with _ | fuel
  ·rw [s_l4Find_L0.eq_1] at H1; cases H1
  rw [s_l4Find_L0.eq_2] at H1
  refine csr (oM J (oAL 0 u29 J ts27 J 0 J (oD (stp_len u27 J) J (oW J (nn (cH J H1 (fun H1 => ?_) (fun H1 => ?_)))))))
  ·obtain ⟨x4, e4, H1⟩ := bS H1
   obtain ⟨x5, e5, H1⟩ := bS H1
   refine kq (cw_block (sr (oAL 0 u29 J ts27 J 0 J (oM J (oD (stp_indexAddr u27 ts104 (by decide) J J J (Rdb.ro hr0_0) e4) J (oD (stp_loadN (us := [_, _, _, _, _, _]) ts104 J (Cells.el (Rdb.ro hr0_0) (by decide) e4 0 6 J)) J (oM J (oM J (oE (uC 1 cf121 (fun w hw => c_s_l4Fits fl w x4 a1 a2 x5 e5) (yC J J J)) J ?_)))))))))
   rintro _ _ ⟨_, ⟨rfl, rfl⟩, rfl⟩
   refine nn (cH J H1 (fun H1 => ?_) (fun H1 => ?_))
   ·refine sr (oM J (sr1 J (kw_bl_ret (kR (ar (kw_bl_ret (xr (kR ?_))))))))
    obtain rfl := sI H1
    obtain rfl := sI H0
    exact kr results83 (rT J) [] ⟨J, J⟩
   obtain ⟨x7, e7, H1⟩ := bS H1
   exact cw_skip (kb (cR (oM J (oP e7 J (oS J (ow_nil (ka ⟨_, H1, J, J⟩)))))))
  refine cw_exit (kw_nx_exit (ax (kw_bl ?_)))
  obtain rfl := sI H1
  exact kx ⟨_, J, J, J⟩
 rintro _ _ ⟨v2, rfl, rfl, rfl⟩
 refine kw_nx (sr (sn J (cw_ret ?_)))
 obtain rfl := sI H0
 exact kr results83 (rT J) [] ⟨J, J⟩

theorem c_s_Allows (fl : Nat) (w : World) (a0 : Int) (a1 : Int) (r : Bool) (H0 : s_Allows fl a0 a1 = some r) :
  Ct prog 85 [I a0, I a1] w [] (fun rv h' => rv = .bool r ∧ h' = []) := by
 unfold s_Allows at H0
 refine ct_of_cw func85 J ntmps85 J (Sat.refl _ _) ?_
 obtain ⟨x1, e1, H0⟩ := bS H0
 refine sr (ss J (oM J (oE (uC 0 cf45 (fun w hw => c_s_RightsValid fl w a0 x1 e1) (yA J)) J ?_)))
 rintro _ _ ⟨_, ⟨rfl, rfl⟩, rfl⟩
 obtain ⟨y2, ey2, H0⟩ := bS H0
 refine oM J (ow_cutY 3 10 y2 ?_ ?_)
 ·rcases Bool.eq_false_or_eq_true x1 with hy2 | hy2
  ·have ey2 := cond_t ey2 hy2
   obtain ⟨x3, e3, ey2⟩ := bS ey2
   refine oG J hy2 (mv J) J (ow_eff (.some J hy2) (uC 0 cf45 (fun w hw => c_s_RightsValid fl w a1 x3 e3) (yA J)) J ?_)
   rintro _ _ ⟨_, ⟨rfl, rfl⟩, rfl⟩
   refine oD (stp_pick_t J hy2 J) J ?_
   obtain rfl := sI ey2
   exact ow_nil (jy 3 0)
  have ey2 := cond_f ey2 hy2
  refine oO J hy2 J (oO J hy2 J (oD (stp_pick_f J hy2 J) J ?_))
  obtain rfl := sI ey2
  exact ow_nil (jy 3 0)
 obtain ⟨y4, ey4, H0⟩ := bS H0
 refine oM J (ow_cutY 6 17 y4 ?_ ?_)
 ·rcases Bool.eq_false_or_eq_true y2 with hy4 | hy4
  ·have ey4 := cond_t ey4 hy4
   refine oG J hy4 (mv J) J (oG J hy4 (mv J) J (oG J hy4 (stp_and J J) J (oG J hy4 (mv J) J (oG J hy4 (stp_eql J J) J (oD (stp_pick_t J hy4 J) J ?_)))))
   obtain rfl := sI ey4
   exact ow_nil (jy 6 0)
  have ey4 := cond_f ey4 hy4
  refine oO J hy4 J (oO J hy4 J (oO J hy4 J (oO J hy4 J (oO J hy4 J (oD (stp_pick_f J hy4 J) J ?_)))))
  obtain rfl := sI ey4
  exact ow_nil (jy 6 0)
 refine sn J (cw_ret ?_)
 obtain rfl := sI H0
 exact kr results85 (rT J) [] ⟨J, J⟩

theorem c_s_l4Victim (fl : Nat) (w : World) (a0 : Ca) (hn0_0 : n0_0 = (a0.l).length) (hr0_0 : RO w [] (RdL p0_0 c0_0 a0.l)) (r : Int) (H0 : s_l4Victim fl a0 = some r) :
  Ct prog 142 [.agg #[.slice p0_0 n0_0 c0_0, I a0.h]] w [] (fun rv h' => rv = I r ∧ h' = []) := by
 subst hn0_0
 unfold s_l4Victim at H0
 refine ct_of_cw func142 J ntmps142 J (Sat.refl _ _) ?_
 refine sr (oE (stpU_box 0 J J) J ?_)
 rintro _ _ ⟨b1, rfl, rfl⟩
 obtain ⟨o0_0, eo0_0, H0⟩ := bS H0
 refine sq J (sn J (lp (fun f a => s_l4Victim_L0 fl a0 f a = some o0_0) (fun a => o0_0 = .out a) (fun R s h => ∃ v2, R v2 ∧ s = [(1, .pointer (some ⟨b1, 0, none⟩)), (3, I v2)] ∧ h = [(0, [(b1, .cells #[.slice p0_0 ((a0.l).length) c0_0, I a0.h] 29 (0, 0))])]) ⟨_, eo0_0, J, J⟩ ?_ ?_))
 ·rintro fuel _ _ ⟨v2, H1, rfl, rfl⟩
  rcases fuel with _ | fuel
  ·rw [s_l4Victim_L0.eq_1] at H1; cases H1
  rw [s_l4Victim_L0.eq_2] at H1
  refine csr (oM J (oAL 0 u29 J ts27 J 0 J (oD (stp_len u27 J) J (oW J (nn (cH J H1 (fun H1 => ?_) (fun H1 => ?_)))))))
  ·obtain ⟨x4, e4, H1⟩ := bS H1
   refine kq (cw_block (sr (oAL 0 u29 J ts27 J 0 J (oM J (oD (stp_indexAddr u27 ts104 (by decide) J J J (Rdb.ro hr0_0) e4) J (oA 0 u104 J ts4 J (oD (stp_load1 ts4 J (Cells.el (Rdb.ro hr0_0) (by decide) e4 0 1 J)) J (oK J (nn (cH J H1 (fun H1 => ?_) (fun H1 => ?_)))))))))))
   ·refine sr (oM J (sr1 J (kw_bl_ret (kR (ar (kw_bl_ret (xr (kR ?_))))))))
    obtain rfl := sI H1
    obtain rfl := sI H0
    exact kr results142 (rT J) [] ⟨J, J⟩
   obtain ⟨x6, e6, H1⟩ := bS H1
   exact cw_skip (kb (cR (oM J (oP e6 J (oS J (ow_nil (ka ⟨_, H1, J, J⟩)))))))
  refine cw_exit (kw_nx_exit (ax (kw_bl ?_)))
  obtain rfl := sI H1
  exact kx ⟨_, J, J, J⟩
 rintro _ _ ⟨v2, rfl, rfl, rfl⟩
 obtain ⟨o0_1, eo0_1, H0⟩ := bS H0
 refine kw_nx (sr (oAL 1 u29 J ts3 J 0 J (sn J (cq (lp (fun f a => s_l4Victim_L1 fl a0 f a = some o0_1) (fun a => o0_1 = .out a) (fun R s h => ∃ v7, R v7 ∧ s = [(1, .pointer (some ⟨b1, 0, none⟩)), (4, I v7)] ∧ h = [(0, [(b1, .cells #[.slice p0_0 ((a0.l).length) c0_0, I a0.h] 29 (0, 0))])]) ⟨_, eo0_1, J, J⟩ ?_ ?_)))))
 ·rintro fuel _ _ ⟨v7, H1, rfl, rfl⟩
  rcases fuel with _ | fuel
  ·rw [s_l4Victim_L1.eq_1] at H1; cases H1
  rw [s_l4Victim_L1.eq_2] at H1
  obtain ⟨x8, e8, H1⟩ := bS H1
  refine csr (oAL 0 u29 J ts27 J 0 J (oM J (oD (stp_indexAddr u27 ts104 (by decide) J J J (Rdb.ro hr0_0) e8) J (oA 5 u104 J ts4 J (oD (stp_load1 ts4 J (Cells.el (Rdb.ro hr0_0) (by decide) e8 5 1 J)) J (nn (cH J H1 (fun H1 => ?_) (fun H1 => ?_))))))))
  ·obtain ⟨x10, e10, H1⟩ := bS H1
   obtain ⟨x11, e11, H1⟩ := bS H1
   exact kz (cw_block (cR (oM J (oP e10 J (oAL 0 u29 J ts27 J 0 J (oD (stp_len u27 J) J (oD (stp_rem J J e11) J (oS J (ow_nil (kw_bl_normal (ka ⟨_, H1, J, J⟩)))))))))))
  refine cw_exit (kw_nx_exit (ax (kw_bl ?_)))
  obtain rfl := sI H1
  exact kx ⟨_, J, J, J⟩
 rintro _ _ ⟨v7, rfl, rfl, rfl⟩
 refine kw_nx (sr (oM J (sn J (cw_ret ?_))))
 obtain rfl := sI H0
 exact kr results142 (rT J) [] ⟨J, J⟩

theorem c_s_FillLine (fl : Nat) (w : World) (a0 : Ca) (a1 : Ln) (hn0_0 : n0_0 = (a0.l).length) (hr0_0 : RO w [] (RdL p0_0 c0_0 a0.l)) (r : Ca × Int × Bool) (H0 : s_FillLine fl a0 a1 = some r) :
  Ct prog 122 [.agg #[.slice p0_0 n0_0 c0_0, I a0.h], .agg #[.bool a1.va, I a1.tg, I a1.pg, I a1.fr, I a1.ri, .bool a1.wi]] w [] (fun rv h' => SL 104 r.1.l fun x0 y0 z0 C0 => rv = .tuple #[.agg #[.slice x0 y0 z0, I r.1.h], I r.2.1, .bool r.2.2] ∧ h' = [(0, C0)]) := by
 subst hn0_0
 unfold s_FillLine at H0
 refine ct_of_cw func122 J ntmps122 J (Sat.refl _ _) ?_
 refine sr (oE (stpU_box 0 J J) J ?_)
 rintro _ _ ⟨b1, rfl, rfl⟩
 refine oE (stpU_box 1 J J) J ?_
 rintro _ _ ⟨b2, rfl, rfl⟩
 refine oE (stpU_alloc 2 tz29 J) J ?_
 rintro _ _ ⟨b3, rfl, rfl⟩
 obtain ⟨x4, e4, H0⟩ := bS H0
 refine oS J (sq J (oB2 0 ts29 J (oE (uC 3 cf96 (fun w hw => c_s_CacheValid fl w a0 J (rp hr0_0 hw) x4 e4) (yA J)) J ?_)))
 rintro _ _ ⟨_, ⟨rfl, rfl⟩, rfl⟩
 obtain ⟨y5, ey5, H0⟩ := bS H0
 refine oK J (oM J (ow_cutY 4 16 y5 ?_ ?_))
 ·rcases Bool.eq_false_or_eq_true (!x4) with hy5 | hy5
  ·have ey5 := cond_t ey5 hy5
   refine oO J hy5 J (oO J hy5 J (oO J hy5 J (oD (stp_pick_t J hy5 J) J ?_)))
   obtain rfl := sI ey5
   exact ow_nil (jy 4 0)
  have ey5 := cond_f ey5 hy5
  refine oG J hy5 (fA 0 u104 J ts4 J J J) J (oG J hy5 (lB 1 ts4 J J J) J (oG J hy5 (stp_not J) J (oD (stp_pick_f J hy5 J) J ?_)))
  obtain rfl := sI ey5
  exact ow_nil (jy 4 0)
 obtain ⟨y6, ey6, H0⟩ := bS H0
 refine oM J (ow_cutY 4 21 y6 ?_ ?_)
 ·rcases Bool.eq_false_or_eq_true y5 with hy6 | hy6
  ·have ey6 := cond_t ey6 hy6
   refine oO J hy6 J (oO J hy6 J (oO J hy6 J (oD (stp_pick_t J hy6 J) J ?_)))
   obtain rfl := sI ey6
   exact ow_nil (jy 4 0)
  have ey6 := cond_f ey6 hy6
  obtain ⟨x7, e7, ey6⟩ := bS ey6
  refine oG J hy6 (stp_loadN (us := [_, _, _, _, _, _]) ts104 J (Cells.box (id := 1) J 6 J)) J (ow_eff (.some J hy6) (uC 3 cf133 (fun w hw => c_s_l4Line fl w a1 x7 e7) (yA J)) J ?_)
  rintro _ _ ⟨_, ⟨rfl, rfl⟩, rfl⟩
  refine oG J hy6 (stp_not J) J (oD (stp_pick_f J hy6 J) J ?_)
  obtain rfl := sI ey6
  exact ow_nil (jy 4 0)
 refine ow_nil (kw_nx (cH J H0 (fun H0 => ?_) (fun H0 => ?_)))
 ·refine sr (oD (stp_build (cs := #[sN, I 0]) sE bt29_2) J (oC2 2 ts29 J J (oS J (sR J (kA 3 ?_)))))
  obtain rfl := sI H0
  exact kr results122 (.cons (.cellN (us := [_, _]) ts29 J (Cells.box (id := 2) J 2 J)) (.cons (.tmp J) (rT J))) [3] (sl J oN0 ⟨J, J⟩)
 obtain ⟨x9, e9, H0⟩ := bS H0
 refine ks (oB2 0 ts29 J (oE (uC 4 cf142 (fun w hw => c_s_l4Victim fl w a0 J (rp hr0_0 hw) x9 e9) (yA J)) J ?_))
 rintro _ _ ⟨_, ⟨rfl, rfl⟩, rfl⟩
 obtain ⟨x10, e10, H0⟩ := bS H0
 refine ss J (oB2 0 ts29 J (oE (uC 4 cf101 (fun w hw => c_s_l4Copy fl w a0 J (rp hr0_0 hw) x10 e10) (yA J)) J ?_))
 rintro _ _ ⟨_, ⟨p11, _, c13, C14, rfl, o14, rfl, rfl⟩, rfl⟩
 refine oE (stpU_alloc 5 tz29 J) J ?_
 rintro _ _ ⟨b15, rfl, rfl⟩
 obtain ⟨x16, e16, H0⟩ := bS H0
 refine oC2 5 ts29 J J (nq (oAL 0 u29 J ts27 J 0 J (oM J (oD (stp_indexAddr u27 ts104 (by decide) J J J (Rdb.ro hr0_0) e16) J (oA 0 u104 J ts4 J (oD (stp_load1 ts4 J (Cells.el (Rdb.ro hr0_0) (by decide) e16 0 1 J)) J (nn (cH J H0 (fun H0 => ?_) (fun H0 => ?_)))))))))
 ·obtain ⟨x18, e18, H0⟩ := bS H0
  obtain ⟨x19, e19, H0⟩ := bS H0
  refine cR (oM J (oP e18 J (oAL 0 u29 J ts27 J 0 J (oD (stp_len u27 J) J (oD (stp_rem J J e19) J (oA 1 u29 J ts3 J (oC2 5 ts3 J J (ns (oAL 0 u29 J ts27 J 5 J (oM J ?_))))))))))
  obtain ⟨x20, e20, H0⟩ := bS H0
  refine oB6 1 ts104 J (oD (stp_indexAddr u27 ts104 (by decide) J J J (Rdb.own (id := 4) J o14) e20) J (oF (stpU_storeEl (id := 4) (i := 0) a1 (by decide) ts104 J J J o14 e20 J J J J) ?_))
  rintro _ _ ⟨C21, rfl, o21⟩
  obtain ⟨x22, e22, H0⟩ := bS H0
  refine nq (oB2 5 ts29 J (oE (uC 6 cf96 (fun w hw => c_s_CacheValid fl w (⟨(x10.l.set (Int.toNat x9) a1), x19⟩ : Ca) (by simp) (owp 4 J o21 hw) x22 e22) (yA J)) J ?_))
  rintro _ _ ⟨_, ⟨rfl, rfl⟩, rfl⟩
  obtain ⟨y23, ey23, H0⟩ := bS H0
  refine oK J (oM J (ow_cutY 8 56 y23 ?_ ?_))
  ·rcases Bool.eq_false_or_eq_true (!x22) with hy23 | hy23
   ·have ey23 := cond_t ey23 hy23
    refine oO J hy23 J (oO J hy23 J (oO J hy23 J (oO J hy23 J (oO J hy23 J (oO J hy23 J (oO J hy23 J (oD (stp_pick_t J hy23 J) J ?_)))))))
    obtain rfl := sI ey23
    exact ow_nil (jy 8 0)
   have ey23 := cond_f ey23 hy23
   obtain ⟨x24, e24, ey23⟩ := bS ey23
   refine oG J hy23 (stp_loadN (us := [_, _]) ts29 J (Cells.box (id := 0) J 2 J)) J (oG J hy23 (fA 1 u104 J ts3 J J J) J (oG J hy23 (lB 1 ts3 J J J) J (oG J hy23 (fA 2 u104 J ts3 J J J) J (oG J hy23 (lB 1 ts3 J J J) J (ow_eff (.some J hy23) (uC 6 cf83 (fun w hw => c_s_l4Find fl w a0 a1.tg a1.pg J (rp hr0_0 hw) x24 e24) (yC J J J)) J ?_)))))
   rintro _ _ ⟨_, ⟨rfl, rfl⟩, rfl⟩
   refine oG J hy23 (stp_geq J J) J (oD (stp_pick_f J hy23 J) J ?_)
   obtain rfl := sI ey23
   exact ow_nil (jy 8 0)
  refine ow_nil (kw_nx (cH J H0 (fun H0 => ?_) (fun H0 => ?_)))
  ·refine sr (oD (stp_build (cs := #[sN, I 0]) sE bt29_2) J (oC2 2 ts29 J J (oS J (sR J (kA 6 ?_)))))
   obtain rfl := sI H0
   exact kr results122 (.cons (.cellN (us := [_, _]) ts29 J (Cells.box (id := 2) J 2 J)) (.cons (.tmp J) (rT J))) [6] (sl J oN0 ⟨J, J⟩)
  refine ks (oB2 5 ts29 J (oM J (oC2 2 ts29 J J (oS J (sn J (cw_ret ?_))))))
  obtain rfl := sI H0
  exact kr results122 (.cons (.cellN (us := [_, _]) ts29 J (Cells.box (id := 2) J 2 J)) (.cons (.tmp J) (rT J))) [4] (sl (by simp) o21 ⟨J, J⟩)
 obtain ⟨x26, e26, H0⟩ := bS H0
 refine ks (oAL 0 u29 J ts27 J 5 J (oM J (oB6 1 ts104 J (oD (stp_indexAddr u27 ts104 (by decide) J J J (Rdb.own (id := 4) J o14) e26) J (oF (stpU_storeEl (id := 4) (i := 0) a1 (by decide) ts104 J J J o14 e26 J J J J) ?_)))))
 rintro _ _ ⟨C27, rfl, o27⟩
 obtain ⟨x28, e28, H0⟩ := bS H0
 refine nq (oB2 5 ts29 J (oE (uC 7 cf96 (fun w hw => c_s_CacheValid fl w (⟨(x10.l.set (Int.toNat x9) a1), x10.h⟩ : Ca) (by simp) (owp 4 J o27 hw) x28 e28) (yA J)) J ?_))
 rintro _ _ ⟨_, ⟨rfl, rfl⟩, rfl⟩
 obtain ⟨y29, ey29, H0⟩ := bS H0
 refine oK J (oM J (ow_cutY 8 56 y29 ?_ ?_))
 ·rcases Bool.eq_false_or_eq_true (!x28) with hy29 | hy29
  ·have ey29 := cond_t ey29 hy29
   refine oO J hy29 J (oO J hy29 J (oO J hy29 J (oO J hy29 J (oO J hy29 J (oO J hy29 J (oO J hy29 J (oD (stp_pick_t J hy29 J) J ?_)))))))
   obtain rfl := sI ey29
   exact ow_nil (jy 8 0)
  have ey29 := cond_f ey29 hy29
  obtain ⟨x30, e30, ey29⟩ := bS ey29
  refine oG J hy29 (stp_loadN (us := [_, _]) ts29 J (Cells.box (id := 0) J 2 J)) J (oG J hy29 (fA 1 u104 J ts3 J J J) J (oG J hy29 (lB 1 ts3 J J J) J (oG J hy29 (fA 2 u104 J ts3 J J J) J (oG J hy29 (lB 1 ts3 J J J) J (ow_eff (.some J hy29) (uC 7 cf83 (fun w hw => c_s_l4Find fl w a0 a1.tg a1.pg J (rp hr0_0 hw) x30 e30) (yC J J J)) J ?_)))))
  rintro _ _ ⟨_, ⟨rfl, rfl⟩, rfl⟩
  refine oG J hy29 (stp_geq J J) J (oD (stp_pick_f J hy29 J) J ?_)
  obtain rfl := sI ey29
  exact ow_nil (jy 8 0)
 refine ow_nil (kw_nx (cH J H0 (fun H0 => ?_) (fun H0 => ?_)))
 ·refine sr (oD (stp_build (cs := #[sN, I 0]) sE bt29_2) J (oC2 2 ts29 J J (oS J (sR J (kA 7 ?_)))))
  obtain rfl := sI H0
  exact kr results122 (.cons (.cellN (us := [_, _]) ts29 J (Cells.box (id := 2) J 2 J)) (.cons (.tmp J) (rT J))) [7] (sl J oN0 ⟨J, J⟩)
 refine ks (oB2 5 ts29 J (oM J (oC2 2 ts29 J J (oS J (sn J (cw_ret ?_))))))
 obtain rfl := sI H0
 exact kr results122 (.cons (.cellN (us := [_, _]) ts29 J (Cells.box (id := 2) J 2 J)) (.cons (.tmp J) (rT J))) [4] (sl (by simp) o27 ⟨J, J⟩)

theorem c_s_l6Fill (fl : Nat) (w : World) (a0 : Mc) (a1 : Int) (a2 : Int) (a3 : Int) (hn0_0 : n0_0 = (a0.t.b).length) (hr0_0 : RO w [] (RdL p0_0 c0_0 a0.t.b)) (hn0_1 : n0_1 = (a0.t.f).length) (hr0_1 : RO w [] (RdL p0_1 c0_1 a0.t.f)) (hn0_2 : n0_2 = (a0.c.l).length) (hr0_2 : RO w [] (RdL p0_2 c0_2 a0.c.l)) (hn0_3 : n0_3 = (a0.g.o).length) (hr0_3 : RO w [] (RdL p0_3 c0_3 a0.g.o)) (r : Mc × Int) (H0 : s_l6Fill fl a0 a1 a2 a3 = some r) :
  Ct prog 84 [.agg #[.slice p0_0 n0_0 c0_0, .slice p0_1 n0_1 c0_1, .slice p0_2 n0_2 c0_2, I a0.c.h, I a0.g.c, I a0.g.n, I a0.g.r, .slice p0_3 n0_3 c0_3, I a0.s], I a1, I a2, I a3] w [] (fun rv h' => SL 3 r.1.t.b fun x0 y0 z0 C0 => SL 57 r.1.t.f fun x1 y1 z1 C1 => SL 104 r.1.c.l fun x2 y2 z2 C2 => SL 70 r.1.g.o fun x3 y3 z3 C3 => rv = .tuple #[.agg #[.slice x0 y0 z0, .slice x1 y1 z1, .slice x2 y2 z2, I r.1.c.h, I r.1.g.c, I r.1.g.n, I r.1.g.r, .slice x3 y3 z3, I r.1.s], I r.2] ∧ h' = [(0, C0), (1, C1), (2, C2), (3, C3)]) := by
 subst hn0_0 hn0_1 hn0_2 hn0_3
 unfold s_l6Fill at H0
 refine ct_of_cw func84 J ntmps84 J (Sat.refl _ _) ?_
 refine sr (oE (stpU_box 0 J J) J ?_)
 rintro _ _ ⟨b1, rfl, rfl⟩
 refine oE (stpU_alloc 1 tz34 J) J ?_
 rintro _ _ ⟨b2, rfl, rfl⟩
 obtain ⟨x3, e3, H0⟩ := bS H0
 refine ss J (oB9 0 ts34 J (oE (uC 2 cf56 (fun w hw => c_s_l6Copy fl w a0 J (rp hr0_0 hw) J (rp hr0_1 hw) J (rp hr0_2 hw) J (rp hr0_3 hw) x3 e3) (yA J)) J ?_))
 rintro _ _ ⟨_, ⟨p4, _, c6, C7, rfl, o7, p8, _, c10, C11, rfl, o11, p12, _, c14, C15, rfl, o15, p16, _, c18, C19, rfl, o19, rfl, rfl⟩, rfl⟩
 refine oE (stpU_alloc 6 tz34 J) J ?_
 rintro _ _ ⟨b20, rfl, rfl⟩
 obtain ⟨x21, e21, H0⟩ := bS H0
 refine oC9 6 ts34 J J (ns (oM J (oM J (oM J (oA 0 u34 J ts26 J (oAL 1 u26 J ts24 J 0 J (oM J (oD (stp_indexAddr u24 ts57 (by decide) J J J (Rdb.ro hr0_1) e21) J (oA 3 u57 J ts3 J (oD (stp_load1 ts3 J (Cells.el (Rdb.ro hr0_1) (by decide) e21 3 1 J)) J (oD (stp_build (cs := #[.bool true, I a3, I a1, I a2, I x21.r, .bool false]) (sP J (sP J (sP J (sP J (sP J sE))))) bt104_18) J ?_)))))))))))
 refine oE (stpU_alloc 7 tz104 J) J ?_
 rintro _ _ ⟨b22, rfl, rfl⟩
 obtain ⟨x23, e23, H0⟩ := bS H0
 refine oC6 7 ts104 J J (ns (oA 2 u34 J ts29 J (oB2 0 ts29 J (oB6 7 ts104 J (oE (uC 8 cf122 (fun w hw => c_s_FillLine fl w a0.c (⟨true, a3, a1, a2, x21.r, false⟩ : Ln) J (rp hr0_2 hw) x23 e23) (yB J J)) J ?_)))))
 rintro _ _ ⟨_, ⟨p24, _, c26, C27, rfl, o27, rfl, rfl⟩, rfl⟩
 refine oMTT J J J (oT J (oE (stpU_alloc 9 tz29 J) J ?_))
 rintro _ _ ⟨b28, rfl, rfl⟩
 refine oC2 9 ts29 J J (oS J (ss J (oB2 9 ts29 J (oA 2 u34 J ts29 J (oC9 6 ts29 J J (ns (oB9 6 ts34 J (oM J (oC9 1 ts34 J J (oS J ?_))))))))))
 refine nn (cw_ret ?_)
 obtain rfl := sI H0
 exact kr results84 (.cons (.cellN (us := [_, _, _, _, _, _, _, _, _]) ts34 J (Cells.box (id := 1) J 9 J)) (rT J)) [2, 3, 8, 5] (sl J o7 (sl J o11 (sl J o27 (sl J o19 ⟨J, J⟩))))

theorem c_s_TouchPage (fl : Nat) (w : World) (a0 : Mc) (a1 : Int) (a2 : Int) (hn0_0 : n0_0 = (a0.t.b).length) (hr0_0 : RO w [] (RdL p0_0 c0_0 a0.t.b)) (hn0_1 : n0_1 = (a0.t.f).length) (hr0_1 : RO w [] (RdL p0_1 c0_1 a0.t.f)) (hn0_2 : n0_2 = (a0.c.l).length) (hr0_2 : RO w [] (RdL p0_2 c0_2 a0.c.l)) (hn0_3 : n0_3 = (a0.g.o).length) (hr0_3 : RO w [] (RdL p0_3 c0_3 a0.g.o)) (r : Mc × Int × Int × Bool) (H0 : s_TouchPage fl a0 a1 a2 = some r) :
  Ct prog 49 [.agg #[.slice p0_0 n0_0 c0_0, .slice p0_1 n0_1 c0_1, .slice p0_2 n0_2 c0_2, I a0.c.h, I a0.g.c, I a0.g.n, I a0.g.r, .slice p0_3 n0_3 c0_3, I a0.s], I a1, I a2] w [] (fun rv h' => SL 3 r.1.t.b fun x0 y0 z0 C0 => SL 57 r.1.t.f fun x1 y1 z1 C1 => SL 104 r.1.c.l fun x2 y2 z2 C2 => SL 70 r.1.g.o fun x3 y3 z3 C3 => rv = .tuple #[.agg #[.slice x0 y0 z0, .slice x1 y1 z1, .slice x2 y2 z2, I r.1.c.h, I r.1.g.c, I r.1.g.n, I r.1.g.r, .slice x3 y3 z3, I r.1.s], I r.2.1, I r.2.2.1, .bool r.2.2.2] ∧ h' = [(0, C0), (1, C1), (2, C2), (3, C3)]) := by
 subst hn0_0 hn0_1 hn0_2 hn0_3
 unfold s_TouchPage at H0
 refine ct_of_cw func49 J ntmps49 J (Sat.refl _ _) ?_
 refine sr (oE (stpU_box 0 J J) J ?_)
 rintro _ _ ⟨b1, rfl, rfl⟩
 refine oE (stpU_alloc 1 tz34 J) J ?_
 rintro _ _ ⟨b2, rfl, rfl⟩
 obtain ⟨x3, e3, H0⟩ := bS H0
 refine oS J (oS J (sq J (oB9 0 ts34 J (oE (uC 2 cf55 (fun w hw => c_s_MachineValid fl w a0 J (rp hr0_0 hw) J (rp hr0_1 hw) J (rp hr0_2 hw) J (rp hr0_3 hw) x3 e3) (yA J)) J ?_))))
 rintro _ _ ⟨_, ⟨rfl, rfl⟩, rfl⟩
 obtain ⟨y4, ey4, H0⟩ := bS H0
 refine oK J (oM J (ow_cutY 4 25 y4 ?_ ?_))
 ·rcases Bool.eq_false_or_eq_true (!x3) with hy4 | hy4
  ·have ey4 := cond_t ey4 hy4
   refine oO J hy4 J (oO J hy4 J (oO J hy4 J (oD (stp_pick_t J hy4 J) J ?_)))
   obtain rfl := sI ey4
   exact ow_nil (jy 4 0)
  have ey4 := cond_f ey4 hy4
  obtain ⟨x5, e5, ey4⟩ := bS ey4
  refine oG J hy4 (mv J) J (ow_eff (.some J hy4) (uC 2 cf44 (fun w hw => c_s_l1Page fl w a1 x5 e5) (yA J)) J ?_)
  rintro _ _ ⟨_, ⟨rfl, rfl⟩, rfl⟩
  refine oG J hy4 (stp_not J) J (oD (stp_pick_f J hy4 J) J ?_)
  obtain rfl := sI ey4
  exact ow_nil (jy 4 0)
 obtain ⟨y6, ey6, H0⟩ := bS H0
 refine oM J (ow_cutY 4 30 y6 ?_ ?_)
 ·rcases Bool.eq_false_or_eq_true y4 with hy6 | hy6
  ·have ey6 := cond_t ey6 hy6
   refine oO J hy6 J (oO J hy6 J (oO J hy6 J (oD (stp_pick_t J hy6 J) J ?_)))
   obtain rfl := sI ey6
   exact ow_nil (jy 4 0)
  have ey6 := cond_f ey6 hy6
  obtain ⟨x7, e7, ey6⟩ := bS ey6
  refine oG J hy6 (mv J) J (ow_eff (.some J hy6) (uC 2 cf45 (fun w hw => c_s_RightsValid fl w a2 x7 e7) (yA J)) J ?_)
  rintro _ _ ⟨_, ⟨rfl, rfl⟩, rfl⟩
  refine oG J hy6 (stp_not J) J (oD (stp_pick_f J hy6 J) J ?_)
  obtain rfl := sI ey6
  exact ow_nil (jy 4 0)
 refine ow_nil (kw_nx (cH J H0 (fun H0 => ?_) (fun H0 => ?_)))
 ·refine sr (oD (stp_build (cs := #[sN, sN, sN, I 0, I 0, I 0, I 0, sN, I 0]) sE bt34_6) J (oC9 1 ts34 J J (oS J (oS J (sR J (kA 2 (kA 3 (kA 4 (kA 5 ?_)))))))))
  obtain rfl := sI H0
  exact kr results49 (.cons (.cellN (us := [_, _, _, _, _, _, _, _, _]) ts34 J (Cells.box (id := 1) J 9 J)) (.cons (.tmp J) (.cons (.tmp J) (rT J)))) [2, 3, 4, 5] (sl J oN0 (sl J oN0 (sl J oN0 (sl J oN0 ⟨J, J⟩))))
 obtain ⟨x9, e9, H0⟩ := bS H0
 refine ks (oB9 0 ts34 J (oAL 8 u34 J ts3 J 0 J (oM J (oE (uC 6 cf82 (fun w hw => c_s_l6Tag fl w a0 a0.s a1 J (rp hr0_0 hw) J (rp hr0_1 hw) J (rp hr0_2 hw) J (rp hr0_3 hw) x9 e9) (yC J J J)) J ?_))))
 rintro _ _ ⟨_, ⟨rfl, rfl⟩, rfl⟩
 obtain ⟨x10, e10, H0⟩ := bS H0
 refine oMTT J J J (oS J (ss J (oB9 0 ts34 J (oE (uC 6 cf56 (fun w hw => c_s_l6Copy fl w a0 J (rp hr0_0 hw) J (rp hr0_1 hw) J (rp hr0_2 hw) J (rp hr0_3 hw) x10 e10) (yA J)) J ?_))))
 rintro _ _ ⟨_, ⟨p11, _, c13, C14, rfl, o14, p15, _, c17, C18, rfl, o18, p19, _, c21, C22, rfl, o22, p23, _, c25, C26, rfl, o26, rfl, rfl⟩, rfl⟩
 refine oE (stpU_alloc 10 tz34 J) J ?_
 rintro _ _ ⟨b27, rfl, rfl⟩
 obtain ⟨x28, e28, H0⟩ := bS H0
 refine oC9 10 ts34 J J (ns (ss J (oA 2 u34 J ts29 J (oB2 0 ts29 J (oM J (oM J (oE (uC 11 cf83 (fun w hw => c_s_l4Find fl w a0.c x9.1 a1 J (rp hr0_2 hw) x28 e28) (yC J J J)) J ?_)))))))
 rintro _ _ ⟨_, ⟨rfl, rfl⟩, rfl⟩
 refine ss J (sq J (oM J (oI J (nn (cH J H0 (fun H0 => ?_) (fun H0 => ?_))))))
 ·obtain ⟨x30, e30, H0⟩ := bS H0
  refine cR (oA 2 u34 J ts29 J (oAL 0 u29 J ts27 J 0 J (oM J (oD (stp_indexAddr u27 ts104 (by decide) J J J (Rdb.ro hr0_2) e30) J (oA 3 u104 J ts3 J (oD (stp_load1 ts3 J (Cells.el (Rdb.ro hr0_2) (by decide) e30 3 1 J)) J (sq J (oA 0 u34 J ts26 J (oA 1 u26 J ts24 J ?_)))))))))
  obtain ⟨x31, e31, H0⟩ := bS H0
  obtain ⟨x32, e32, H0⟩ := bS H0
  refine oL 0 ts24 J (oM J (oD (stp_indexAddr u24 ts57 (by decide) J J J (Rdb.ro hr0_1) e31) J (oA 3 u57 J ts3 J (oD (stp_load1 ts3 J (Cells.el (Rdb.ro hr0_1) (by decide) e31 3 1 J)) J (oM J (oE (uC 11 cf85 (fun w hw => c_s_Allows fl w x31.r a2 x32 e32) (yB J J)) J ?_))))))
  rintro _ _ ⟨_, ⟨rfl, rfl⟩, rfl⟩
  refine oK J (nn (cH J H0 (fun H0 => ?_) (fun H0 => ?_)))
  ·refine sr (oB9 10 ts34 J (oM J (oC9 1 ts34 J J (oS J (oS J (sr1 J (kR ?_)))))))
   obtain rfl := sI H0
   exact kr results49 (.cons (.cellN (us := [_, _, _, _, _, _, _, _, _]) ts34 J (Cells.box (id := 1) J 9 J)) (.cons (.tmp J) (.cons (.tmp J) (rT J)))) [6, 7, 8, 9] (sl J o14 (sl J o18 (sl J o22 (sl J o26 ⟨J, J⟩))))
  refine ks (oB9 10 ts34 J (oM J (oM J (oC9 1 ts34 J J (oS J (oS J (sn J (cw_ret ?_))))))))
  obtain rfl := sI H0
  exact kr results49 (.cons (.cellN (us := [_, _, _, _, _, _, _, _, _]) ts34 J (Cells.box (id := 1) J 9 J)) (.cons (.tmp J) (.cons (.tmp J) (rT J)))) [6, 7, 8, 9] (sl J o14 (sl J o18 (sl J o22 (sl J o26 ⟨J, J⟩))))
 obtain ⟨x34, e34, H0⟩ := bS H0
 obtain ⟨x35, e35, H0⟩ := bS H0
 refine cq (rdt g_mixed (rn 0 12) ⟨[[],[0],[],[0]], [], []⟩ (dA 0 J u34 J ts26 J (dB2 0 ts26 J (dA 8 J u34 J ts3 J (dL 0 ts3 J (dM J (dV J (fun hh => uC 11 cf47 (fun w hw => c_s_KeyFor fl w a0.s a1 x34 e34) (yB J J)) J (dV J (fun hh => uC 11 cf46 (fun w hw => c_s_l3Find fl w a0.t x34 J (rp hr0_0 hw) J (rp hr0_1 hw) x35 e35) (yB J J)) J (dM J (dT J (dT J (dS J (dS J ?_)))))))))))))
 refine dn (kw_nx (csr (oM J (oW J (nn (cH J H0 (fun H0 => ?_) (fun H0 => ?_)))))))
 ·refine sr (oB9 10 ts34 J (oC9 1 ts34 J J (oS J (oS J (sR J (kR ?_))))))
  obtain rfl := sI H0
  exact kr results49 (.cons (.cellN (us := [_, _, _, _, _, _, _, _, _]) ts34 J (Cells.box (id := 1) J 9 J)) (.cons (.tmp J) (.cons (.tmp J) (rT J)))) [6, 7, 8, 9] (sl J o14 (sl J o18 (sl J o22 (sl J o26 ⟨J, J⟩))))
 obtain ⟨x37, e37, H0⟩ := bS H0
 refine ks (oB9 0 ts34 J (oM J (oM J (oM J (oE (uC 11 cf84 (fun w hw => c_s_l6Fill fl w a0 a1 x35.1 x9.1 J (rp hr0_0 hw) J (rp hr0_1 hw) J (rp hr0_2 hw) J (rp hr0_3 hw) x37 e37) (yD J J J J)) J ?_)))))
 rintro _ _ ⟨_, ⟨p38, _, c40, C41, rfl, o41, p42, _, c44, C45, rfl, o45, p46, _, c48, C49, rfl, o49, p50, _, c52, C53, rfl, o53, rfl, rfl⟩, rfl⟩
 refine oMTT J J J (oC9 10 ts34 J J (ns (oM J (sn J (cR (sn J (cq (sr ?_))))))))
 obtain ⟨x54, e54, H0⟩ := bS H0
 obtain ⟨x55, e55, H0⟩ := bS H0
 refine oA 0 u34 J ts26 J (oAL 1 u26 J ts24 J 0 J (oM J (oD (stp_indexAddr u24 ts57 (by decide) J J J (Rdb.ro hr0_1) e54) J (oA 3 u57 J ts3 J (oD (stp_load1 ts3 J (Cells.el (Rdb.ro hr0_1) (by decide) e54 3 1 J)) J (oM J (oE (uC 15 cf85 (fun w hw => c_s_Allows fl w x54.r a2 x55 e55) (yB J J)) J ?_)))))))
 rintro _ _ ⟨_, ⟨rfl, rfl⟩, rfl⟩
 refine oK J (nn (cH J H0 (fun H0 => ?_) (fun H0 => ?_)))
 ·refine sr (oB9 10 ts34 J (oM J (oC9 1 ts34 J J (oS J (oS J (sr1 J (kR ?_)))))))
  obtain rfl := sI H0
  exact kr results49 (.cons (.cellN (us := [_, _, _, _, _, _, _, _, _]) ts34 J (Cells.box (id := 1) J 9 J)) (.cons (.tmp J) (.cons (.tmp J) (rT J)))) [11, 12, 13, 14] (sl J o41 (sl J o45 (sl J o49 (sl J o53 ⟨J, J⟩))))
 refine ks (oB9 10 ts34 J (oM J (oM J (oC9 1 ts34 J J (oS J (oS J (sn J (cw_ret ?_))))))))
 obtain rfl := sI H0
 exact kr results49 (.cons (.cellN (us := [_, _, _, _, _, _, _, _, _]) ts34 J (Cells.box (id := 1) J 9 J)) (.cons (.tmp J) (.cons (.tmp J) (rT J)))) [11, 12, 13, 14] (sl J o41 (sl J o45 (sl J o49 (sl J o53 ⟨J, J⟩))))

theorem c_s_WireLine (fl : Nat) (w : World) (a0 : Ca) (a1 : Int) (a2 : Bool) (hn0_0 : n0_0 = (a0.l).length) (hr0_0 : RO w [] (RdL p0_0 c0_0 a0.l)) (r : Ca × Bool) (H0 : s_WireLine fl a0 a1 a2 = some r) :
  Ct prog 153 [.agg #[.slice p0_0 n0_0 c0_0, I a0.h], I a1, .bool a2] w [] (fun rv h' => SL 104 r.1.l fun x0 y0 z0 C0 => rv = .tuple #[.agg #[.slice x0 y0 z0, I r.1.h], .bool r.2] ∧ h' = [(0, C0)]) := by
 subst hn0_0
 unfold s_WireLine at H0
 refine ct_of_cw func153 J ntmps153 J (Sat.refl _ _) ?_
 refine sr (oE (stpU_box 0 J J) J ?_)
 rintro _ _ ⟨b1, rfl, rfl⟩
 refine oE (stpU_alloc 1 tz29 J) J ?_
 rintro _ _ ⟨b2, rfl, rfl⟩
 obtain ⟨x3, e3, H0⟩ := bS H0
 refine sq J (oB2 0 ts29 J (oE (uC 2 cf96 (fun w hw => c_s_CacheValid fl w a0 J (rp hr0_0 hw) x3 e3) (yA J)) J ?_))
 rintro _ _ ⟨_, ⟨rfl, rfl⟩, rfl⟩
 obtain ⟨y4, ey4, H0⟩ := bS H0
 refine oK J (oM J (ow_cutY 3 15 y4 ?_ ?_))
 ·rcases Bool.eq_false_or_eq_true (!x3) with hy4 | hy4
  ·have ey4 := cond_t ey4 hy4
   refine oO J hy4 J (oO J hy4 J (oD (stp_pick_t J hy4 J) J ?_))
   obtain rfl := sI ey4
   exact ow_nil (jy 3 0)
  have ey4 := cond_f ey4 hy4
  refine oG J hy4 (mv J) J (oG J hy4 (stp_lss J J) J (oD (stp_pick_f J hy4 J) J ?_))
  obtain rfl := sI ey4
  exact ow_nil (jy 3 0)
 obtain ⟨y5, ey5, H0⟩ := bS H0
 refine oM J (ow_cutY 6 22 y5 ?_ ?_)
 ·rcases Bool.eq_false_or_eq_true y4 with hy5 | hy5
  ·have ey5 := cond_t ey5 hy5
   refine oO J hy5 J (oO J hy5 J (oO J hy5 J (oO J hy5 J (oO J hy5 J (oD (stp_pick_t J hy5 J) J ?_)))))
   obtain rfl := sI ey5
   exact ow_nil (jy 6 0)
  have ey5 := cond_f ey5 hy5
  refine oG J hy5 (mv J) J (oG J hy5 (fA 0 u29 J ts27 J J J) J (oG J hy5 (lB 0 ts27 J J J) J (oG J hy5 (stp_len u27 J) J (oG J hy5 (stp_geq J J) J (oD (stp_pick_f J hy5 J) J ?_)))))
  obtain rfl := sI ey5
  exact ow_nil (jy 6 0)
 obtain ⟨y6, ey6, H0⟩ := bS H0
 refine oM J (ow_cutY 8 31 y6 ?_ ?_)
 ·rcases Bool.eq_false_or_eq_true y5 with hy6 | hy6
  ·have ey6 := cond_t ey6 hy6
   refine oO J hy6 J (oO J hy6 J (oO J hy6 J (oO J hy6 J (oO J hy6 J (oO J hy6 J (oO J hy6 J (oD (stp_pick_t J hy6 J) J ?_)))))))
   obtain rfl := sI ey6
   exact ow_nil (jy 8 0)
  have ey6 := cond_f ey6 hy6
  obtain ⟨x7, e7, ey6⟩ := bS ey6
  refine oG J hy6 (fA 0 u29 J ts27 J J J) J (oG J hy6 (lB 0 ts27 J J J) J (oG J hy6 (mv J) J (oG J hy6 (stp_indexAddr u27 ts104 (by decide) J J J (Rdb.ro hr0_0) e7) J (oG J hy6 (fA 0 u104 J ts4 J J J) J (oG J hy6 (stp_load1 ts4 J (Cells.el (Rdb.ro hr0_0) (by decide) e7 0 1 J)) J (oG J hy6 (stp_not J) J (oD (stp_pick_f J hy6 J) J ?_)))))))
  obtain rfl := sI ey6
  exact ow_nil (jy 8 0)
 refine ow_nil (kw_nx (cH J H0 (fun H0 => ?_) (fun H0 => ?_)))
 ·refine sr (oD (stp_build (cs := #[sN, I 0]) sE bt29_2) J (oC2 1 ts29 J J (sR J (kA 2 ?_))))
  obtain rfl := sI H0
  exact kr results153 (.cons (.cellN (us := [_, _]) ts29 J (Cells.box (id := 1) J 2 J)) (rT J)) [2] (sl J oN0 ⟨J, J⟩)
 obtain ⟨x9, e9, H0⟩ := bS H0
 refine ks (oB2 0 ts29 J (oE (uC 3 cf101 (fun w hw => c_s_l4Copy fl w a0 J (rp hr0_0 hw) x9 e9) (yA J)) J ?_))
 rintro _ _ ⟨_, ⟨p10, _, c12, C13, rfl, o13, rfl, rfl⟩, rfl⟩
 refine oE (stpU_alloc 4 tz29 J) J ?_
 rintro _ _ ⟨b14, rfl, rfl⟩
 obtain ⟨x15, e15, H0⟩ := bS H0
 refine oC2 4 ts29 J J (ns (oAL 0 u29 J ts27 J 4 J (oM J (oM J (oD (stp_indexAddr u27 ts104 (by decide) J J J (Rdb.own (id := 3) J o13) e15) J (oA 5 u104 J ts4 J (oF (stpU_storeEl (id := 3) (i := 5) (⟨x15.va, x15.tg, x15.pg, x15.fr, x15.ri, a2⟩ : Ln) (by decide) ts4 J J J o13 e15 J J J J) ?_)))))))
 rintro _ _ ⟨C16, rfl, o16⟩
 obtain ⟨x17, e17, H0⟩ := bS H0
 refine nq (oB2 4 ts29 J (oE (uC 5 cf96 (fun w hw => c_s_CacheValid fl w (⟨(x9.l.set (Int.toNat a1) (⟨x15.va, x15.tg, x15.pg, x15.fr, x15.ri, a2⟩ : Ln)), x9.h⟩ : Ca) (by simp) (owp 3 J o16 hw) x17 e17) (yA J)) J ?_))
 rintro _ _ ⟨_, ⟨rfl, rfl⟩, rfl⟩
 refine oK J (nn (cH J H0 (fun H0 => ?_) (fun H0 => ?_)))
 ·refine sr (oD (stp_build (cs := #[sN, I 0]) sE bt29_2) J (oC2 1 ts29 J J (sR J (kA 5 ?_))))
  obtain rfl := sI H0
  exact kr results153 (.cons (.cellN (us := [_, _]) ts29 J (Cells.box (id := 1) J 2 J)) (rT J)) [5] (sl J oN0 ⟨J, J⟩)
 refine ks (oB2 4 ts29 J (oC2 1 ts29 J J (sn J (cw_ret ?_))))
 obtain rfl := sI H0
 exact kr results153 (.cons (.cellN (us := [_, _]) ts29 J (Cells.box (id := 1) J 2 J)) (rT J)) [3] (sl (by simp) o16 ⟨J, J⟩)

theorem c_s_WirePage (fl : Nat) (w : World) (a0 : Mc) (a1 : Int) (hn0_0 : n0_0 = (a0.t.b).length) (hr0_0 : RO w [] (RdL p0_0 c0_0 a0.t.b)) (hn0_1 : n0_1 = (a0.t.f).length) (hr0_1 : RO w [] (RdL p0_1 c0_1 a0.t.f)) (hn0_2 : n0_2 = (a0.c.l).length) (hr0_2 : RO w [] (RdL p0_2 c0_2 a0.c.l)) (hn0_3 : n0_3 = (a0.g.o).length) (hr0_3 : RO w [] (RdL p0_3 c0_3 a0.g.o)) (r : Mc × Bool) (H0 : s_WirePage fl a0 a1 = some r) :
  Ct prog 150 [.agg #[.slice p0_0 n0_0 c0_0, .slice p0_1 n0_1 c0_1, .slice p0_2 n0_2 c0_2, I a0.c.h, I a0.g.c, I a0.g.n, I a0.g.r, .slice p0_3 n0_3 c0_3, I a0.s], I a1] w [] (fun rv h' => SL 3 r.1.t.b fun x0 y0 z0 C0 => SL 57 r.1.t.f fun x1 y1 z1 C1 => SL 104 r.1.c.l fun x2 y2 z2 C2 => SL 70 r.1.g.o fun x3 y3 z3 C3 => rv = .tuple #[.agg #[.slice x0 y0 z0, .slice x1 y1 z1, .slice x2 y2 z2, I r.1.c.h, I r.1.g.c, I r.1.g.n, I r.1.g.r, .slice x3 y3 z3, I r.1.s], .bool r.2] ∧ h' = [(0, C0), (1, C1), (2, C2), (3, C3)]) := by
 subst hn0_0 hn0_1 hn0_2 hn0_3
 unfold s_WirePage at H0
 refine ct_of_cw func150 J ntmps150 J (Sat.refl _ _) ?_
 refine sr (oE (stpU_box 0 J J) J ?_)
 rintro _ _ ⟨b1, rfl, rfl⟩
 refine oE (stpU_alloc 1 tz34 J) J ?_
 rintro _ _ ⟨b2, rfl, rfl⟩
 obtain ⟨x3, e3, H0⟩ := bS H0
 refine ss J (oB9 0 ts34 J (oM J (oE (uC 2 cf49 (fun w hw => c_s_TouchPage fl w a0 a1 0 J (rp hr0_0 hw) J (rp hr0_1 hw) J (rp hr0_2 hw) J (rp hr0_3 hw) x3 e3) (yC J J J)) J ?_)))
 rintro _ _ ⟨_, ⟨p4, _, c6, C7, rfl, o7, p8, _, c10, C11, rfl, o11, p12, _, c14, C15, rfl, o15, p16, _, c18, C19, rfl, o19, rfl, rfl⟩, rfl⟩
 refine oMTT J J J (oT J (oT J (oE (stpU_alloc 6 tz34 J) J ?_)))
 rintro _ _ ⟨b20, rfl, rfl⟩
 obtain ⟨y21, ey21, H0⟩ := bS H0
 refine oC9 6 ts34 J J (oS J (oS J (sq J (oM J (oK J (oM J (ow_cutY 3 25 y21 ?_ ?_)))))))
 ·rcases Bool.eq_false_or_eq_true (!x3.2.2.2) with hy21 | hy21
  ·have ey21 := cond_t ey21 hy21
   refine oO J hy21 J (oO J hy21 J (oD (stp_pick_t J hy21 J) J ?_))
   obtain rfl := sI ey21
   exact ow_nil (jy 3 0)
  have ey21 := cond_f ey21 hy21
  refine oG J hy21 (mv J) J (oG J hy21 (stp_eql J J) J (oD (stp_pick_f J hy21 J) J ?_))
  obtain rfl := sI ey21
  exact ow_nil (jy 3 0)
 obtain ⟨y22, ey22, H0⟩ := bS H0
 refine oM J (ow_cutY 3 29 y22 ?_ ?_)
 ·rcases Bool.eq_false_or_eq_true y21 with hy22 | hy22
  ·have ey22 := cond_t ey22 hy22
   refine oO J hy22 J (oO J hy22 J (oD (stp_pick_t J hy22 J) J ?_))
   obtain rfl := sI ey22
   exact ow_nil (jy 3 0)
  have ey22 := cond_f ey22 hy22
  refine oG J hy22 (mv J) J (oG J hy22 (stp_lss J J) J (oD (stp_pick_f J hy22 J) J ?_))
  obtain rfl := sI ey22
  exact ow_nil (jy 3 0)
 refine ow_nil (kw_nx (cH J H0 (fun H0 => ?_) (fun H0 => ?_)))
 ·refine sr (oD (stp_build (cs := #[sN, sN, sN, I 0, I 0, I 0, I 0, sN, I 0]) sE bt34_6) J (oC9 1 ts34 J J (sR J (kA 7 (kA 8 (kA 9 (kA 10 ?_)))))))
  obtain rfl := sI H0
  exact kr results150 (.cons (.cellN (us := [_, _, _, _, _, _, _, _, _]) ts34 J (Cells.box (id := 1) J 9 J)) (rT J)) [7, 8, 9, 10] (sl J oN0 (sl J oN0 (sl J oN0 (sl J oN0 ⟨J, J⟩))))
 obtain ⟨x24, e24, H0⟩ := bS H0
 obtain ⟨x25, e25, H0⟩ := bS H0
 refine kq (rdt g_mixed [.n 0, .n 1, .n 2, .n 3, .n 4, .n 5, .d 6, .d 10, .o 6, .n 7, .n 8, .n 9, .o 10, .n 11, .n 12] ⟨[[],[6],[],[6],[],[4],[4],[],[],[],[],[12]], [[],[],[],[],[],[],[11],[],[],[],[12],[12]], [6,10]⟩ (dA 2 J u34 J ts29 J (dB2 6 ts29 J (dA 2 J u34 J ts29 J (dB2 6 ts29 J (dM J (dV J (fun hh => uC 11 cf83 (fun w hw => c_s_l4Find fl w x3.1.c (-1) a1 J (owp 4 (hh _ _ J) o15 hw) x24 e24) (yC J J J)) J (dq J (fun hh => uC 11 cf153 (fun w hw => c_s_WireLine fl w x3.1.c x24 true J (owp 4 (hh _ _ J) o15 hw) x25 e25) (yC J J J)) (by rintro _ _ ⟨_, ⟨_, _, _, _, _, _, rfl, rfl⟩, rfl⟩; rfl) (dq J (fun hh => stpU_alloc 12 tz29 J) (by rintro _ _ ⟨_, rfl, rfl⟩; rfl) (dp J ?_))))))))))
 rintro _ _ ⟨_, ⟨p26, _, c28, C29, rfl, o29, rfl, rfl⟩, rfl⟩
 refine dM J (dT J (dT J (dp J ?_)))
 rintro _ _ ⟨b30, rfl, rfl⟩
 refine dC2 12 ts29 J J J (dS J (dn (kw_nx (csr (oM J (oK J (nn (cH J H0 (fun H0 => ?_) (fun H0 => ?_)))))))))
 ·refine sr (oD (stp_build (cs := #[sN, sN, sN, I 0, I 0, I 0, I 0, sN, I 0]) sE bt34_6) J (oC9 1 ts34 J J (sR J (kA 13 (kA 14 (kA 15 (kA 16 ?_)))))))
  obtain rfl := sI H0
  exact kr results150 (.cons (.cellN (us := [_, _, _, _, _, _, _, _, _]) ts34 J (Cells.box (id := 1) J 9 J)) (rT J)) [13, 14, 15, 16] (sl J oN0 (sl J oN0 (sl J oN0 (sl J oN0 ⟨J, J⟩))))
 refine ks (oB2 12 ts29 J (oA 2 u34 J ts29 J (oC9 6 ts29 J J (ns (oB9 6 ts34 J (oC9 1 ts34 J J (sn J (cw_ret ?_))))))))
 obtain rfl := sI H0
 exact kr results150 (.cons (.cellN (us := [_, _, _, _, _, _, _, _, _]) ts34 J (Cells.box (id := 1) J 9 J)) (rT J)) [2, 3, 11, 5] (sl J o7 (sl J o11 (sl J o29 (sl J o19 ⟨J, J⟩))))

theorem c_s_FindPage (fl : Nat) (w : World) (a0 : T) (a1 : K) (hn0_0 : n0_0 = (a0.b).length) (hr0_0 : RO w [] (RdL p0_0 c0_0 a0.b)) (hn0_1 : n0_1 = (a0.f).length) (hr0_1 : RO w [] (RdL p0_1 c0_1 a0.f)) (r : Int × Int × Bool) (H0 : s_FindPage fl a0 a1 = some r) :
  Ct prog 137 [.agg #[.slice p0_0 n0_0 c0_0, .slice p0_1 n0_1 c0_1], .agg #[I a1.s, I a1.p]] w [] (fun rv h' => rv = .tuple #[I r.1, I r.2.1, .bool r.2.2] ∧ h' = []) := by
 subst hn0_0 hn0_1
 unfold s_FindPage at H0
 refine ct_of_cw func137 J ntmps137 J (Sat.refl _ _) ?_
 refine sr (oE (stpU_box 0 J J) J ?_)
 rintro _ _ ⟨b1, rfl, rfl⟩
 refine oE (stpU_box 1 J J) J ?_
 rintro _ _ ⟨b2, rfl, rfl⟩
 obtain ⟨x3, e3, H0⟩ := bS H0
 refine oS J (oS J (sq J (oB2 0 ts26 J (oE (uC 2 cf95 (fun w hw => c_s_TableValid fl w a0 J (rp hr0_0 hw) J (rp hr0_1 hw) x3 e3) (yA J)) J ?_))))
 rintro _ _ ⟨_, ⟨rfl, rfl⟩, rfl⟩
 obtain ⟨y4, ey4, H0⟩ := bS H0
 refine oK J (oM J (ow_cutY 4 16 y4 ?_ ?_))
 ·rcases Bool.eq_false_or_eq_true (!x3) with hy4 | hy4
  ·have ey4 := cond_t ey4 hy4
   refine oO J hy4 J (oO J hy4 J (oO J hy4 J (oD (stp_pick_t J hy4 J) J ?_)))
   obtain rfl := sI ey4
   exact ow_nil (jy 4 0)
  have ey4 := cond_f ey4 hy4
  obtain ⟨x5, e5, ey4⟩ := bS ey4
  refine oG J hy4 (stp_loadN (us := [_, _]) ts50 J (Cells.box (id := 1) J 2 J)) J (ow_eff (.some J hy4) (uC 2 cf140 (fun w hw => c_s_KeyValid fl w a1 x5 e5) (yA J)) J ?_)
  rintro _ _ ⟨_, ⟨rfl, rfl⟩, rfl⟩
  refine oG J hy4 (stp_not J) J (oD (stp_pick_f J hy4 J) J ?_)
  obtain rfl := sI ey4
  exact ow_nil (jy 4 0)
 refine ow_nil (kw_nx (cH J H0 (fun H0 => ?_) (fun H0 => ?_)))
 ·refine sr (oS J (oS J (sr1 J (kR ?_))))
  obtain rfl := sI H0
  exact kr results137 (.cons (.tmp J) (.cons (.tmp J) (rT J))) [] ⟨J, J⟩
 obtain ⟨x7, e7, H0⟩ := bS H0
 refine ks (oB2 0 ts26 J (oB2 1 ts50 J (oE (uC 2 cf46 (fun w hw => c_s_l3Find fl w a0 a1 J (rp hr0_0 hw) J (rp hr0_1 hw) x7 e7) (yB J J)) J ?_)))
 rintro _ _ ⟨_, ⟨rfl, rfl⟩, rfl⟩
 refine oMTT J J J (oS J (sq J (oM J (oW J (nn (cH J H0 (fun H0 => ?_) (fun H0 => ?_)))))))
 ·refine sr (oM J (oS J (oS J (sr1 J (kR ?_)))))
  obtain rfl := sI H0
  exact kr results137 (.cons (.tmp J) (.cons (.tmp J) (rT J))) [] ⟨J, J⟩
 refine ks (oM J (oM J (oS J (oS J (sn J (cw_ret ?_))))))
 obtain rfl := sI H0
 exact kr results137 (.cons (.tmp J) (.cons (.tmp J) (rT J))) [] ⟨J, J⟩
end Go.Proofs.YtbfbfkpcabkchaaGreatDoor
