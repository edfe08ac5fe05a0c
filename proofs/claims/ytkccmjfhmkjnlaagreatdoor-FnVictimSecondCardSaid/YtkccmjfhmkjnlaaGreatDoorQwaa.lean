/- The walks: functions of the program return what their pure functions say. Printed by a program (gen.py). -/
import Derived.Test.YtkccmjfhmkjnlaaGreatDoorQp
import Derived.Test.YtkccmjfhmkjnlaaGreatDoorQt
import Derived.Test.YtkccmjfhmkjnlaaGreatDoorMan
import Derived.Test.YtkccmjfhmkjnlaaGreatDoorMap
import Derived.Test.YtkccmjfhmkjnlaaGreatDoorCpy
import Derived.Test.YtkccmjfhmkjnlaaGreatDoorQe
set_option linter.unusedSimpArgs false
set_option linter.unusedVariables false
set_option linter.unusedSectionVars false
namespace Go.Proofs.YtkccmjfhmkjnlaaGreatDoor
open Go.RowKit
set_option maxHeartbeats 4000000
set_option maxRecDepth 20000
variable {p0_0 p0_0_0 p0_1 p0_2 p0_3 p1_0 : Option Addr} {n0_0 n0_0_0 n0_1 n0_2 n0_3 n1_0 : Nat} {c0_0 c0_0_0 c0_1 c0_2 c0_3 c1_0 : Nat}
theorem c_s_l12Rd_pick (fl : Nat) (w : World) (m0 : Nat) (a0_0 : (List UInt8)) (a0_1 : Int) (a1 : Int) (hn0_0_0 : n0_0_0 = (a0_0).length) (hr0_0_0 : RO w (hkeys [(0, [(m0, .cells #[.slice p0_0_0 n0_0_0 c0_0_0, .int .i64 a0_1] 91 (0, 0))])]) (RdL p0_0_0 c0_0_0 a0_0)) (hM : Sat w (hkeys [(0, [(m0, .cells #[.slice p0_0_0 n0_0_0 c0_0_0, .int .i64 a0_1] 91 (0, 0))])]) w [(0, [(m0, .cells #[.slice p0_0_0 n0_0_0 c0_0_0, .int .i64 a0_1] 91 (0, 0))])]) (r : Int × Int) (H0 : s_l12Rd_pick fl a0_0 a0_1 a1 = some r) :
  Ct Tryz.prog 54 [.pointer (some ⟨m0, 0, none⟩), .int .i64 a1] w [(0, [(m0, .cells #[.slice p0_0_0 n0_0_0 c0_0_0, .int .i64 a0_1] 91 (0, 0))])] (fun rv h' => rv = .int .i64 r.1 ∧ h' = [(0, [(m0, .cells #[.slice p0_0_0 n0_0_0 c0_0_0, .int .i64 r.2] 91 (0, 0))])]) := by
 subst hn0_0_0
 unfold s_l12Rd_pick at H0
 refine ct_of_cw Tryz.func54 rfl Tryz.ntmps54 rfl hM ?_
 obtain ⟨x1, e1, H0⟩ := bS H0
 refine sr (oS rfl (nn (sr (oM rfl (oM rfl (oZ rfl (oA 1 Tryz.underlying91 rfl ts3 rfl (oL 0 ts3 rfl (oP e1 rfl (oZ rfl (oA 1 Tryz.underlying91 rfl ts3 rfl (oC2 0 ts3 rfl rfl (nn ?_)))))))))))))
 obtain ⟨y2, ey2, H0⟩ := bS H0
 refine cw_seq (sr (oM rfl (oW rfl (oM rfl (ow_cutY 7 24 y2 ?_ ?_)))))
 ·rcases Bool.eq_false_or_eq_true (decide (a1 < 1)) with hy2 | hy2
  ·have ey2 := cond_t ey2 hy2
   refine oO rfl hy2 rfl (oO rfl hy2 rfl (oO rfl hy2 rfl (oO rfl hy2 rfl (oO rfl hy2 rfl (oO rfl hy2 rfl (oD (stp_pick_t rfl hy2 rfl) rfl ?_))))))
   obtain rfl := sI ey2
   exact ow_nil (jy 7 0)
  have ey2 := cond_f ey2 hy2
  refine oG rfl hy2 (mv rfl) rfl (oG rfl hy2 (stp_nilCheck rfl) rfl (oG rfl hy2 (fA 0 Tryz.underlying91 rfl ts22 rfl rfl rfl) rfl (oG rfl hy2 (lB 0 ts22 rfl rfl rfl) rfl (oG rfl hy2 (stp_len Tryz.underlying22 rfl) rfl (oG rfl hy2 (stp_eql rfl rfl) rfl (oD (stp_pick_f rfl hy2 rfl) rfl ?_))))))
  obtain rfl := sI ey2
  exact ow_nil (jy 7 0)
 refine ow_nil (kw_nx (cw_cond rfl (fun h3 => ?_) (fun h3 => ?_)))
 ·have H0 := cond_t H0 h3
  refine sr (oS rfl (nn (cw_ret (kw_nx_ret ?_))))
  obtain rfl := sI H0
  exact kr Tryz.results54 (rT rfl) [0] ⟨rfl, rfl⟩
 have H0 := cond_f H0 h3
 obtain ⟨x4, e4, H0⟩ := bS H0
 refine cw_skip (kw_nx (sr (oM rfl (oZ rfl (oA 1 Tryz.underlying91 rfl ts3 rfl (oL 0 ts3 rfl (oD (stp_sub rfl rfl e4) rfl (oS rfl (nn (cw_seq (sr (oM rfl (oM rfl ?_)))))))))))))
 refine oZ rfl (oA 0 Tryz.underlying91 rfl ts22 rfl (oL 0 ts22 rfl (oD (stp_len Tryz.underlying22 rfl) rfl (oW rfl (nn (cw_cond rfl (fun h5 => ?_) (fun h5 => ?_)))))))
 ·have H0 := cond_t H0 h5
  obtain ⟨x6, e6, H0⟩ := bS H0
  obtain ⟨x7, e7, H0⟩ := bS H0
  obtain ⟨x8, e8, H0⟩ := bS H0
  refine sr (oM rfl (oZ rfl (oA 0 Tryz.underlying91 rfl ts22 rfl (oL 0 ts22 rfl (oM rfl (oD (stp_indexAddr Tryz.underlying22 ts5 (by decide) rfl rfl rfl (Rdb.ro hr0_0_0) e6) rfl (oD (stp_load1 ts5 rfl (Cells.el (Rdb.ro hr0_0_0) (by decide) e6 0 1 rfl)) rfl (oD (stp_convI Tryz.underlying5 Tryz.underlying3 rfl e7) rfl (oM rfl (oD (stp_rem rfl rfl e8) rfl (oS rfl (nn (cw_ret ?_)))))))))))))
  refine kw_nx_ret ?_
  obtain rfl := sI H0
  exact kr Tryz.results54 (rT rfl) [0] ⟨rfl, rfl⟩
 have H0 := cond_f H0 h5
 refine cw_skip (kw_nx (cw_seq (rdt g_mixed (rn 0 46) ⟨[[],[],[],[0],[],[],[],[],[0],[],[],[],[],[],[],[],[],[],[0],[],[],[],[],[],[],[0],[],[],[],[],[],[],[],[],[],[],[],[],[],[],[0]], [], []⟩ (dM rfl (dZ rfl (dA 0 rfl Tryz.underlying91 rfl ts22 rfl (dL 0 ts22 rfl (dM rfl (dM rfl (dZ rfl (dA 0 rfl Tryz.underlying91 rfl ts22 rfl (dL 0 ts22 rfl (dD rfl (stp_len Tryz.underlying22 rfl) ?_)))))))))))))
 obtain ⟨x9, e9, H0⟩ := bS H0
 obtain ⟨x10, e10, H0⟩ := bS H0
 obtain ⟨x11, e11, H0⟩ := bS H0
 obtain ⟨x12, e12, H0⟩ := bS H0
 obtain ⟨x13, e13, H0⟩ := bS H0
 obtain ⟨x14, e14, H0⟩ := bS H0
 refine dD rfl (stp_rem rfl rfl e9) (dD rfl (stp_indexAddr Tryz.underlying22 ts5 (by decide) rfl rfl rfl (Rdb.ro hr0_0_0) e10) (dD rfl (stp_load1 ts5 rfl (Cells.el (Rdb.ro hr0_0_0) (by decide) e10 0 1 rfl)) (dD rfl (stp_convI Tryz.underlying5 Tryz.underlying3 rfl e11) (dD rfl (stp_mul rfl rfl e12) (dM rfl (dZ rfl (dA 0 rfl Tryz.underlying91 rfl ts22 rfl (dL 0 ts22 rfl (dM rfl (dD rfl (stp_mul rfl rfl e13) (dP e14 rfl (dM rfl (dZ rfl ?_)))))))))))))
 obtain ⟨x15, e15, H0⟩ := bS H0
 obtain ⟨x16, e16, H0⟩ := bS H0
 obtain ⟨x17, e17, H0⟩ := bS H0
 obtain ⟨x18, e18, H0⟩ := bS H0
 obtain ⟨x19, e19, H0⟩ := bS H0
 obtain ⟨x20, e20, H0⟩ := bS H0
 obtain ⟨x21, e21, H0⟩ := bS H0
 refine dA 0 rfl Tryz.underlying91 rfl ts22 rfl (dL 0 ts22 rfl (dD rfl (stp_len Tryz.underlying22 rfl) (dD rfl (stp_rem rfl rfl e15) (dD rfl (stp_indexAddr Tryz.underlying22 ts5 (by decide) rfl rfl rfl (Rdb.ro hr0_0_0) e16) (dD rfl (stp_load1 ts5 rfl (Cells.el (Rdb.ro hr0_0_0) (by decide) e16 0 1 rfl)) (dD rfl (stp_convI Tryz.underlying5 Tryz.underlying3 rfl e17) (dD rfl (stp_mul rfl rfl e18) (dP e19 rfl (dM rfl (dD rfl (stp_mul rfl rfl e20) (dP e21 rfl (dM rfl (dM rfl ?_)))))))))))))
 obtain ⟨x22, e22, H0⟩ := bS H0
 obtain ⟨x23, e23, H0⟩ := bS H0
 obtain ⟨x24, e24, H0⟩ := bS H0
 obtain ⟨x25, e25, H0⟩ := bS H0
 refine dZ rfl (dA 0 rfl Tryz.underlying91 rfl ts22 rfl (dL 0 ts22 rfl (dD rfl (stp_len Tryz.underlying22 rfl) (dD rfl (stp_quo rfl rfl e22) (dD rfl (stp_mul rfl rfl e23) (dP e24 rfl (dS rfl (dn (kw_nx (sr (oM rfl (oM rfl (oD (stp_quo rfl rfl e25) rfl ?_)))))))))))))
 obtain ⟨x26, e26, H0⟩ := bS H0
 refine oD (stp_xor rfl rfl) rfl (oS rfl (nn (sr (oM rfl (oM rfl (oD (stp_rem rfl rfl e26) rfl (oS rfl (nn (cw_ret ?_)))))))))
 obtain rfl := sI H0
 exact kr Tryz.results54 (rT rfl) [0] ⟨rfl, rfl⟩

theorem c_s_l12Rd_num (fl : Nat) (w : World) (m0 : Nat) (a0_0 : (List UInt8)) (a0_1 : Int) (a1 : (List Int)) (hn0_0_0 : n0_0_0 = (a0_0).length) (hr0_0_0 : RO w (hkeys [(0, [(m0, .cells #[.slice p0_0_0 n0_0_0 c0_0_0, .int .i64 a0_1] 91 (0, 0))])]) (RdL p0_0_0 c0_0_0 a0_0)) (hn1_0 : n1_0 = (a1).length) (hr1_0 : RO w (hkeys [(0, [(m0, .cells #[.slice p0_0_0 n0_0_0 c0_0_0, .int .i64 a0_1] 91 (0, 0))])]) (RdL p1_0 c1_0 a1)) (hM : Sat w (hkeys [(0, [(m0, .cells #[.slice p0_0_0 n0_0_0 c0_0_0, .int .i64 a0_1] 91 (0, 0))])]) w [(0, [(m0, .cells #[.slice p0_0_0 n0_0_0 c0_0_0, .int .i64 a0_1] 91 (0, 0))])]) (r : Int × Int) (H0 : s_l12Rd_num fl a0_0 a0_1 a1 = some r) :
  Ct Tryz.prog 55 [.pointer (some ⟨m0, 0, none⟩), .slice p1_0 n1_0 c1_0] w [(0, [(m0, .cells #[.slice p0_0_0 n0_0_0 c0_0_0, .int .i64 a0_1] 91 (0, 0))])] (fun rv h' => rv = .int .i64 r.1 ∧ h' = [(0, [(m0, .cells #[.slice p0_0_0 n0_0_0 c0_0_0, .int .i64 r.2] 91 (0, 0))])]) := by
 subst hn0_0_0 hn1_0
 unfold s_l12Rd_num at H0
 refine ct_of_cw Tryz.func55 rfl Tryz.ntmps55 rfl hM ?_
 obtain ⟨x1, e1, H0⟩ := bS H0
 refine sr (oS rfl (nn (sr (oM rfl (oM rfl (oM rfl (oD (stp_len Tryz.underlying23 rfl) rfl (oE (stpU_callM (fun i => bif Nat.beq i 0 then 0 else 1 + i) cf54 (fun w hw hb => c_s_l12Rd_pick fl w m0 a0_0 a0_1 ((a1).length : Int) rfl (RO.passM hr0_0_0 hw hb) (hw.pass (js := [0]) ⟨0, [], rfl, rfl, trivial⟩ (by decide)) x1 e1) (yB rfl rfl) ⟨rfl, (fun _ _ hp => by obtain ⟨_, rfl⟩ := hp; exact ⟨_, rfl⟩), trivial⟩) rfl ?_))))))))
 rintro _ _ ⟨_, ⟨rfl, rfl⟩, rfl⟩
 obtain ⟨x2, e2, H0⟩ := bS H0
 refine oD (stp_indexAddr Tryz.underlying23 ts3 (by decide) rfl rfl rfl (Rdb.ro hr1_0) e2) rfl (oD (stp_load1 ts3 rfl (Cells.el (Rdb.ro hr1_0) (by decide) e2 0 1 rfl)) rfl (oS rfl (nn (cw_ret ?_))))
 obtain rfl := sI H0
 exact kr Tryz.results55 (rT rfl) [0] ⟨rfl, rfl⟩

theorem c_s_l2Buckets (fl : Nat) (w : World) (a0 : Int) (r : Bool) (H0 : s_l2Buckets fl a0 = some r) :
  Ct Tryz.prog 79 [.int .i64 a0] w [] (fun rv h' => rv = .bool r ∧ h' = []) := by
 unfold s_l2Buckets at H0
 refine ct_of_cw Tryz.func79 rfl Tryz.ntmps79 rfl (Sat.refl _ _) ?_
 obtain ⟨y1, ey1, H0⟩ := bS H0
 refine sr (oS rfl (nn (sr (oM rfl (oI rfl (oM rfl (ow_cutY 3 8 y1 ?_ ?_)))))))
 ·rcases Bool.eq_false_or_eq_true (decide (1 ≤ a0)) with hy1 | hy1
  ·have ey1 := cond_t ey1 hy1
   refine oG rfl hy1 (mv rfl) rfl (oG rfl hy1 (stp_leq rfl rfl) rfl (oD (stp_pick_t rfl hy1 rfl) rfl ?_))
   obtain rfl := sI ey1
   exact ow_nil (jy 3 0)
  have ey1 := cond_f ey1 hy1
  refine oO rfl hy1 rfl (oO rfl hy1 rfl (oD (stp_pick_f rfl hy1 rfl) rfl ?_))
  obtain rfl := sI ey1
  exact ow_nil (jy 3 0)
 refine oS rfl (nn (cw_ret ?_))
 obtain rfl := sI H0
 exact kr Tryz.results79 (rT rfl) [] ⟨rfl, rfl⟩

theorem c_s_NewTable (fl : Nat) (w : World) (a0 : Int) (a1 : Int) (r : T × Bool) (H0 : s_NewTable fl a0 a1 = some r) :
  Ct Tryz.prog 103 [.int .i64 a0, .int .i64 a1] w [] (fun rv h' => ∃ (x0 : Option Addr) (y0 z0 : Nat) (C0 : Res) (x1 : Option Addr) (y1 z1 : Nat) (C1 : Res), rv = .tuple #[.agg #[.slice x0 y0 z0, .slice x1 y1 z1], .bool r.2] ∧ h' = [(0, C0), (1, C1)] ∧ y0 = (r.1.b).length ∧ OwnC 3 x0 z0 r.1.b C0 ∧ y1 = (r.1.f).length ∧ OwnC 51 x1 z1 r.1.f C1) := by
 unfold s_NewTable at H0
 refine ct_of_cw Tryz.func103 rfl Tryz.ntmps103 rfl (Sat.refl _ _) ?_
 refine sr (oE (stpU_alloc 0 tz26 rfl) rfl ?_)
 rintro _ _ ⟨b1, rfl, rfl⟩
 obtain ⟨y2, ey2, H0⟩ := bS H0
 refine oS rfl (nn (cw_seq (sr (oM rfl (oW rfl (oM rfl (ow_cutY 3 14 y2 ?_ ?_)))))))
 ·rcases Bool.eq_false_or_eq_true (decide (a0 < 1)) with hy2 | hy2
  ·have ey2 := cond_t ey2 hy2
   refine oO rfl hy2 rfl (oO rfl hy2 rfl (oD (stp_pick_t rfl hy2 rfl) rfl ?_))
   obtain rfl := sI ey2
   exact ow_nil (jy 3 0)
  have ey2 := cond_f ey2 hy2
  refine oG rfl hy2 (mv rfl) rfl (oG rfl hy2 (stp_gtr rfl rfl) rfl (oD (stp_pick_f rfl hy2 rfl) rfl ?_))
  obtain rfl := sI ey2
  exact ow_nil (jy 3 0)
 obtain ⟨y3, ey3, H0⟩ := bS H0
 refine oM rfl (ow_cutY 4 19 y3 ?_ ?_)
 ·rcases Bool.eq_false_or_eq_true y2 with hy3 | hy3
  ·have ey3 := cond_t ey3 hy3
   refine oO rfl hy3 rfl (oO rfl hy3 rfl (oO rfl hy3 rfl (oD (stp_pick_t rfl hy3 rfl) rfl ?_)))
   obtain rfl := sI ey3
   exact ow_nil (jy 4 0)
  have ey3 := cond_f ey3 hy3
  obtain ⟨x4, e4, ey3⟩ := bS ey3
  refine oG rfl hy3 (mv rfl) rfl (ow_eff (.some rfl hy3) (stpU_call (fun i => 1 + i) cf79 (fun w hw => c_s_l2Buckets fl w a1 x4 e4) (yA rfl)) rfl ?_)
  rintro _ _ ⟨_, ⟨rfl, rfl⟩, rfl⟩
  refine oG rfl hy3 (stp_not rfl) rfl (oD (stp_pick_f rfl hy3 rfl) rfl ?_)
  obtain rfl := sI ey3
  exact ow_nil (jy 4 0)
 refine ow_nil (kw_nx (cw_cond rfl (fun h5 => ?_) (fun h5 => ?_)))
 ·have H0 := cond_t H0 h5
  refine sr (oD (stp_build (cs := #[.slice none 0 0, .slice none 0 0]) sevp_nil bt26_0) rfl (oC2 0 ts26 rfl rfl (oS rfl (nn (cw_ret (kw_nx_ret (kw_addNil 1 (kw_addNil 2 ?_))))))))
  obtain rfl := sI H0
  exact kr Tryz.results103 (.cons (.cellN (us := [_, _]) ts26 rfl (Cells.box (id := 0) rfl 2 rfl)) (rT rfl)) [1, 2] ⟨_, _, _, _, _, _, _, _, rfl, rfl, rfl, (OwnC.nil _ _), rfl, (OwnC.nil _ _)⟩
 have H0 := cond_f H0 h5
 refine cw_skip (kw_nx (sr (oD (stp_build (cs := #[.slice none 0 0, .slice none 0 0]) sevp_nil bt26_0) rfl (oE (stpU_alloc 3 tz26 rfl) rfl ?_))))
 rintro _ _ ⟨b6, rfl, rfl⟩
 obtain ⟨o0_0, eo0_0, H0⟩ := bS H0
 refine oC2 3 ts26 rfl rfl (nn (cw_seq (sr (oS rfl (nn (cw_addNil 4 (cw_join (ι := (List Int) × Int × Option Addr × Nat × Nat × Res) (fun | (v7, v12, p8, n9, c10, C11) => o0_0 = .out (v7, v12) ∧ n9 = (v7).length ∧ OwnC 3 p8 c10 v7 C11) (fun | (v7, v12, p8, n9, c10, C11) => [(0, .int .i64 a0), (1, .int .i64 a1), (4, .pointer (some ⟨b1, 0, none⟩)), (6, .pointer (some ⟨b6, 0, none⟩)), (7, .int .i64 v12)]) (fun | (v7, v12, p8, n9, c10, C11) => [(0, [(b1, .cells #[.slice none 0 0, .slice none 0 0] 26 (0, 0))]), (3, [(b6, .cells #[.slice p8 n9 c10, .slice none 0 0] 26 (0, 0))]), (1001, C11)]) ?_ ?_)))))))
 ·refine cw_block (cw_loopS (ι := Nat × (List Int) × Int × Option Addr × Nat × Nat × Res) (js := [0, 3, 4]) (fun x => x.1) (fun | (fuel, v7, v12, p8, n9, c10, C11) => s_NewTable_L0 fl a1 fuel v7 v12 = some o0_0 ∧ n9 = (v7).length ∧ OwnC 3 p8 c10 v7 C11) (fun | (_, v7, v12, p8, n9, c10, C11) => [(0, .int .i64 a0), (1, .int .i64 a1), (4, .pointer (some ⟨b1, 0, none⟩)), (6, .pointer (some ⟨b6, 0, none⟩)), (7, .int .i64 v12)]) (fun | (_, v7, v12, p8, n9, c10, C11) => [(0, [(b1, .cells #[.slice none 0 0, .slice none 0 0] 26 (0, 0))]), (3, [(b6, .cells #[.slice p8 n9 c10, .slice none 0 0] 26 (0, 0))]), (1001, C11)]) (fl, [], 0, none, 0, 0, []) ⟨eo0_0, rfl, (OwnC.nil _ _)⟩ ⟨rfl, rfl, rfl, rfl, rfl, trivial⟩ ⟨0, [3, 4], rfl, rfl, 3, [4], rfl, rfl, 4, [], rfl, rfl, trivial⟩ (by decide) ?_)
  rintro ⟨fuel, v7, v12, p8, _, c10, C11⟩ ⟨H1, rfl, o11⟩
  have H1 : s_NewTable_L0 fl a1 fuel v7 v12 = some o0_0 := H1
  rcases fuel with _ | fuel
  ·rw [s_NewTable_L0.eq_1] at H1; cases H1
  rw [s_NewTable_L0.eq_2] at H1
  dsimp only
  refine cw_seq (sr (oM rfl (oM rfl (oW rfl (nn (cw_cond rfl (fun h13 => ?_) (fun h13 => ?_)))))))
  ·have H1 := cond_t H1 h13
   refine cw_skip (kw_nx (cw_seq (cw_block (cw_region (oA 0 Tryz.underlying26 rfl ts23 rfl (oL 3 ts23 rfl (oE (stpU_lit (sz := 1) (l := [(-1)]) [.int .i64 (-1)] sl23 5 (sevp_cons rfl sevp_nil) rfl rfl rfl rfl rfl rfl rfl rfl rfl) rfl ?_)))))))
   rintro _ _ ⟨p14, C15, rfl, rfl, o15⟩
   obtain ⟨x16, e16, H1⟩ := bS H1
   refine oE (stpU_append sl23 rfl (id := 1001) rfl rfl rfl (by simp) rfl o11 (Rdb.own (id := 5) rfl o15) e16) rfl ?_
   rintro _ _ ⟨p17, c18, C19, rfl, rfl, o19⟩
   obtain ⟨x20, e20, H1⟩ := bS H1
   exact oA 0 Tryz.underlying26 rfl ts23 rfl (oC2 3 ts23 rfl rfl (ow_nil (kw_bl_normal (kw_nx (cw_region (oM rfl (oP e20 rfl (oS rfl (ow_nil (kw_lqS (js := [0, 3, 1001]) (fuel, x16, x20, p17, ((x16).length), c18, C19) ⟨H1, rfl, o19⟩ (Nat.lt_succ_self _) ⟨rfl, rfl, rfl, rfl, rfl, trivial⟩ ⟨0, [3, 1001], rfl, rfl, 3, [1001], rfl, rfl, 1001, [], rfl, rfl, trivial⟩ (by decide)))))))))))
  have H1 := cond_f H1 h13
  refine cw_exit (kw_nx_exit (kw_lq_exit (kw_bl ?_)))
  obtain rfl := sI H1
  exact kw_joinS (js := [0, 3, 1001]) (v7, v12, p8, ((v7).length), c10, C11) ⟨rfl, rfl, o11⟩ ⟨rfl, rfl, rfl, rfl, rfl, trivial⟩ ⟨0, [3, 1001], rfl, rfl, 3, [1001], rfl, rfl, 1001, [], rfl, rfl, trivial⟩ (by decide)
 rintro ⟨v7, v12, p8, _, c10, C11⟩ ⟨rfl, rfl, o11⟩
 dsimp only
 obtain ⟨o0_1, eo0_1, H0⟩ := bS H0
 refine kw_nx (cw_seq (sr (oS rfl (nn (cw_addNil 6 (cw_join (ι := (List F) × Int × Option Addr × Nat × Nat × Res) (fun | (v21, v26, p22, n23, c24, C25) => o0_1 = .out (v21, v26) ∧ n23 = (v21).length ∧ OwnC 51 p22 c24 v21 C25) (fun | (v21, v26, p22, n23, c24, C25) => [(0, .int .i64 a0), (4, .pointer (some ⟨b1, 0, none⟩)), (6, .pointer (some ⟨b6, 0, none⟩)), (8, .int .i64 v26)]) (fun | (v21, v26, p22, n23, c24, C25) => [(0, [(b1, .cells #[.slice none 0 0, .slice none 0 0] 26 (0, 0))]), (3, [(b6, .cells #[.slice p8 ((v7).length) c10, .slice p22 n23 c24] 26 (0, 0))]), (1001, C11), (1002, C25)]) ?_ ?_))))))
 ·refine cw_block (cw_loopS (ι := Nat × (List F) × Int × Option Addr × Nat × Nat × Res) (js := [0, 3, 1001, 6]) (fun x => x.1) (fun | (fuel, v21, v26, p22, n23, c24, C25) => s_NewTable_L1 fl a0 fuel v21 v26 = some o0_1 ∧ n23 = (v21).length ∧ OwnC 51 p22 c24 v21 C25) (fun | (_, v21, v26, p22, n23, c24, C25) => [(0, .int .i64 a0), (4, .pointer (some ⟨b1, 0, none⟩)), (6, .pointer (some ⟨b6, 0, none⟩)), (8, .int .i64 v26)]) (fun | (_, v21, v26, p22, n23, c24, C25) => [(0, [(b1, .cells #[.slice none 0 0, .slice none 0 0] 26 (0, 0))]), (3, [(b6, .cells #[.slice p8 ((v7).length) c10, .slice p22 n23 c24] 26 (0, 0))]), (1001, C11), (1002, C25)]) (fl, [], 0, none, 0, 0, []) ⟨eo0_1, rfl, (OwnC.nil _ _)⟩ ⟨rfl, rfl, rfl, rfl, trivial⟩ ⟨0, [3, 1001, 6], rfl, rfl, 3, [1001, 6], rfl, rfl, 1001, [6], rfl, rfl, 6, [], rfl, rfl, trivial⟩ (by decide) ?_)
  rintro ⟨fuel, v21, v26, p22, _, c24, C25⟩ ⟨H1, rfl, o25⟩
  have H1 : s_NewTable_L1 fl a0 fuel v21 v26 = some o0_1 := H1
  rcases fuel with _ | fuel
  ·rw [s_NewTable_L1.eq_1] at H1; cases H1
  rw [s_NewTable_L1.eq_2] at H1
  dsimp only
  refine cw_seq (sr (oM rfl (oM rfl (oW rfl (nn (cw_cond rfl (fun h27 => ?_) (fun h27 => ?_)))))))
  ·have H1 := cond_t H1 h27
   refine cw_skip (kw_nx (cw_seq (cw_block (cw_region (oA 1 Tryz.underlying26 rfl ts24 rfl (oL 3 ts24 rfl (oD (stp_build (cs := #[.bool false, .int .i64 0, .int .i64 0, .int .i64 0, .int .i64 (-1)]) (sevp_cons rfl sevp_nil) bt51_1) rfl (oE (stpU_lit (sz := 5) (l := [(⟨false, (⟨0, 0⟩ : K), 0, (-1)⟩ : F)]) [.agg #[.bool false, .int .i64 0, .int .i64 0, .int .i64 0, .int .i64 (-1)]] sl24 7 (sevp_cons rfl sevp_nil) rfl rfl rfl rfl rfl rfl rfl rfl rfl) rfl ?_))))))))
   rintro _ _ ⟨p28, C29, rfl, rfl, o29⟩
   obtain ⟨x30, e30, H1⟩ := bS H1
   refine oE (stpU_append sl24 rfl (id := 1002) rfl rfl rfl (by simp) rfl o25 (Rdb.own (id := 7) rfl o29) e30) rfl ?_
   rintro _ _ ⟨p31, c32, C33, rfl, rfl, o33⟩
   obtain ⟨x34, e34, H1⟩ := bS H1
   exact oA 1 Tryz.underlying26 rfl ts24 rfl (oC2 3 ts24 rfl rfl (ow_nil (kw_bl_normal (kw_nx (cw_region (oM rfl (oP e34 rfl (oS rfl (ow_nil (kw_lqS (js := [0, 3, 1001, 1002]) (fuel, x30, x34, p31, ((x30).length), c32, C33) ⟨H1, rfl, o33⟩ (Nat.lt_succ_self _) ⟨rfl, rfl, rfl, rfl, trivial⟩ ⟨0, [3, 1001, 1002], rfl, rfl, 3, [1001, 1002], rfl, rfl, 1001, [1002], rfl, rfl, 1002, [], rfl, rfl, trivial⟩ (by decide)))))))))))
  have H1 := cond_f H1 h27
  refine cw_exit (kw_nx_exit (kw_lq_exit (kw_bl ?_)))
  obtain rfl := sI H1
  exact kw_joinS (js := [0, 3, 1001, 1002]) (v21, v26, p22, ((v21).length), c24, C25) ⟨rfl, rfl, o25⟩ ⟨rfl, rfl, rfl, rfl, trivial⟩ ⟨0, [3, 1001, 1002], rfl, rfl, 3, [1001, 1002], rfl, rfl, 1001, [1002], rfl, rfl, 1002, [], rfl, rfl, trivial⟩ (by decide)
 rintro ⟨v21, v26, p22, _, c24, C25⟩ ⟨rfl, rfl, o25⟩
 dsimp only
 refine kw_nx (sr (oB2 3 ts26 rfl (oC2 0 ts26 rfl rfl (oS rfl (nn (cw_ret ?_))))))
 obtain rfl := sI H0
 exact kr Tryz.results103 (.cons (.cellN (us := [_, _]) ts26 rfl (Cells.box (id := 0) rfl 2 rfl)) (rT rfl)) [1001, 1002] ⟨_, _, _, _, _, _, _, _, rfl, rfl, rfl, o11, rfl, o25⟩

theorem c_s_NewCache (fl : Nat) (w : World) (a0 : Int) (r : Ca × Bool) (H0 : s_NewCache fl a0 = some r) :
  Ct Tryz.prog 104 [.int .i64 a0] w [] (fun rv h' => ∃ (x0 : Option Addr) (y0 z0 : Nat) (C0 : Res), rv = .tuple #[.agg #[.slice x0 y0 z0, .int .i64 r.1.h], .bool r.2] ∧ h' = [(0, C0)] ∧ y0 = (r.1.l).length ∧ OwnC 47 x0 z0 r.1.l C0) := by
 unfold s_NewCache at H0
 refine ct_of_cw Tryz.func104 rfl Tryz.ntmps104 rfl (Sat.refl _ _) ?_
 refine sr (oE (stpU_alloc 0 tz29 rfl) rfl ?_)
 rintro _ _ ⟨b1, rfl, rfl⟩
 obtain ⟨y2, ey2, H0⟩ := bS H0
 refine oS rfl (nn (cw_seq (sr (oM rfl (oW rfl (oM rfl (ow_cutY 3 9 y2 ?_ ?_)))))))
 ·rcases Bool.eq_false_or_eq_true (decide (a0 < 1)) with hy2 | hy2
  ·have ey2 := cond_t ey2 hy2
   refine oO rfl hy2 rfl (oO rfl hy2 rfl (oD (stp_pick_t rfl hy2 rfl) rfl ?_))
   obtain rfl := sI ey2
   exact ow_nil (jy 3 0)
  have ey2 := cond_f ey2 hy2
  refine oG rfl hy2 (mv rfl) rfl (oG rfl hy2 (stp_gtr rfl rfl) rfl (oD (stp_pick_f rfl hy2 rfl) rfl ?_))
  obtain rfl := sI ey2
  exact ow_nil (jy 3 0)
 refine ow_nil (kw_nx (cw_cond rfl (fun h3 => ?_) (fun h3 => ?_)))
 ·have H0 := cond_t H0 h3
  refine sr (oD (stp_build (cs := #[.slice none 0 0, .int .i64 0]) sevp_nil bt29_2) rfl (oC2 0 ts29 rfl rfl (oS rfl (nn (cw_ret (kw_nx_ret (kw_addNil 1 ?_)))))))
  obtain rfl := sI H0
  exact kr Tryz.results104 (.cons (.cellN (us := [_, _]) ts29 rfl (Cells.box (id := 0) rfl 2 rfl)) (rT rfl)) [1] ⟨_, _, _, _, rfl, rfl, rfl, (OwnC.nil _ _)⟩
 have H0 := cond_f H0 h3
 obtain ⟨x4, e4, H0⟩ := bS H0
 refine cw_skip (kw_nx (sr (oM rfl (oE (stpU_make sl27 rfl 2 rfl rfl e4) rfl ?_))))
 rintro _ _ ⟨p5, C6, rfl, rfl, o6⟩
 refine oD (stp_build (cs := #[.slice p5 x4 x4, .int .i64 0]) (sevp_cons rfl sevp_nil) bt29_3) rfl (oC2 0 ts29 rfl rfl (oS rfl (nn (cw_ret ?_))))
 obtain rfl := sI H0
 exact kr Tryz.results104 (.cons (.cellN (us := [_, _]) ts29 rfl (Cells.box (id := 0) rfl 2 rfl)) (rT rfl)) [2] ⟨_, _, _, _, rfl, rfl, (by simp), o6⟩

theorem c_s_NewTags (fl : Nat) (w : World) (a0 : Int) (r : Tg × Bool) (H0 : s_NewTags fl a0 = some r) :
  Ct Tryz.prog 105 [.int .i64 a0] w [] (fun rv h' => ∃ (x0 : Option Addr) (y0 z0 : Nat) (C0 : Res), rv = .tuple #[.agg #[.int .i64 r.1.c, .int .i64 r.1.n, .int .i64 r.1.r, .slice x0 y0 z0], .bool r.2] ∧ h' = [(0, C0)] ∧ y0 = (r.1.o).length ∧ OwnC 89 x0 z0 r.1.o C0) := by
 unfold s_NewTags at H0
 refine ct_of_cw Tryz.func105 rfl Tryz.ntmps105 rfl (Sat.refl _ _) ?_
 refine sr (oE (stpU_alloc 0 tz32 rfl) rfl ?_)
 rintro _ _ ⟨b1, rfl, rfl⟩
 obtain ⟨y2, ey2, H0⟩ := bS H0
 refine oS rfl (nn (cw_seq (sr (oM rfl (oW rfl (oM rfl (ow_cutY 3 9 y2 ?_ ?_)))))))
 ·rcases Bool.eq_false_or_eq_true (decide (a0 < 1)) with hy2 | hy2
  ·have ey2 := cond_t ey2 hy2
   refine oO rfl hy2 rfl (oO rfl hy2 rfl (oD (stp_pick_t rfl hy2 rfl) rfl ?_))
   obtain rfl := sI ey2
   exact ow_nil (jy 3 0)
  have ey2 := cond_f ey2 hy2
  refine oG rfl hy2 (mv rfl) rfl (oG rfl hy2 (stp_gtr rfl rfl) rfl (oD (stp_pick_f rfl hy2 rfl) rfl ?_))
  obtain rfl := sI ey2
  exact ow_nil (jy 3 0)
 refine ow_nil (kw_nx (cw_cond rfl (fun h3 => ?_) (fun h3 => ?_)))
 ·have H0 := cond_t H0 h3
  refine sr (oD (stp_build (cs := #[.int .i64 0, .int .i64 0, .int .i64 0, .slice none 0 0]) sevp_nil bt32_4) rfl (oC4 0 ts32 rfl rfl (oS rfl (nn (cw_ret (kw_nx_ret (kw_addNil 1 ?_)))))))
  obtain rfl := sI H0
  exact kr Tryz.results105 (.cons (.cellN (us := [_, _, _, _]) ts32 rfl (Cells.box (id := 0) rfl 4 rfl)) (rT rfl)) [1] ⟨_, _, _, _, rfl, rfl, rfl, (OwnC.nil _ _)⟩
 have H0 := cond_f H0 h3
 refine cw_skip (kw_nx (sr (oM rfl (oE (stpU_lit0 sl30 2) rfl ?_))))
 rintro _ _ ⟨p4, C5, rfl, rfl, o5⟩
 refine oD (stp_build (cs := #[.int .i64 a0, .int .i64 0, .int .i64 0, .slice p4 0 0]) (sevp_cons rfl (sevp_cons rfl sevp_nil)) bt32_5) rfl (oC4 0 ts32 rfl rfl (oS rfl (nn (cw_ret ?_))))
 obtain rfl := sI H0
 exact kr Tryz.results105 (.cons (.cellN (us := [_, _, _, _]) ts32 rfl (Cells.box (id := 0) rfl 4 rfl)) (rT rfl)) [2] ⟨_, _, _, _, rfl, rfl, (by simp), o5⟩

theorem c_s_l1Space (fl : Nat) (w : World) (a0 : Int) (r : Bool) (H0 : s_l1Space fl a0 = some r) :
  Ct Tryz.prog 84 [.int .i64 a0] w [] (fun rv h' => rv = .bool r ∧ h' = []) := by
 unfold s_l1Space at H0
 refine ct_of_cw Tryz.func84 rfl Tryz.ntmps84 rfl (Sat.refl _ _) ?_
 obtain ⟨y1, ey1, H0⟩ := bS H0
 refine sr (oS rfl (nn (sr (oM rfl (oI rfl (oM rfl (ow_cutY 3 8 y1 ?_ ?_)))))))
 ·rcases Bool.eq_false_or_eq_true (decide (0 ≤ a0)) with hy1 | hy1
  ·have ey1 := cond_t ey1 hy1
   refine oG rfl hy1 (mv rfl) rfl (oG rfl hy1 (stp_lss rfl rfl) rfl (oD (stp_pick_t rfl hy1 rfl) rfl ?_))
   obtain rfl := sI ey1
   exact ow_nil (jy 3 0)
  have ey1 := cond_f ey1 hy1
  refine oO rfl hy1 rfl (oO rfl hy1 rfl (oD (stp_pick_f rfl hy1 rfl) rfl ?_))
  obtain rfl := sI ey1
  exact ow_nil (jy 3 0)
 refine oS rfl (nn (cw_ret ?_))
 obtain rfl := sI H0
 exact kr Tryz.results84 (rT rfl) [] ⟨rfl, rfl⟩

theorem c_s_TagsValid (fl : Nat) (w : World) (a0 : Tg) (hn0_0 : n0_0 = (a0.o).length) (hr0_0 : RO w (hkeys []) (RdL p0_0 c0_0 a0.o)) (r : Bool) (H0 : s_TagsValid fl a0 = some r) :
  Ct Tryz.prog 45 [.agg #[.int .i64 a0.c, .int .i64 a0.n, .int .i64 a0.r, .slice p0_0 n0_0 c0_0]] w [] (fun rv h' => rv = .bool r ∧ h' = []) := by
 subst hn0_0
 unfold s_TagsValid at H0
 refine ct_of_cw Tryz.func45 rfl Tryz.ntmps45 rfl (Sat.refl _ _) ?_
 refine sr (oE (stpU_box 0 rfl rfl) rfl ?_)
 rintro _ _ ⟨b1, rfl, rfl⟩
 obtain ⟨y2, ey2, H0⟩ := bS H0
 refine oS rfl (nn (cw_seq (sr (oA 0 Tryz.underlying32 rfl ts3 rfl (oL 0 ts3 rfl (oW rfl (oM rfl (ow_cutY 4 13 y2 ?_ ?_))))))))
 ·rcases Bool.eq_false_or_eq_true (decide (a0.c < 1)) with hy2 | hy2
  ·have ey2 := cond_t ey2 hy2
   refine oO rfl hy2 rfl (oO rfl hy2 rfl (oO rfl hy2 rfl (oD (stp_pick_t rfl hy2 rfl) rfl ?_)))
   obtain rfl := sI ey2
   exact ow_nil (jy 4 0)
  have ey2 := cond_f ey2 hy2
  refine oG rfl hy2 (fA 0 Tryz.underlying32 rfl ts3 rfl rfl rfl) rfl (oG rfl hy2 (lB 0 ts3 rfl rfl rfl) rfl (oG rfl hy2 (stp_gtr rfl rfl) rfl (oD (stp_pick_f rfl hy2 rfl) rfl ?_)))
  obtain rfl := sI ey2
  exact ow_nil (jy 4 0)
 obtain ⟨y3, ey3, H0⟩ := bS H0
 refine oM rfl (ow_cutY 4 18 y3 ?_ ?_)
 ·rcases Bool.eq_false_or_eq_true y2 with hy3 | hy3
  ·have ey3 := cond_t ey3 hy3
   refine oO rfl hy3 rfl (oO rfl hy3 rfl (oO rfl hy3 rfl (oD (stp_pick_t rfl hy3 rfl) rfl ?_)))
   obtain rfl := sI ey3
   exact ow_nil (jy 4 0)
  have ey3 := cond_f ey3 hy3
  refine oG rfl hy3 (fA 1 Tryz.underlying32 rfl ts3 rfl rfl rfl) rfl (oG rfl hy3 (lB 0 ts3 rfl rfl rfl) rfl (oG rfl hy3 (stp_lss rfl rfl) rfl (oD (stp_pick_f rfl hy3 rfl) rfl ?_)))
  obtain rfl := sI ey3
  exact ow_nil (jy 4 0)
 obtain ⟨y4, ey4, H0⟩ := bS H0
 refine oM rfl (ow_cutY 6 25 y4 ?_ ?_)
 ·rcases Bool.eq_false_or_eq_true y3 with hy4 | hy4
  ·have ey4 := cond_t ey4 hy4
   refine oO rfl hy4 rfl (oO rfl hy4 rfl (oO rfl hy4 rfl (oO rfl hy4 rfl (oO rfl hy4 rfl (oD (stp_pick_t rfl hy4 rfl) rfl ?_)))))
   obtain rfl := sI ey4
   exact ow_nil (jy 6 0)
  have ey4 := cond_f ey4 hy4
  refine oG rfl hy4 (fA 1 Tryz.underlying32 rfl ts3 rfl rfl rfl) rfl (oG rfl hy4 (lB 0 ts3 rfl rfl rfl) rfl (oG rfl hy4 (fA 0 Tryz.underlying32 rfl ts3 rfl rfl rfl) rfl (oG rfl hy4 (lB 0 ts3 rfl rfl rfl) rfl (oG rfl hy4 (stp_gtr rfl rfl) rfl (oD (stp_pick_f rfl hy4 rfl) rfl ?_)))))
  obtain rfl := sI ey4
  exact ow_nil (jy 6 0)
 obtain ⟨y5, ey5, H0⟩ := bS H0
 refine oM rfl (ow_cutY 4 30 y5 ?_ ?_)
 ·rcases Bool.eq_false_or_eq_true y4 with hy5 | hy5
  ·have ey5 := cond_t ey5 hy5
   refine oO rfl hy5 rfl (oO rfl hy5 rfl (oO rfl hy5 rfl (oD (stp_pick_t rfl hy5 rfl) rfl ?_)))
   obtain rfl := sI ey5
   exact ow_nil (jy 4 0)
  have ey5 := cond_f ey5 hy5
  refine oG rfl hy5 (fA 2 Tryz.underlying32 rfl ts3 rfl rfl rfl) rfl (oG rfl hy5 (lB 0 ts3 rfl rfl rfl) rfl (oG rfl hy5 (stp_lss rfl rfl) rfl (oD (stp_pick_f rfl hy5 rfl) rfl ?_)))
  obtain rfl := sI ey5
  exact ow_nil (jy 4 0)
 obtain ⟨y6, ey6, H0⟩ := bS H0
 refine oM rfl (ow_cutY 4 35 y6 ?_ ?_)
 ·rcases Bool.eq_false_or_eq_true y5 with hy6 | hy6
  ·have ey6 := cond_t ey6 hy6
   refine oO rfl hy6 rfl (oO rfl hy6 rfl (oO rfl hy6 rfl (oD (stp_pick_t rfl hy6 rfl) rfl ?_)))
   obtain rfl := sI ey6
   exact ow_nil (jy 4 0)
  have ey6 := cond_f ey6 hy6
  refine oG rfl hy6 (fA 2 Tryz.underlying32 rfl ts3 rfl rfl rfl) rfl (oG rfl hy6 (lB 0 ts3 rfl rfl rfl) rfl (oG rfl hy6 (stp_gtr rfl rfl) rfl (oD (stp_pick_f rfl hy6 rfl) rfl ?_)))
  obtain rfl := sI ey6
  exact ow_nil (jy 4 0)
 obtain ⟨y7, ey7, H0⟩ := bS H0
 refine oM rfl (ow_cutY 7 43 y7 ?_ ?_)
 ·rcases Bool.eq_false_or_eq_true y6 with hy7 | hy7
  ·have ey7 := cond_t ey7 hy7
   refine oO rfl hy7 rfl (oO rfl hy7 rfl (oO rfl hy7 rfl (oO rfl hy7 rfl (oO rfl hy7 rfl (oO rfl hy7 rfl (oD (stp_pick_t rfl hy7 rfl) rfl ?_))))))
   obtain rfl := sI ey7
   exact ow_nil (jy 7 0)
  have ey7 := cond_f ey7 hy7
  refine oG rfl hy7 (fA 3 Tryz.underlying32 rfl ts30 rfl rfl rfl) rfl (oG rfl hy7 (lB 0 ts30 rfl rfl rfl) rfl (oG rfl hy7 (stp_len Tryz.underlying30 rfl) rfl (oG rfl hy7 (fA 1 Tryz.underlying32 rfl ts3 rfl rfl rfl) rfl (oG rfl hy7 (lB 0 ts3 rfl rfl rfl) rfl (oG rfl hy7 (stp_gtr rfl rfl) rfl (oD (stp_pick_f rfl hy7 rfl) rfl ?_))))))
  obtain rfl := sI ey7
  exact ow_nil (jy 7 0)
 refine ow_nil (kw_nx (cw_cond rfl (fun h8 => ?_) (fun h8 => ?_)))
 ·have H0 := cond_t H0 h8
  refine sr (oS rfl (nn (cw_ret (kw_nx_ret ?_))))
  obtain rfl := sI H0
  exact kr Tryz.results45 (rT rfl) [] ⟨rfl, rfl⟩
 have H0 := cond_f H0 h8
 obtain ⟨o0_0, eo0_0, H0⟩ := bS H0
 refine cw_skip (kw_nx (cw_seq (sr (oS rfl (nn (cw_join (ι := Int) (fun | v9 => o0_0 = .out v9) (fun | v9 => [(1, .pointer (some ⟨b1, 0, none⟩)), (3, .int .i64 v9)]) (fun | v9 => [(0, [(b1, .cells #[.int .i64 a0.c, .int .i64 a0.n, .int .i64 a0.r, .slice p0_0 ((a0.o).length) c0_0] 32 (0, 0))])]) ?_ ?_))))))
 ·refine cw_block (cw_loopS (ι := Nat × Int) (js := [0]) (fun x => x.1) (fun | (fuel, v9) => s_TagsValid_L0 fl a0 fuel v9 = some o0_0) (fun | (_, v9) => [(1, .pointer (some ⟨b1, 0, none⟩)), (3, .int .i64 v9)]) (fun | (_, v9) => [(0, [(b1, .cells #[.int .i64 a0.c, .int .i64 a0.n, .int .i64 a0.r, .slice p0_0 ((a0.o).length) c0_0] 32 (0, 0))])]) (fl, 0) eo0_0 ⟨rfl, rfl, trivial⟩ ⟨0, [], rfl, rfl, trivial⟩ (by decide) ?_)
  rintro ⟨fuel, v9⟩ H1
  have H1 : s_TagsValid_L0 fl a0 fuel v9 = some o0_0 := H1
  rcases fuel with _ | fuel
  ·rw [s_TagsValid_L0.eq_1] at H1; cases H1
  rw [s_TagsValid_L0.eq_2] at H1
  dsimp only
  refine cw_seq (sr (oM rfl (oA 3 Tryz.underlying32 rfl ts30 rfl (oL 0 ts30 rfl (oD (stp_len Tryz.underlying30 rfl) rfl (oW rfl (nn (cw_cond rfl (fun h10 => ?_) (fun h10 => ?_)))))))))
  ·have H1 := cond_t H1 h10
   obtain ⟨x11, e11, H1⟩ := bS H1
   refine cw_skip (kw_nx (cw_seq (cw_block (sr (oA 3 Tryz.underlying32 rfl ts30 rfl (oL 0 ts30 rfl (oM rfl (oD (stp_indexAddr Tryz.underlying30 ts89 (by decide) rfl rfl rfl (Rdb.ro hr0_0) e11) rfl (oD (stp_loadN (us := [_, _]) ts89 rfl (Cells.el (Rdb.ro hr0_0) (by decide) e11 0 2 rfl)) rfl (oE (stpU_alloc 1 tz89 rfl) rfl ?_))))))))))
   rintro _ _ ⟨b12, rfl, rfl⟩
   obtain ⟨x13, e13, H1⟩ := bS H1
   obtain ⟨y14, ey14, H1⟩ := bS H1
   refine oC2 1 ts89 rfl rfl (nn (cw_seq (cw_seq (rdt g_mixed (rn 0 32) ⟨[[],[1],[],[],[],[],[1],[],[],[],[],[1],[],[0],[],[],[],[],[],[],[],[0],[],[],[],[],[],[],[1]], [], []⟩ (dA 0 rfl Tryz.underlying89 rfl ts3 rfl (dL 1 ts3 rfl (dV rfl (fun hh => stpU_call (fun i => 2 + i) cf84 (fun w hw => c_s_l1Space fl w x11.sp x13 e13) (yA rfl)) rfl (dK rfl (dM rfl (dcY 4 64 y14 ?_ ?_))))))))))
   ·rcases Bool.eq_false_or_eq_true (!x13) with hy14 | hy14
    ·have ey14 := cond_t ey14 hy14
     refine dO rfl hy14 (dO rfl hy14 (dO rfl hy14 (dD rfl (stp_pick_t rfl hy14 rfl) ?_)))
     obtain rfl := sI ey14
     exact dy 4 0
    have ey14 := cond_f ey14 hy14
    refine dG rfl hy14 (fA 1 Tryz.underlying89 rfl ts3 rfl rfl rfl) (dG rfl hy14 (lB 1 ts3 rfl rfl rfl) (dG rfl hy14 (stp_lss rfl rfl) (dD rfl (stp_pick_f rfl hy14 rfl) ?_)))
    obtain rfl := sI ey14
    exact dy 4 0
   obtain ⟨y15, ey15, H1⟩ := bS H1
   refine dM rfl (dcY 6 71 y15 ?_ ?_)
   ·rcases Bool.eq_false_or_eq_true y14 with hy15 | hy15
    ·have ey15 := cond_t ey15 hy15
     refine dO rfl hy15 (dO rfl hy15 (dO rfl hy15 (dO rfl hy15 (dO rfl hy15 (dD rfl (stp_pick_t rfl hy15 rfl) ?_)))))
     obtain rfl := sI ey15
     exact dy 6 0
    have ey15 := cond_f ey15 hy15
    refine dG rfl hy15 (fA 1 Tryz.underlying89 rfl ts3 rfl rfl rfl) (dG rfl hy15 (lB 1 ts3 rfl rfl rfl) (dG rfl hy15 (fA 1 Tryz.underlying32 rfl ts3 rfl rfl rfl) (dG rfl hy15 (lB 0 ts3 rfl rfl rfl) (dG rfl hy15 (stp_geq rfl rfl) (dD rfl (stp_pick_f rfl hy15 rfl) ?_)))))
    obtain rfl := sI ey15
    exact dy 6 0
   obtain ⟨y16, ey16, H1⟩ := bS H1
   refine dM rfl (dcY 15 87 y16 ?_ ?_)
   ·rcases Bool.eq_false_or_eq_true y15 with hy16 | hy16
    ·have ey16 := cond_t ey16 hy16
     refine dO rfl hy16 (dO rfl hy16 (dO rfl hy16 (dX rfl (dX rfl (dX rfl (dX rfl (dX rfl (dX rfl (dX rfl (dX rfl (dX rfl (dX rfl (dO rfl hy16 ?_)))))))))))))
     refine dD rfl (stp_pick_t rfl hy16 rfl) ?_
     obtain rfl := sI ey16
     exact dy 15 0
    have ey16 := cond_f ey16 hy16
    obtain ⟨y17, ey17, ey16⟩ := bS ey16
    refine dG rfl hy16 (mv rfl) (dG rfl hy16 (stp_gtr rfl rfl) (dG rfl hy16 (mv rfl) (dcJ 11 86 y17 ?_ ?_)))
    ·rcases Bool.eq_false_or_eq_true (decide (0 < v9)) with hy17 | hy17
     ·have ey17 := cond_t ey17 hy17
      obtain ⟨x18, e18, ey17⟩ := bS ey17
      obtain ⟨x19, e19, ey17⟩ := bS ey17
      refine dG rfl hy17 (fA 3 Tryz.underlying32 rfl ts30 rfl rfl rfl) (dG rfl hy17 (lB 0 ts30 rfl rfl rfl) (dG rfl hy17 (mv rfl) (dG rfl hy17 (stp_sub rfl rfl e18) (dG rfl hy17 (stp_indexAddr Tryz.underlying30 ts89 (by decide) rfl rfl rfl (Rdb.ro hr0_0) e19) (dG rfl hy17 (fA 1 Tryz.underlying89 rfl ts3 rfl rfl rfl) (dG rfl hy17 (stp_load1 ts3 rfl (Cells.el (Rdb.ro hr0_0) (by decide) e19 1 1 rfl)) (dG rfl hy17 (fA 1 Tryz.underlying89 rfl ts3 rfl rfl rfl) (dG rfl hy17 (lB 1 ts3 rfl rfl rfl) (dG rfl hy17 (stp_geq rfl rfl) (dG rfl hy16 (stp_pick_t rfl hy17 rfl) ?_))))))))))
      obtain rfl := sI ey17
      exact dy 11 0
     have ey17 := cond_f ey17 hy17
     refine dO rfl hy17 (dO rfl hy17 (dO rfl hy17 (dO rfl hy17 (dO rfl hy17 (dO rfl hy17 (dO rfl hy17 (dO rfl hy17 (dO rfl hy17 (dO rfl hy17 (dG rfl hy16 (stp_pick_f rfl hy17 rfl) ?_))))))))))
     obtain rfl := sI ey17
     exact dy 11 0
    refine dD rfl (stp_pick_f rfl hy16 rfl) ?_
    obtain rfl := sI ey16
    exact dy 5 0
   refine dn (kw_nx (cw_cond rfl (fun h20 => ?_) (fun h20 => ?_)))
   ·have H1 := cond_t H1 h20
    refine sr (oS rfl (nn (cw_ret (kw_nx_ret (kw_bl_ret (kw_nx_ret (kw_lq_ret (kw_bl_ret (kw_join_ret (kw_nx_ret ?_))))))))))
    obtain rfl := sI H1
    obtain rfl := sI H0
    exact kr Tryz.results45 (rT rfl) [] ⟨rfl, rfl⟩
   have H1 := cond_f H1 h20
   obtain ⟨o1_1, eo1_1, H1⟩ := bS H1
   refine cw_skip (kw_nx (sr (oS rfl (nn (cw_join (ι := Int) (fun | v21 => o1_1 = .out v21) (fun | v21 => [(1, .pointer (some ⟨b1, 0, none⟩)), (3, .int .i64 v9), (4, .pointer (some ⟨b12, 0, none⟩)), (5, .int .i64 v21)]) (fun | v21 => [(0, [(b1, .cells #[.int .i64 a0.c, .int .i64 a0.n, .int .i64 a0.r, .slice p0_0 ((a0.o).length) c0_0] 32 (0, 0))]), (1, [(b12, .cells #[.int .i64 x11.sp, .int .i64 x11.tg] 89 (0, 0))])]) ?_ ?_)))))
   ·refine cw_block (cw_loopS (ι := Nat × Int) (js := [0, 1]) (fun x => x.1) (fun | (fuel, v21) => s_TagsValid_L1 fl a0 v9 x11 fuel v21 = some o1_1) (fun | (_, v21) => [(1, .pointer (some ⟨b1, 0, none⟩)), (3, .int .i64 v9), (4, .pointer (some ⟨b12, 0, none⟩)), (5, .int .i64 v21)]) (fun | (_, v21) => [(0, [(b1, .cells #[.int .i64 a0.c, .int .i64 a0.n, .int .i64 a0.r, .slice p0_0 ((a0.o).length) c0_0] 32 (0, 0))]), (1, [(b12, .cells #[.int .i64 x11.sp, .int .i64 x11.tg] 89 (0, 0))])]) (fl, 0) eo1_1 ⟨rfl, rfl, rfl, rfl, trivial⟩ ⟨0, [1], rfl, rfl, 1, [], rfl, rfl, trivial⟩ (by decide) ?_)
    rintro ⟨fuel, v21⟩ H2
    have H2 : s_TagsValid_L1 fl a0 v9 x11 fuel v21 = some o1_1 := H2
    rcases fuel with _ | fuel
    ·rw [s_TagsValid_L1.eq_1] at H2; cases H2
    rw [s_TagsValid_L1.eq_2] at H2
    dsimp only
    refine cw_seq (sr (oM rfl (oM rfl (oW rfl (nn (cw_cond rfl (fun h22 => ?_) (fun h22 => ?_)))))))
    ·have H2 := cond_t H2 h22
     obtain ⟨x23, e23, H2⟩ := bS H2
     refine cw_skip (kw_nx (cw_seq (cw_block (cw_seq (rdt g_mixed (rn 0 9) ⟨[[],[0],[],[],[],[],[],[1]], [], []⟩ (dA 3 rfl Tryz.underlying32 rfl ts30 rfl (dL 0 ts30 rfl (dM rfl (dD rfl (stp_indexAddr Tryz.underlying30 ts89 (by decide) rfl rfl rfl (Rdb.ro hr0_0) e23) (dA 0 rfl Tryz.underlying89 rfl ts3 rfl (dD rfl (stp_load1 ts3 rfl (Cells.el (Rdb.ro hr0_0) (by decide) e23 0 1 rfl)) (dA 0 rfl Tryz.underlying89 rfl ts3 rfl (dL 1 ts3 rfl ?_)))))))))))))
     refine dQ rfl (dn (kw_nx (cw_cond rfl (fun h24 => ?_) (fun h24 => ?_))))
     ·have H2 := cond_t H2 h24
      refine sr (oS rfl (nn (cw_ret (kw_bl_ret (kw_nx_ret (kw_lq_ret (kw_bl_ret (kw_join_ret (kw_bl_ret (kw_nx_ret (kw_lq_ret (kw_bl_ret (kw_join_ret ?_)))))))))))))
      refine kw_nx_ret ?_
      obtain rfl := sI H2
      obtain rfl := sI H1
      obtain rfl := sI H0
      exact kr Tryz.results45 (rT rfl) [] ⟨rfl, rfl⟩
     have H2 := cond_f H2 h24
     obtain ⟨x25, e25, H2⟩ := bS H2
     exact cw_skip (kw_bl_normal (kw_nx (cw_region (oM rfl (oP e25 rfl (oS rfl (ow_nil (kw_lqS (js := [0, 1]) (fuel, x25) H2 (Nat.lt_succ_self _) ⟨rfl, rfl, rfl, rfl, trivial⟩ ⟨0, [1], rfl, rfl, 1, [], rfl, rfl, trivial⟩ (by decide)))))))))
    have H2 := cond_f H2 h22
    refine cw_exit (kw_nx_exit (kw_lq_exit (kw_bl ?_)))
    obtain rfl := sI H2
    exact kw_joinS (js := [0, 1]) v21 rfl ⟨rfl, rfl, rfl, rfl, trivial⟩ ⟨0, [1], rfl, rfl, 1, [], rfl, rfl, trivial⟩ (by decide)
   rintro v21 rfl
   dsimp only
   obtain ⟨x26, e26, H1⟩ := bS H1
   exact kw_bl_normal (kw_nx (cw_region (oM rfl (oP e26 rfl (oS rfl (ow_nil (kw_lqS (js := [0]) (fuel, x26) H1 (Nat.lt_succ_self _) ⟨rfl, rfl, trivial⟩ ⟨0, [], rfl, rfl, trivial⟩ (by decide))))))))
  have H1 := cond_f H1 h10
  refine cw_exit (kw_nx_exit (kw_lq_exit (kw_bl ?_)))
  obtain rfl := sI H1
  exact kw_joinS (js := [0]) v9 rfl ⟨rfl, rfl, trivial⟩ ⟨0, [], rfl, rfl, trivial⟩ (by decide)
 rintro v9 rfl
 dsimp only
 refine kw_nx (sr (oS rfl (nn (cw_ret ?_))))
 obtain rfl := sI H0
 exact kr Tryz.results45 (rT rfl) [] ⟨rfl, rfl⟩

theorem c_s_l5Copy (fl : Nat) (w : World) (a0 : Tg) (hn0_0 : n0_0 = (a0.o).length) (hr0_0 : RO w (hkeys []) (RdL p0_0 c0_0 a0.o)) (r : Tg) (H0 : s_l5Copy fl a0 = some r) :
  Ct Tryz.prog 68 [.agg #[.int .i64 a0.c, .int .i64 a0.n, .int .i64 a0.r, .slice p0_0 n0_0 c0_0]] w [] (fun rv h' => ∃ (x0 : Option Addr) (y0 z0 : Nat) (C0 : Res), rv = .agg #[.int .i64 r.c, .int .i64 r.n, .int .i64 r.r, .slice x0 y0 z0] ∧ h' = [(0, C0)] ∧ y0 = (r.o).length ∧ OwnC 89 x0 z0 r.o C0) := by
 subst hn0_0
 unfold s_l5Copy at H0
 refine ct_of_cw Tryz.func68 rfl Tryz.ntmps68 rfl (Sat.refl _ _) ?_
 refine sr (oE (stpU_box 0 rfl rfl) rfl ?_)
 rintro _ _ ⟨b1, rfl, rfl⟩
 refine oE (stpU_alloc 1 tz32 rfl) rfl ?_
 rintro _ _ ⟨b2, rfl, rfl⟩
 refine nn (cw_seq (rdt g_mixed [.n 0, .n 1, .n 2, .n 3, .n 4, .n 5, .n 7, .n 8, .n 6, .n 9, .n 10, .n 11] ⟨[[],[0],[],[0],[],[0],[],[],[0],[2],[],[1]], [[],[],[],[],[],[],[2],[],[],[2],[],[1]], [6,9]⟩ (dA 0 rfl Tryz.underlying32 rfl ts3 rfl (dL 0 ts3 rfl (dA 1 rfl Tryz.underlying32 rfl ts3 rfl (dL 0 ts3 rfl (dA 2 rfl Tryz.underlying32 rfl ts3 rfl (dL 0 ts3 rfl (dA 3 rfl Tryz.underlying32 rfl ts30 rfl (dL 0 ts30 rfl (dE rfl (fun hh => stpU_lit0 sl30 2) ?_)))))))))))
 rintro _ _ ⟨p3, C4, rfl, rfl, o4⟩
 obtain ⟨x5, e5, H0⟩ := bS H0
 refine dk rfl (dE rfl (fun hh => stpU_append sl30 rfl (id := 2) rfl (by simp) rfl rfl (hh _ _ rfl) o4 (Rdb.ro hr0_0) e5) ?_)
 rintro _ _ ⟨p6, c7, C8, rfl, rfl, o8⟩
 refine dk rfl (dD rfl (stp_build (cs := #[.int .i64 a0.c, .int .i64 a0.n, .int .i64 a0.r, .slice p6 ((x5).length) c7]) (sevp_cons rfl (sevp_cons rfl (sevp_cons rfl (sevp_cons rfl sevp_nil)))) bt32_7) (dC4 1 ts32 rfl rfl rfl (dn (kw_nx (cw_ret ?_)))))
 obtain rfl := sI H0
 exact kr Tryz.results68 (rC4 1 ts32 rfl rfl) [2] ⟨_, _, _, _, rfl, rfl, rfl, o8⟩

theorem c_s_l5Find (fl : Nat) (w : World) (a0 : Tg) (a1 : Int) (hn0_0 : n0_0 = (a0.o).length) (hr0_0 : RO w (hkeys []) (RdL p0_0 c0_0 a0.o)) (r : Int) (H0 : s_l5Find fl a0 a1 = some r) :
  Ct Tryz.prog 46 [.agg #[.int .i64 a0.c, .int .i64 a0.n, .int .i64 a0.r, .slice p0_0 n0_0 c0_0], .int .i64 a1] w [] (fun rv h' => rv = .int .i64 r ∧ h' = []) := by
 subst hn0_0
 unfold s_l5Find at H0
 refine ct_of_cw Tryz.func46 rfl Tryz.ntmps46 rfl (Sat.refl _ _) ?_
 refine sr (oE (stpU_box 0 rfl rfl) rfl ?_)
 rintro _ _ ⟨b1, rfl, rfl⟩
 obtain ⟨o0_0, eo0_0, H0⟩ := bS H0
 refine oS rfl (nn (cw_seq (sr (oS rfl (nn (cw_join (ι := Int) (fun | v2 => o0_0 = .out v2) (fun | v2 => [(1, .int .i64 a1), (2, .pointer (some ⟨b1, 0, none⟩)), (5, .int .i64 v2)]) (fun | v2 => [(0, [(b1, .cells #[.int .i64 a0.c, .int .i64 a0.n, .int .i64 a0.r, .slice p0_0 ((a0.o).length) c0_0] 32 (0, 0))])]) ?_ ?_))))))
 ·refine cw_block (cw_loopS (ι := Nat × Int) (js := [0]) (fun x => x.1) (fun | (fuel, v2) => s_l5Find_L0 fl a0 a1 fuel v2 = some o0_0) (fun | (_, v2) => [(1, .int .i64 a1), (2, .pointer (some ⟨b1, 0, none⟩)), (5, .int .i64 v2)]) (fun | (_, v2) => [(0, [(b1, .cells #[.int .i64 a0.c, .int .i64 a0.n, .int .i64 a0.r, .slice p0_0 ((a0.o).length) c0_0] 32 (0, 0))])]) (fl, 0) eo0_0 ⟨rfl, rfl, rfl, trivial⟩ ⟨0, [], rfl, rfl, trivial⟩ (by decide) ?_)
  rintro ⟨fuel, v2⟩ H1
  have H1 : s_l5Find_L0 fl a0 a1 fuel v2 = some o0_0 := H1
  rcases fuel with _ | fuel
  ·rw [s_l5Find_L0.eq_1] at H1; cases H1
  rw [s_l5Find_L0.eq_2] at H1
  dsimp only
  refine cw_seq (sr (oM rfl (oA 3 Tryz.underlying32 rfl ts30 rfl (oL 0 ts30 rfl (oD (stp_len Tryz.underlying30 rfl) rfl (oW rfl (nn (cw_cond rfl (fun h3 => ?_) (fun h3 => ?_)))))))))
  ·have H1 := cond_t H1 h3
   obtain ⟨x4, e4, H1⟩ := bS H1
   refine cw_skip (kw_nx (cw_seq (cw_block (sr (oA 3 Tryz.underlying32 rfl ts30 rfl (oL 0 ts30 rfl (oM rfl (oD (stp_indexAddr Tryz.underlying30 ts89 (by decide) rfl rfl rfl (Rdb.ro hr0_0) e4) rfl (oA 0 Tryz.underlying89 rfl ts3 rfl (oD (stp_load1 ts3 rfl (Cells.el (Rdb.ro hr0_0) (by decide) e4 0 1 rfl)) rfl (oM rfl (oQ rfl (nn ?_)))))))))))))
   refine cw_cond rfl (fun h5 => ?_) (fun h5 => ?_)
   ·have H1 := cond_t H1 h5
    refine sr (oM rfl (oS rfl (nn (cw_ret (kw_bl_ret (kw_nx_ret (kw_lq_ret (kw_bl_ret (kw_join_ret (kw_nx_ret ?_))))))))))
    obtain rfl := sI H1
    obtain rfl := sI H0
    exact kr Tryz.results46 (rT rfl) [] ⟨rfl, rfl⟩
   have H1 := cond_f H1 h5
   obtain ⟨x6, e6, H1⟩ := bS H1
   exact cw_skip (kw_bl_normal (kw_nx (cw_region (oM rfl (oP e6 rfl (oS rfl (ow_nil (kw_lqS (js := [0]) (fuel, x6) H1 (Nat.lt_succ_self _) ⟨rfl, rfl, rfl, trivial⟩ ⟨0, [], rfl, rfl, trivial⟩ (by decide)))))))))
  have H1 := cond_f H1 h3
  refine cw_exit (kw_nx_exit (kw_lq_exit (kw_bl ?_)))
  obtain rfl := sI H1
  exact kw_joinS (js := [0]) v2 rfl ⟨rfl, rfl, rfl, trivial⟩ ⟨0, [], rfl, rfl, trivial⟩ (by decide)
 rintro v2 rfl
 dsimp only
 refine kw_nx (sr (oS rfl (nn (cw_ret ?_))))
 obtain rfl := sI H0
 exact kr Tryz.results46 (rT rfl) [] ⟨rfl, rfl⟩

theorem c_s_TakeTag (fl : Nat) (w : World) (a0 : Tg) (a1 : Int) (hn0_0 : n0_0 = (a0.o).length) (hr0_0 : RO w (hkeys []) (RdL p0_0 c0_0 a0.o)) (r : Tg × Int × Bool × Bool) (H0 : s_TakeTag fl a0 a1 = some r) :
  Ct Tryz.prog 106 [.agg #[.int .i64 a0.c, .int .i64 a0.n, .int .i64 a0.r, .slice p0_0 n0_0 c0_0], .int .i64 a1] w [] (fun rv h' => ∃ (x0 : Option Addr) (y0 z0 : Nat) (C0 : Res), rv = .tuple #[.agg #[.int .i64 r.1.c, .int .i64 r.1.n, .int .i64 r.1.r, .slice x0 y0 z0], .int .i64 r.2.1, .bool r.2.2.1, .bool r.2.2.2] ∧ h' = [(0, C0)] ∧ y0 = (r.1.o).length ∧ OwnC 89 x0 z0 r.1.o C0) := by
 subst hn0_0
 unfold s_TakeTag at H0
 refine ct_of_cw Tryz.func106 rfl Tryz.ntmps106 rfl (Sat.refl _ _) ?_
 refine sr (oE (stpU_box 0 rfl rfl) rfl ?_)
 rintro _ _ ⟨b1, rfl, rfl⟩
 refine oE (stpU_alloc 1 tz32 rfl) rfl ?_
 rintro _ _ ⟨b2, rfl, rfl⟩
 obtain ⟨x3, e3, H0⟩ := bS H0
 refine oS rfl (oS rfl (oS rfl (nn (cw_seq (sr (oB4 0 ts32 rfl (oE (stpU_call (fun i => 2 + i) cf45 (fun w hw => c_s_TagsValid fl w a0 rfl (RO.pass hr0_0 hw) x3 e3) (yA rfl)) rfl ?_)))))))
 rintro _ _ ⟨_, ⟨rfl, rfl⟩, rfl⟩
 obtain ⟨y4, ey4, H0⟩ := bS H0
 refine oK rfl (oM rfl (ow_cutY 4 19 y4 ?_ ?_))
 ·rcases Bool.eq_false_or_eq_true (!x3) with hy4 | hy4
  ·have ey4 := cond_t ey4 hy4
   refine oO rfl hy4 rfl (oO rfl hy4 rfl (oO rfl hy4 rfl (oD (stp_pick_t rfl hy4 rfl) rfl ?_)))
   obtain rfl := sI ey4
   exact ow_nil (jy 4 0)
  have ey4 := cond_f ey4 hy4
  obtain ⟨x5, e5, ey4⟩ := bS ey4
  refine oG rfl hy4 (mv rfl) rfl (ow_eff (.some rfl hy4) (stpU_call (fun i => 2 + i) cf84 (fun w hw => c_s_l1Space fl w a1 x5 e5) (yA rfl)) rfl ?_)
  rintro _ _ ⟨_, ⟨rfl, rfl⟩, rfl⟩
  refine oG rfl hy4 (stp_not rfl) rfl (oD (stp_pick_f rfl hy4 rfl) rfl ?_)
  obtain rfl := sI ey4
  exact ow_nil (jy 4 0)
 refine ow_nil (kw_nx (cw_cond rfl (fun h6 => ?_) (fun h6 => ?_)))
 ·have H0 := cond_t H0 h6
  refine sr (oD (stp_build (cs := #[.int .i64 0, .int .i64 0, .int .i64 0, .slice none 0 0]) sevp_nil bt32_4) rfl (oC4 1 ts32 rfl rfl (oS rfl (oS rfl (oS rfl (nn (cw_ret (kw_nx_ret (kw_addNil 2 ?_)))))))))
  obtain rfl := sI H0
  exact kr Tryz.results106 (.cons (.cellN (us := [_, _, _, _]) ts32 rfl (Cells.box (id := 1) rfl 4 rfl)) (.cons (.tmp rfl) (.cons (.tmp rfl) (rT rfl)))) [2] ⟨_, _, _, _, rfl, rfl, rfl, (OwnC.nil _ _)⟩
 have H0 := cond_f H0 h6
 obtain ⟨x7, e7, H0⟩ := bS H0
 refine cw_skip (kw_nx (sr (oB4 0 ts32 rfl (oE (stpU_call (fun i => 3 + i) cf68 (fun w hw => c_s_l5Copy fl w a0 rfl (RO.pass hr0_0 hw) x7 e7) (yA rfl)) rfl ?_))))
 rintro _ _ ⟨_, ⟨p8, _, c10, C11, rfl, rfl, rfl, o11⟩, rfl⟩
 refine oE (stpU_alloc 4 tz32 rfl) rfl ?_
 rintro _ _ ⟨b12, rfl, rfl⟩
 obtain ⟨x13, e13, H0⟩ := bS H0
 refine oC4 4 ts32 rfl rfl (nn (sr (oB4 0 ts32 rfl (oM rfl (oE (stpU_call (fun i => 5 + i) cf46 (fun w hw => c_s_l5Find fl w a0 a1 rfl (RO.pass hr0_0 hw) x13 e13) (yB rfl rfl)) rfl ?_)))))
 rintro _ _ ⟨_, ⟨rfl, rfl⟩, rfl⟩
 refine oS rfl (nn (cw_seq (sr (oM rfl (oI rfl (nn (cw_cond rfl (fun h14 => ?_) (fun h14 => ?_))))))))
 ·have H0 := cond_t H0 h14
  obtain ⟨x15, e15, H0⟩ := bS H0
  refine cw_seq (rdt g_mixed (rn 0 11) ⟨[[4],[],[0],[],[],[],[],[1]], [[],[],[],[],[],[],[],[1]], []⟩ (dB4 4 ts32 rfl (dA 3 rfl Tryz.underlying32 rfl ts30 rfl (dL 0 ts30 rfl (dM rfl (dD rfl (stp_indexAddr Tryz.underlying30 ts89 (by decide) rfl rfl rfl (Rdb.ro hr0_0) e15) (dA 1 rfl Tryz.underlying89 rfl ts3 rfl (dD rfl (stp_load1 ts3 rfl (Cells.el (Rdb.ro hr0_0) (by decide) e15 1 1 rfl)) (dC4 1 ts32 rfl rfl rfl (dS rfl (dS rfl (dS rfl (dn ?_)))))))))))))
  refine kw_nx (cw_ret (kw_nx_ret ?_))
  obtain rfl := sI H0
  exact kr Tryz.results106 (.cons (.cellN (us := [_, _, _, _]) ts32 rfl (Cells.box (id := 1) rfl 4 rfl)) (.cons (.tmp rfl) (.cons (.tmp rfl) (rT rfl)))) [3] ⟨_, _, _, _, rfl, rfl, rfl, o11⟩
 have H0 := cond_f H0 h14
 refine cw_skip (kw_nx (sr (oA 1 Tryz.underlying32 rfl ts3 rfl (oL 0 ts3 rfl (oA 0 Tryz.underlying32 rfl ts3 rfl (oL 0 ts3 rfl (oQ rfl (oS rfl (nn (cw_seq (sr (oM rfl (nn ?_)))))))))))))
 refine cw_cond rfl (fun h16 => ?_) (fun h16 => ?_)
 ·have H0 := cond_t H0 h16
  obtain ⟨x17, e17, H0⟩ := bS H0
  refine cw_region (oA 0 Tryz.underlying32 rfl ts3 rfl (oL 0 ts3 rfl (oA 2 Tryz.underlying32 rfl ts3 rfl (oL 0 ts3 rfl (oP e17 rfl (oE (stpU_lit0 sl30 5) rfl ?_))))))
  rintro _ _ ⟨p18, C19, rfl, rfl, o19⟩
  refine oD (stp_build (cs := #[.int .i64 a0.c, .int .i64 0, .int .i64 x17, .slice p18 0 0]) (sevp_cons rfl (sevp_cons rfl (sevp_cons rfl sevp_nil))) bt32_8) rfl (oC4 4 ts32 rfl rfl (nn (cw_seq (sr (oA 2 Tryz.underlying32 rfl ts3 rfl (oL 4 ts3 rfl (oJ rfl (nn (cw_cond rfl (fun h20 => ?_) (fun h20 => ?_))))))))))
  ·have H0 := cond_t H0 h20
   refine sr (oD (stp_build (cs := #[.int .i64 0, .int .i64 0, .int .i64 0, .slice none 0 0]) sevp_nil bt32_4) rfl (oC4 1 ts32 rfl rfl (oS rfl (oS rfl (oS rfl (nn (cw_ret (kw_nx_ret (kw_addNil 6 ?_)))))))))
   obtain rfl := sI H0
   exact kr Tryz.results106 (.cons (.cellN (us := [_, _, _, _]) ts32 rfl (Cells.box (id := 1) rfl 4 rfl)) (.cons (.tmp rfl) (.cons (.tmp rfl) (rT rfl)))) [6] ⟨_, _, _, _, rfl, rfl, rfl, (OwnC.nil _ _)⟩
  have H0 := cond_f H0 h20
  refine cw_skip (kw_nx (sr (oA 1 Tryz.underlying32 rfl ts3 rfl (oL 4 ts3 rfl (oS rfl (nn (sr (oA 3 Tryz.underlying32 rfl ts30 rfl (oL 4 ts30 rfl (oM rfl (oM rfl (oD (stp_build (cs := #[.int .i64 a1, .int .i64 0]) (sevp_cons rfl (sevp_cons rfl sevp_nil)) bt89_9) rfl (oE (stpU_lit (sz := 2) (l := [(⟨a1, 0⟩ : Ow)]) [.agg #[.int .i64 a1, .int .i64 0]] sl30 7 (sevp_cons rfl sevp_nil) rfl rfl rfl rfl rfl rfl rfl rfl rfl) rfl ?_)))))))))))))
  rintro _ _ ⟨p21, C22, rfl, rfl, o22⟩
  obtain ⟨x23, e23, H0⟩ := bS H0
  refine oE (stpU_append sl30 rfl (id := 5) rfl (by simp) rfl (by simp) rfl o19 (Rdb.own (id := 7) rfl o22) e23) rfl ?_
  rintro _ _ ⟨p24, c25, C26, rfl, rfl, o26⟩
  obtain ⟨x27, e27, H0⟩ := bS H0
  refine oA 3 Tryz.underlying32 rfl ts30 rfl (oC4 4 ts30 rfl rfl (nn (sr (oM rfl (oP e27 rfl (oA 1 Tryz.underlying32 rfl ts3 rfl (oC4 4 ts3 rfl rfl (nn (sr (oB4 4 ts32 rfl (oM rfl (oM rfl (oC4 1 ts32 rfl rfl ?_)))))))))))))
  refine oS rfl (oS rfl (oS rfl (nn (cw_ret ?_))))
  obtain rfl := sI H0
  exact kr Tryz.results106 (.cons (.cellN (us := [_, _, _, _]) ts32 rfl (Cells.box (id := 1) rfl 4 rfl)) (.cons (.tmp rfl) (.cons (.tmp rfl) (rT rfl)))) [5] ⟨_, _, _, _, rfl, rfl, rfl, o26⟩
 have H0 := cond_f H0 h16
 refine cw_skip (kw_nx (cw_seq (sr (oA 2 Tryz.underlying32 rfl ts3 rfl (oL 4 ts3 rfl (oJ rfl (nn (cw_cond rfl (fun h28 => ?_) (fun h28 => ?_)))))))))
 ·have H0 := cond_t H0 h28
  refine sr (oD (stp_build (cs := #[.int .i64 0, .int .i64 0, .int .i64 0, .slice none 0 0]) sevp_nil bt32_4) rfl (oC4 1 ts32 rfl rfl (oS rfl (oS rfl (oS rfl (nn (cw_ret (kw_nx_ret (kw_addNil 8 ?_)))))))))
  obtain rfl := sI H0
  exact kr Tryz.results106 (.cons (.cellN (us := [_, _, _, _]) ts32 rfl (Cells.box (id := 1) rfl 4 rfl)) (.cons (.tmp rfl) (.cons (.tmp rfl) (rT rfl)))) [8] ⟨_, _, _, _, rfl, rfl, rfl, (OwnC.nil _ _)⟩
 have H0 := cond_f H0 h28
 refine cw_skip (kw_nx (sr (oA 1 Tryz.underlying32 rfl ts3 rfl (oL 4 ts3 rfl (oS rfl (nn (sr (oA 3 Tryz.underlying32 rfl ts30 rfl (oL 4 ts30 rfl (oM rfl (oM rfl (oD (stp_build (cs := #[.int .i64 a1, .int .i64 x7.n]) (sevp_cons rfl (sevp_cons rfl sevp_nil)) bt89_9) rfl (oE (stpU_lit (sz := 2) (l := [(⟨a1, x7.n⟩ : Ow)]) [.agg #[.int .i64 a1, .int .i64 x7.n]] sl30 9 (sevp_cons rfl sevp_nil) rfl rfl rfl rfl rfl rfl rfl rfl rfl) rfl ?_)))))))))))))
 rintro _ _ ⟨p29, C30, rfl, rfl, o30⟩
 obtain ⟨x31, e31, H0⟩ := bS H0
 refine oE (stpU_append sl30 rfl (id := 3) rfl rfl rfl (by simp) rfl o11 (Rdb.own (id := 9) rfl o30) e31) rfl ?_
 rintro _ _ ⟨p32, c33, C34, rfl, rfl, o34⟩
 obtain ⟨x35, e35, H0⟩ := bS H0
 refine oA 3 Tryz.underlying32 rfl ts30 rfl (oC4 4 ts30 rfl rfl (nn (sr (oM rfl (oP e35 rfl (oA 1 Tryz.underlying32 rfl ts3 rfl (oC4 4 ts3 rfl rfl (nn (sr (oB4 4 ts32 rfl (oM rfl (oM rfl (oC4 1 ts32 rfl rfl ?_)))))))))))))
 refine oS rfl (oS rfl (oS rfl (nn (cw_ret ?_))))
 obtain rfl := sI H0
 exact kr Tryz.results106 (.cons (.cellN (us := [_, _, _, _]) ts32 rfl (Cells.box (id := 1) rfl 4 rfl)) (.cons (.tmp rfl) (.cons (.tmp rfl) (rT rfl)))) [3] ⟨_, _, _, _, rfl, rfl, rfl, o34⟩

theorem c_s_NewMachine (fl : Nat) (w : World) (a0 : Int) (a1 : Int) (a2 : Int) (a3 : Int) (r : Mc × Bool) (H0 : s_NewMachine fl a0 a1 a2 a3 = some r) :
  Ct Tryz.prog 91 [.int .i64 a0, .int .i64 a1, .int .i64 a2, .int .i64 a3] w [] (fun rv h' => ∃ (x0 : Option Addr) (y0 z0 : Nat) (C0 : Res) (x1 : Option Addr) (y1 z1 : Nat) (C1 : Res) (x2 : Option Addr) (y2 z2 : Nat) (C2 : Res) (x3 : Option Addr) (y3 z3 : Nat) (C3 : Res), rv = .tuple #[.agg #[.slice x0 y0 z0, .slice x1 y1 z1, .slice x2 y2 z2, .int .i64 r.1.c.h, .int .i64 r.1.g.c, .int .i64 r.1.g.n, .int .i64 r.1.g.r, .slice x3 y3 z3, .int .i64 r.1.s], .bool r.2] ∧ h' = [(0, C0), (1, C1), (2, C2), (3, C3)] ∧ y0 = (r.1.t.b).length ∧ OwnC 3 x0 z0 r.1.t.b C0 ∧ y1 = (r.1.t.f).length ∧ OwnC 51 x1 z1 r.1.t.f C1 ∧ y2 = (r.1.c.l).length ∧ OwnC 47 x2 z2 r.1.c.l C2 ∧ y3 = (r.1.g.o).length ∧ OwnC 89 x3 z3 r.1.g.o C3) := by
 unfold s_NewMachine at H0
 refine ct_of_cw Tryz.func91 rfl Tryz.ntmps91 rfl (Sat.refl _ _) ?_
 refine sr (oE (stpU_alloc 0 tz34 rfl) rfl ?_)
 rintro _ _ ⟨b1, rfl, rfl⟩
 obtain ⟨x2, e2, H0⟩ := bS H0
 refine oS rfl (nn (sr (oM rfl (oM rfl (oE (stpU_call (fun i => 1 + i) cf103 (fun w hw => c_s_NewTable fl w a0 a1 x2 e2) (yB rfl rfl)) rfl ?_)))))
 rintro _ _ ⟨_, ⟨p3, _, c5, C6, p7, _, c9, C10, rfl, rfl, rfl, o6, rfl, o10⟩, rfl⟩
 refine oM rfl (oT rfl (oT rfl (oE (stpU_alloc 3 tz26 rfl) rfl ?_)))
 rintro _ _ ⟨b11, rfl, rfl⟩
 obtain ⟨x12, e12, H0⟩ := bS H0
 refine oC2 3 ts26 rfl rfl (oS rfl (nn (sr (oM rfl (oE (stpU_call (fun i => 4 + i) cf104 (fun w hw => c_s_NewCache fl w a2 x12 e12) (yA rfl)) rfl ?_)))))
 rintro _ _ ⟨_, ⟨p13, _, c15, C16, rfl, rfl, rfl, o16⟩, rfl⟩
 refine oM rfl (oT rfl (oT rfl (oE (stpU_alloc 5 tz29 rfl) rfl ?_)))
 rintro _ _ ⟨b17, rfl, rfl⟩
 obtain ⟨x18, e18, H0⟩ := bS H0
 refine oC2 5 ts29 rfl rfl (oS rfl (nn (sr (oM rfl (oE (stpU_call (fun i => 6 + i) cf105 (fun w hw => c_s_NewTags fl w a3 x18 e18) (yA rfl)) rfl ?_)))))
 rintro _ _ ⟨_, ⟨p19, _, c21, C22, rfl, rfl, rfl, o22⟩, rfl⟩
 refine oM rfl (oT rfl (oT rfl (oE (stpU_alloc 7 tz32 rfl) rfl ?_)))
 rintro _ _ ⟨b23, rfl, rfl⟩
 obtain ⟨y24, ey24, H0⟩ := bS H0
 refine oC4 7 ts32 rfl rfl (oS rfl (nn (cw_seq (sr (oM rfl (oK rfl (oM rfl (ow_cutY 3 37 y24 ?_ ?_))))))))
 ·rcases Bool.eq_false_or_eq_true (!x2.2) with hy24 | hy24
  ·have ey24 := cond_t ey24 hy24
   refine oO rfl hy24 rfl (oO rfl hy24 rfl (oD (stp_pick_t rfl hy24 rfl) rfl ?_))
   obtain rfl := sI ey24
   exact ow_nil (jy 3 0)
  have ey24 := cond_f ey24 hy24
  refine oG rfl hy24 (mv rfl) rfl (oG rfl hy24 (stp_not rfl) rfl (oD (stp_pick_f rfl hy24 rfl) rfl ?_))
  obtain rfl := sI ey24
  exact ow_nil (jy 3 0)
 obtain ⟨y25, ey25, H0⟩ := bS H0
 refine oM rfl (ow_cutY 3 41 y25 ?_ ?_)
 ·rcases Bool.eq_false_or_eq_true y24 with hy25 | hy25
  ·have ey25 := cond_t ey25 hy25
   refine oO rfl hy25 rfl (oO rfl hy25 rfl (oD (stp_pick_t rfl hy25 rfl) rfl ?_))
   obtain rfl := sI ey25
   exact ow_nil (jy 3 0)
  have ey25 := cond_f ey25 hy25
  refine oG rfl hy25 (mv rfl) rfl (oG rfl hy25 (stp_not rfl) rfl (oD (stp_pick_f rfl hy25 rfl) rfl ?_))
  obtain rfl := sI ey25
  exact ow_nil (jy 3 0)
 refine ow_nil (kw_nx (cw_cond rfl (fun h26 => ?_) (fun h26 => ?_)))
 ·have H0 := cond_t H0 h26
  refine sr (oD (stp_build (cs := #[.slice none 0 0, .slice none 0 0, .slice none 0 0, .int .i64 0, .int .i64 0, .int .i64 0, .int .i64 0, .slice none 0 0, .int .i64 0]) sevp_nil bt34_6) rfl (oC9 0 ts34 rfl rfl (oS rfl (nn (cw_ret (kw_nx_ret (kw_addNil 8 (kw_addNil 9 (kw_addNil 10 (kw_addNil 11 ?_))))))))))
  obtain rfl := sI H0
  exact kr Tryz.results91 (.cons (.cellN (us := [_, _, _, _, _, _, _, _, _]) ts34 rfl (Cells.box (id := 0) rfl 9 rfl)) (rT rfl)) [8, 9, 10, 11] ⟨_, _, _, _, _, _, _, _, _, _, _, _, _, _, _, _, rfl, rfl, rfl, (OwnC.nil _ _), rfl, (OwnC.nil _ _), rfl, (OwnC.nil _ _), rfl, (OwnC.nil _ _)⟩
 have H0 := cond_f H0 h26
 obtain ⟨x27, e27, H0⟩ := bS H0
 refine cw_skip (kw_nx (sr (oB4 7 ts32 rfl (oE (stpU_call (fun i => 12 + i) cf106 (fun w hw => c_s_TakeTag fl w x18.1 0 rfl (OwnC.pass (id := 6) rfl o22 hw) x27 e27) (yB rfl rfl)) rfl ?_))))
 rintro _ _ ⟨_, ⟨p28, _, c30, C31, rfl, rfl, rfl, o31⟩, rfl⟩
 refine oM rfl (oT rfl (oT rfl (oT rfl (oT rfl (oC4 7 ts32 rfl rfl (nn (sr (oB2 3 ts26 rfl (oB2 5 ts29 rfl (oB4 7 ts32 rfl (oD (stp_build (cs := #[.slice p3 ((x2.1.b).length) c5, .slice p7 ((x2.1.f).length) c9, .slice p13 ((x12.1.l).length) c15, .int .i64 x12.1.h, .int .i64 x27.1.c, .int .i64 x27.1.n, .int .i64 x27.1.r, .slice p28 ((x27.1.o).length) c30, .int .i64 0]) (sevp_cons rfl (sevp_cons rfl (sevp_cons rfl sevp_nil))) bt34_10) rfl (oC9 0 ts34 rfl rfl (oS rfl ?_)))))))))))))
 refine nn (cw_ret ?_)
 obtain rfl := sI H0
 exact kr Tryz.results91 (.cons (.cellN (us := [_, _, _, _, _, _, _, _, _]) ts34 rfl (Cells.box (id := 0) rfl 9 rfl)) (rT rfl)) [1, 2, 4, 12] ⟨_, _, _, _, _, _, _, _, _, _, _, _, _, _, _, _, rfl, rfl, rfl, o6, rfl, o10, rfl, o16, rfl, o31⟩

theorem c_s_TableValid (fl : Nat) (w : World) (a0 : T) (hn0_0 : n0_0 = (a0.b).length) (hr0_0 : RO w (hkeys []) (RdL p0_0 c0_0 a0.b)) (hn0_1 : n0_1 = (a0.f).length) (hr0_1 : RO w (hkeys []) (RdL p0_1 c0_1 a0.f)) (r : Bool) (H0 : s_TableValid fl a0 = some r) :
    Ct Tryz.prog 43 [.agg #[.slice p0_0 n0_0 c0_0, .slice p0_1 n0_1 c0_1]] w [] (fun rv h' => rv = .bool r ∧ h' = []) := by
  obtain rfl := hn0_0
  obtain rfl := hn0_1
  unfold s_TableValid at H0
  obtain rfl := Option.some.inj H0
  exact ct_of_calls (sTableValid_c _ a0 w ⟨_, _, rfl, (hr0_0 w (Fr.refl _ _)).rd, (hr0_1 w (Fr.refl _ _)).rd⟩)

theorem c_s_l1Page (fl : Nat) (w : World) (a0 : Int) (r : Bool) (H0 : s_l1Page fl a0 = some r) :
  Ct Tryz.prog 101 [.int .i64 a0] w [] (fun rv h' => rv = .bool r ∧ h' = []) := by
 unfold s_l1Page at H0
 refine ct_of_cw Tryz.func101 rfl Tryz.ntmps101 rfl (Sat.refl _ _) ?_
 obtain ⟨y1, ey1, H0⟩ := bS H0
 refine sr (oS rfl (nn (sr (oM rfl (oI rfl (oM rfl (ow_cutY 3 8 y1 ?_ ?_)))))))
 ·rcases Bool.eq_false_or_eq_true (decide (0 ≤ a0)) with hy1 | hy1
  ·have ey1 := cond_t ey1 hy1
   refine oG rfl hy1 (mv rfl) rfl (oG rfl hy1 (stp_lss rfl rfl) rfl (oD (stp_pick_t rfl hy1 rfl) rfl ?_))
   obtain rfl := sI ey1
   exact ow_nil (jy 3 0)
  have ey1 := cond_f ey1 hy1
  refine oO rfl hy1 rfl (oO rfl hy1 rfl (oD (stp_pick_f rfl hy1 rfl) rfl ?_))
  obtain rfl := sI ey1
  exact ow_nil (jy 3 0)
 refine oS rfl (nn (cw_ret ?_))
 obtain rfl := sI H0
 exact kr Tryz.results101 (rT rfl) [] ⟨rfl, rfl⟩

theorem c_s_RightsValid (fl : Nat) (w : World) (a0 : Int) (r : Bool) (H0 : s_RightsValid fl a0 = some r) :
  Ct Tryz.prog 100 [.int .i64 a0] w [] (fun rv h' => rv = .bool r ∧ h' = []) := by
 unfold s_RightsValid at H0
 refine ct_of_cw Tryz.func100 rfl Tryz.ntmps100 rfl (Sat.refl _ _) ?_
 obtain ⟨y1, ey1, H0⟩ := bS H0
 refine sr (oS rfl (nn (sr (oM rfl (oI rfl (oM rfl (ow_cutY 3 8 y1 ?_ ?_)))))))
 ·rcases Bool.eq_false_or_eq_true (decide (0 ≤ a0)) with hy1 | hy1
  ·have ey1 := cond_t ey1 hy1
   refine oG rfl hy1 (mv rfl) rfl (oG rfl hy1 (stp_leq rfl rfl) rfl (oD (stp_pick_t rfl hy1 rfl) rfl ?_))
   obtain rfl := sI ey1
   exact ow_nil (jy 3 0)
  have ey1 := cond_f ey1 hy1
  refine oO rfl hy1 rfl (oO rfl hy1 rfl (oD (stp_pick_f rfl hy1 rfl) rfl ?_))
  obtain rfl := sI ey1
  exact ow_nil (jy 3 0)
 refine oS rfl (nn (cw_ret ?_))
 obtain rfl := sI H0
 exact kr Tryz.results100 (rT rfl) [] ⟨rfl, rfl⟩

theorem c_s_l4Line (fl : Nat) (w : World) (a0 : Ln) (r : Bool) (H0 : s_l4Line fl a0 = some r) :
  Ct Tryz.prog 83 [.agg #[.bool a0.va, .int .i64 a0.tg, .int .i64 a0.pg, .int .i64 a0.fr, .int .i64 a0.ri, .bool a0.wi]] w [] (fun rv h' => rv = .bool r ∧ h' = []) := by
 unfold s_l4Line at H0
 refine ct_of_cw Tryz.func83 rfl Tryz.ntmps83 rfl (Sat.refl _ _) ?_
 refine sr (oE (stpU_box 0 rfl rfl) rfl ?_)
 rintro _ _ ⟨b1, rfl, rfl⟩
 refine oS rfl (nn (cw_seq (sr (oA 0 Tryz.underlying47 rfl ts4 rfl (oL 0 ts4 rfl (oK rfl (nn (cw_cond rfl (fun h2 => ?_) (fun h2 => ?_)))))))))
 ·have H0 := cond_t H0 h2
  refine sr (oB6 0 ts47 rfl (oD (stp_build (cs := #[.bool false, .int .i64 0, .int .i64 0, .int .i64 0, .int .i64 0, .bool false]) sevp_nil bt47_11) rfl (oD (stp_eqlS te47 a0 (⟨false, 0, 0, 0, 0, false⟩ : Ln) rfl rfl) rfl (oS rfl (nn (cw_ret (kw_nx_ret ?_)))))))
  obtain rfl := sI H0
  exact kr Tryz.results83 (rT rfl) [] ⟨rfl, rfl⟩
 have H0 := cond_f H0 h2
 obtain ⟨y3, ey3, H0⟩ := bS H0
 refine cw_skip (kw_nx (sr (oA 1 Tryz.underlying47 rfl ts3 rfl (oL 0 ts3 rfl (oI rfl (oM rfl (ow_cutY 4 16 y3 ?_ ?_)))))))
 ·rcases Bool.eq_false_or_eq_true (decide ((-1) ≤ a0.tg)) with hy3 | hy3
  ·have ey3 := cond_t ey3 hy3
   refine oG rfl hy3 (fA 1 Tryz.underlying47 rfl ts3 rfl rfl rfl) rfl (oG rfl hy3 (lB 0 ts3 rfl rfl rfl) rfl (oG rfl hy3 (stp_lss rfl rfl) rfl (oD (stp_pick_t rfl hy3 rfl) rfl ?_)))
   obtain rfl := sI ey3
   exact ow_nil (jy 4 0)
  have ey3 := cond_f ey3 hy3
  refine oO rfl hy3 rfl (oO rfl hy3 rfl (oO rfl hy3 rfl (oD (stp_pick_f rfl hy3 rfl) rfl ?_)))
  obtain rfl := sI ey3
  exact ow_nil (jy 4 0)
 obtain ⟨y4, ey4, H0⟩ := bS H0
 refine oM rfl (ow_cutY 4 21 y4 ?_ ?_)
 ·rcases Bool.eq_false_or_eq_true y3 with hy4 | hy4
  ·have ey4 := cond_t ey4 hy4
   obtain ⟨x5, e5, ey4⟩ := bS ey4
   refine oG rfl hy4 (fA 2 Tryz.underlying47 rfl ts3 rfl rfl rfl) rfl (oG rfl hy4 (lB 0 ts3 rfl rfl rfl) rfl (ow_eff (.some rfl hy4) (stpU_call (fun i => 1 + i) cf101 (fun w hw => c_s_l1Page fl w a0.pg x5 e5) (yA rfl)) rfl ?_))
   rintro _ _ ⟨_, ⟨rfl, rfl⟩, rfl⟩
   refine oD (stp_pick_t rfl hy4 rfl) rfl ?_
   obtain rfl := sI ey4
   exact ow_nil (jy 4 0)
  have ey4 := cond_f ey4 hy4
  refine oO rfl hy4 rfl (oO rfl hy4 rfl (oO rfl hy4 rfl (oD (stp_pick_f rfl hy4 rfl) rfl ?_)))
  obtain rfl := sI ey4
  exact ow_nil (jy 4 0)
 obtain ⟨y6, ey6, H0⟩ := bS H0
 refine oM rfl (ow_cutY 4 26 y6 ?_ ?_)
 ·rcases Bool.eq_false_or_eq_true y4 with hy6 | hy6
  ·have ey6 := cond_t ey6 hy6
   refine oG rfl hy6 (fA 3 Tryz.underlying47 rfl ts3 rfl rfl rfl) rfl (oG rfl hy6 (lB 0 ts3 rfl rfl rfl) rfl (oG rfl hy6 (stp_geq rfl rfl) rfl (oD (stp_pick_t rfl hy6 rfl) rfl ?_)))
   obtain rfl := sI ey6
   exact ow_nil (jy 4 0)
  have ey6 := cond_f ey6 hy6
  refine oO rfl hy6 rfl (oO rfl hy6 rfl (oO rfl hy6 rfl (oD (stp_pick_f rfl hy6 rfl) rfl ?_)))
  obtain rfl := sI ey6
  exact ow_nil (jy 4 0)
 obtain ⟨y7, ey7, H0⟩ := bS H0
 refine oM rfl (ow_cutY 4 31 y7 ?_ ?_)
 ·rcases Bool.eq_false_or_eq_true y6 with hy7 | hy7
  ·have ey7 := cond_t ey7 hy7
   refine oG rfl hy7 (fA 3 Tryz.underlying47 rfl ts3 rfl rfl rfl) rfl (oG rfl hy7 (lB 0 ts3 rfl rfl rfl) rfl (oG rfl hy7 (stp_lss rfl rfl) rfl (oD (stp_pick_t rfl hy7 rfl) rfl ?_)))
   obtain rfl := sI ey7
   exact ow_nil (jy 4 0)
  have ey7 := cond_f ey7 hy7
  refine oO rfl hy7 rfl (oO rfl hy7 rfl (oO rfl hy7 rfl (oD (stp_pick_f rfl hy7 rfl) rfl ?_)))
  obtain rfl := sI ey7
  exact ow_nil (jy 4 0)
 obtain ⟨y8, ey8, H0⟩ := bS H0
 refine oM rfl (ow_cutY 4 36 y8 ?_ ?_)
 ·rcases Bool.eq_false_or_eq_true y7 with hy8 | hy8
  ·have ey8 := cond_t ey8 hy8
   obtain ⟨x9, e9, ey8⟩ := bS ey8
   refine oG rfl hy8 (fA 4 Tryz.underlying47 rfl ts3 rfl rfl rfl) rfl (oG rfl hy8 (lB 0 ts3 rfl rfl rfl) rfl (ow_eff (.some rfl hy8) (stpU_call (fun i => 1 + i) cf100 (fun w hw => c_s_RightsValid fl w a0.ri x9 e9) (yA rfl)) rfl ?_))
   rintro _ _ ⟨_, ⟨rfl, rfl⟩, rfl⟩
   refine oD (stp_pick_t rfl hy8 rfl) rfl ?_
   obtain rfl := sI ey8
   exact ow_nil (jy 4 0)
  have ey8 := cond_f ey8 hy8
  refine oO rfl hy8 rfl (oO rfl hy8 rfl (oO rfl hy8 rfl (oD (stp_pick_f rfl hy8 rfl) rfl ?_)))
  obtain rfl := sI ey8
  exact ow_nil (jy 4 0)
 refine oS rfl (nn (cw_ret ?_))
 obtain rfl := sI H0
 exact kr Tryz.results83 (rT rfl) [] ⟨rfl, rfl⟩

theorem c_s_CacheValid (fl : Nat) (w : World) (a0 : Ca) (hn0_0 : n0_0 = (a0.l).length) (hr0_0 : RO w (hkeys []) (RdL p0_0 c0_0 a0.l)) (r : Bool) (H0 : s_CacheValid fl a0 = some r) :
  Ct Tryz.prog 44 [.agg #[.slice p0_0 n0_0 c0_0, .int .i64 a0.h]] w [] (fun rv h' => rv = .bool r ∧ h' = []) := by
 subst hn0_0
 unfold s_CacheValid at H0
 refine ct_of_cw Tryz.func44 rfl Tryz.ntmps44 rfl (Sat.refl _ _) ?_
 refine sr (oE (stpU_box 0 rfl rfl) rfl ?_)
 rintro _ _ ⟨b1, rfl, rfl⟩
 obtain ⟨y2, ey2, H0⟩ := bS H0
 refine oS rfl (nn (cw_seq (sr (oA 0 Tryz.underlying29 rfl ts27 rfl (oL 0 ts27 rfl (oD (stp_len Tryz.underlying27 rfl) rfl (oW rfl (oM rfl (ow_cutY 5 17 y2 ?_ ?_)))))))))
 ·rcases Bool.eq_false_or_eq_true (decide (((a0.l).length : Int) < 1)) with hy2 | hy2
  ·have ey2 := cond_t ey2 hy2
   refine oO rfl hy2 rfl (oO rfl hy2 rfl (oO rfl hy2 rfl (oO rfl hy2 rfl (oD (stp_pick_t rfl hy2 rfl) rfl ?_))))
   obtain rfl := sI ey2
   exact ow_nil (jy 5 0)
  have ey2 := cond_f ey2 hy2
  refine oG rfl hy2 (fA 0 Tryz.underlying29 rfl ts27 rfl rfl rfl) rfl (oG rfl hy2 (lB 0 ts27 rfl rfl rfl) rfl (oG rfl hy2 (stp_len Tryz.underlying27 rfl) rfl (oG rfl hy2 (stp_gtr rfl rfl) rfl (oD (stp_pick_f rfl hy2 rfl) rfl ?_))))
  obtain rfl := sI ey2
  exact ow_nil (jy 5 0)
 obtain ⟨y3, ey3, H0⟩ := bS H0
 refine oM rfl (ow_cutY 4 22 y3 ?_ ?_)
 ·rcases Bool.eq_false_or_eq_true y2 with hy3 | hy3
  ·have ey3 := cond_t ey3 hy3
   refine oO rfl hy3 rfl (oO rfl hy3 rfl (oO rfl hy3 rfl (oD (stp_pick_t rfl hy3 rfl) rfl ?_)))
   obtain rfl := sI ey3
   exact ow_nil (jy 4 0)
  have ey3 := cond_f ey3 hy3
  refine oG rfl hy3 (fA 1 Tryz.underlying29 rfl ts3 rfl rfl rfl) rfl (oG rfl hy3 (lB 0 ts3 rfl rfl rfl) rfl (oG rfl hy3 (stp_lss rfl rfl) rfl (oD (stp_pick_f rfl hy3 rfl) rfl ?_)))
  obtain rfl := sI ey3
  exact ow_nil (jy 4 0)
 obtain ⟨y4, ey4, H0⟩ := bS H0
 refine oM rfl (ow_cutY 7 30 y4 ?_ ?_)
 ·rcases Bool.eq_false_or_eq_true y3 with hy4 | hy4
  ·have ey4 := cond_t ey4 hy4
   refine oO rfl hy4 rfl (oO rfl hy4 rfl (oO rfl hy4 rfl (oO rfl hy4 rfl (oO rfl hy4 rfl (oO rfl hy4 rfl (oD (stp_pick_t rfl hy4 rfl) rfl ?_))))))
   obtain rfl := sI ey4
   exact ow_nil (jy 7 0)
  have ey4 := cond_f ey4 hy4
  refine oG rfl hy4 (fA 1 Tryz.underlying29 rfl ts3 rfl rfl rfl) rfl (oG rfl hy4 (lB 0 ts3 rfl rfl rfl) rfl (oG rfl hy4 (fA 0 Tryz.underlying29 rfl ts27 rfl rfl rfl) rfl (oG rfl hy4 (lB 0 ts27 rfl rfl rfl) rfl (oG rfl hy4 (stp_len Tryz.underlying27 rfl) rfl (oG rfl hy4 (stp_geq rfl rfl) rfl (oD (stp_pick_f rfl hy4 rfl) rfl ?_))))))
  obtain rfl := sI ey4
  exact ow_nil (jy 7 0)
 refine ow_nil (kw_nx (cw_cond rfl (fun h5 => ?_) (fun h5 => ?_)))
 ·have H0 := cond_t H0 h5
  refine sr (oS rfl (nn (cw_ret (kw_nx_ret ?_))))
  obtain rfl := sI H0
  exact kr Tryz.results44 (rT rfl) [] ⟨rfl, rfl⟩
 have H0 := cond_f H0 h5
 obtain ⟨o0_0, eo0_0, H0⟩ := bS H0
 refine cw_skip (kw_nx (sr (oS rfl (nn (cw_seq (sr (oS rfl (nn (cw_join (ι := Int × Int) (fun | (v6, v7) => o0_0 = .out (v6, v7)) (fun | (v6, v7) => [(1, .pointer (some ⟨b1, 0, none⟩)), (3, .int .i64 v6), (4, .int .i64 v7)]) (fun | (v6, v7) => [(0, [(b1, .cells #[.slice p0_0 ((a0.l).length) c0_0, .int .i64 a0.h] 29 (0, 0))])]) ?_ ?_)))))))))
 ·refine cw_block (cw_loopS (ι := Nat × Int × Int) (js := [0]) (fun x => x.1) (fun | (fuel, v6, v7) => s_CacheValid_L0 fl a0 fuel v6 v7 = some o0_0) (fun | (_, v6, v7) => [(1, .pointer (some ⟨b1, 0, none⟩)), (3, .int .i64 v6), (4, .int .i64 v7)]) (fun | (_, v6, v7) => [(0, [(b1, .cells #[.slice p0_0 ((a0.l).length) c0_0, .int .i64 a0.h] 29 (0, 0))])]) (fl, 0, 0) eo0_0 ⟨rfl, rfl, rfl, trivial⟩ ⟨0, [], rfl, rfl, trivial⟩ (by decide) ?_)
  rintro ⟨fuel, v6, v7⟩ H1
  have H1 : s_CacheValid_L0 fl a0 fuel v6 v7 = some o0_0 := H1
  rcases fuel with _ | fuel
  ·rw [s_CacheValid_L0.eq_1] at H1; cases H1
  rw [s_CacheValid_L0.eq_2] at H1
  dsimp only
  refine cw_seq (sr (oM rfl (oA 0 Tryz.underlying29 rfl ts27 rfl (oL 0 ts27 rfl (oD (stp_len Tryz.underlying27 rfl) rfl (oW rfl (nn (cw_cond rfl (fun h8 => ?_) (fun h8 => ?_)))))))))
  ·have H1 := cond_t H1 h8
   obtain ⟨x9, e9, H1⟩ := bS H1
   refine cw_skip (kw_nx (cw_seq (cw_block (sr (oA 0 Tryz.underlying29 rfl ts27 rfl (oL 0 ts27 rfl (oM rfl (oD (stp_indexAddr Tryz.underlying27 ts47 (by decide) rfl rfl rfl (Rdb.ro hr0_0) e9) rfl (oD (stp_loadN (us := [_, _, _, _, _, _]) ts47 rfl (Cells.el (Rdb.ro hr0_0) (by decide) e9 0 6 rfl)) rfl (oE (stpU_alloc 1 tz47 rfl) rfl ?_))))))))))
   rintro _ _ ⟨b10, rfl, rfl⟩
   obtain ⟨x11, e11, H1⟩ := bS H1
   refine oC6 1 ts47 rfl rfl (nn (cw_seq (sr (oB6 1 ts47 rfl (oE (stpU_call (fun i => 2 + i) cf83 (fun w hw => c_s_l4Line fl w x9 x11 e11) (yA rfl)) rfl ?_)))))
   rintro _ _ ⟨_, ⟨rfl, rfl⟩, rfl⟩
   refine oK rfl (nn (cw_cond rfl (fun h12 => ?_) (fun h12 => ?_)))
   ·have H1 := cond_t H1 h12
    refine sr (oS rfl (nn (cw_ret (kw_nx_ret (kw_bl_ret (kw_nx_ret (kw_lq_ret (kw_bl_ret (kw_join_ret (kw_nx_ret ?_))))))))))
    obtain rfl := sI H1
    obtain rfl := sI H0
    exact kr Tryz.results44 (rT rfl) [] ⟨rfl, rfl⟩
   have H1 := cond_f H1 h12
   refine cw_skip (kw_nx (cw_seq (sr (oA 5 Tryz.underlying47 rfl ts4 rfl (oL 1 ts4 rfl (oK rfl (nn (cw_cond rfl (fun h13 => ?_) (fun h13 => ?_)))))))))
   ·have H1 := cond_t H1 h13
    obtain ⟨x14, e14, H1⟩ := bS H1
    obtain ⟨o1_1, eo1_1, H1⟩ := bS H1
    refine cw_region (oM rfl (oP e14 rfl (oS rfl (nn (sr (oS rfl (nn (cw_join (ι := Int) (fun | v15 => o1_1 = .out v15) (fun | v15 => [(1, .pointer (some ⟨b1, 0, none⟩)), (3, .int .i64 x14), (4, .int .i64 v7), (5, .pointer (some ⟨b10, 0, none⟩)), (6, .int .i64 v15)]) (fun | v15 => [(0, [(b1, .cells #[.slice p0_0 ((a0.l).length) c0_0, .int .i64 a0.h] 29 (0, 0))]), (1, [(b10, .cells #[.bool x9.va, .int .i64 x9.tg, .int .i64 x9.pg, .int .i64 x9.fr, .int .i64 x9.ri, .bool x9.wi] 47 (0, 0))])]) ?_ ?_))))))))
    ·refine cw_block (cw_loopS (ι := Nat × Int) (js := [0, 1]) (fun x => x.1) (fun | (fuel, v15) => s_CacheValid_L1 fl a0 v7 x9 fuel v15 = some o1_1) (fun | (_, v15) => [(1, .pointer (some ⟨b1, 0, none⟩)), (3, .int .i64 x14), (4, .int .i64 v7), (5, .pointer (some ⟨b10, 0, none⟩)), (6, .int .i64 v15)]) (fun | (_, v15) => [(0, [(b1, .cells #[.slice p0_0 ((a0.l).length) c0_0, .int .i64 a0.h] 29 (0, 0))]), (1, [(b10, .cells #[.bool x9.va, .int .i64 x9.tg, .int .i64 x9.pg, .int .i64 x9.fr, .int .i64 x9.ri, .bool x9.wi] 47 (0, 0))])]) (fl, 0) eo1_1 ⟨rfl, rfl, rfl, rfl, rfl, trivial⟩ ⟨0, [1], rfl, rfl, 1, [], rfl, rfl, trivial⟩ (by decide) ?_)
     rintro ⟨fuel, v15⟩ H2
     have H2 : s_CacheValid_L1 fl a0 v7 x9 fuel v15 = some o1_1 := H2
     rcases fuel with _ | fuel
     ·rw [s_CacheValid_L1.eq_1] at H2; cases H2
     rw [s_CacheValid_L1.eq_2] at H2
     dsimp only
     refine cw_seq (sr (oM rfl (oM rfl (oW rfl (nn (cw_cond rfl (fun h16 => ?_) (fun h16 => ?_)))))))
     ·have H2 := cond_t H2 h16
      obtain ⟨x17, e17, H2⟩ := bS H2
      refine cw_skip (kw_nx (cw_seq (cw_block (sr (oA 0 Tryz.underlying29 rfl ts27 rfl (oL 0 ts27 rfl (oM rfl (oD (stp_indexAddr Tryz.underlying27 ts47 (by decide) rfl rfl rfl (Rdb.ro hr0_0) e17) rfl (oD (stp_loadN (us := [_, _, _, _, _, _]) ts47 rfl (Cells.el (Rdb.ro hr0_0) (by decide) e17 0 6 rfl)) rfl (oE (stpU_alloc 2 tz47 rfl) rfl ?_))))))))))
      rintro _ _ ⟨b18, rfl, rfl⟩
      obtain ⟨y19, ey19, H2⟩ := bS H2
      refine oC6 2 ts47 rfl rfl (nn (sr (oA 0 Tryz.underlying47 rfl ts4 rfl (oL 1 ts4 rfl (oM rfl (ow_cutY 3 66 y19 ?_ ?_))))))
      ·rcases Bool.eq_false_or_eq_true x9.va with hy19 | hy19
       ·have ey19 := cond_t ey19 hy19
        refine oG rfl hy19 (fA 0 Tryz.underlying47 rfl ts4 rfl rfl rfl) rfl (oG rfl hy19 (lB 2 ts4 rfl rfl rfl) rfl (oD (stp_pick_t rfl hy19 rfl) rfl ?_))
        obtain rfl := sI ey19
        exact ow_nil (jy 3 0)
       have ey19 := cond_f ey19 hy19
       refine oO rfl hy19 rfl (oO rfl hy19 rfl (oD (stp_pick_f rfl hy19 rfl) rfl ?_))
       obtain rfl := sI ey19
       exact ow_nil (jy 3 0)
      obtain ⟨y20, ey20, H2⟩ := bS H2
      refine oM rfl (ow_cutY 6 73 y20 ?_ ?_)
      ·rcases Bool.eq_false_or_eq_true y19 with hy20 | hy20
       ·have ey20 := cond_t ey20 hy20
        refine oG rfl hy20 (fA 2 Tryz.underlying47 rfl ts3 rfl rfl rfl) rfl (oG rfl hy20 (lB 1 ts3 rfl rfl rfl) rfl (oG rfl hy20 (fA 2 Tryz.underlying47 rfl ts3 rfl rfl rfl) rfl (oG rfl hy20 (lB 2 ts3 rfl rfl rfl) rfl (oG rfl hy20 (stp_eql rfl rfl) rfl (oD (stp_pick_t rfl hy20 rfl) rfl ?_)))))
        obtain rfl := sI ey20
        exact ow_nil (jy 6 0)
       have ey20 := cond_f ey20 hy20
       refine oO rfl hy20 rfl (oO rfl hy20 rfl (oO rfl hy20 rfl (oO rfl hy20 rfl (oO rfl hy20 rfl (oD (stp_pick_f rfl hy20 rfl) rfl ?_)))))
       obtain rfl := sI ey20
       exact ow_nil (jy 6 0)
      obtain ⟨y21, ey21, H2⟩ := bS H2
      refine oM rfl (ow_cutY 16 90 y21 ?_ ?_)
      ·rcases Bool.eq_false_or_eq_true y20 with hy21 | hy21
       ·have ey21 := cond_t ey21 hy21
        obtain ⟨y22, ey22, ey21⟩ := bS ey21
        refine oG rfl hy21 (fA 1 Tryz.underlying47 rfl ts3 rfl rfl rfl) rfl (oG rfl hy21 (lB 1 ts3 rfl rfl rfl) rfl (oG rfl hy21 (fA 1 Tryz.underlying47 rfl ts3 rfl rfl rfl) rfl (oG rfl hy21 (lB 2 ts3 rfl rfl rfl) rfl (oG rfl hy21 (stp_eql rfl rfl) rfl (oG rfl hy21 (mv rfl) rfl (ow_cutY 4 84 y22 ?_ ?_))))))
        ·rcases Bool.eq_false_or_eq_true (x9.tg == x17.tg) with hy22 | hy22
         ·have ey22 := cond_t ey22 hy22
          refine oO rfl hy22 rfl (oO rfl hy22 rfl (oO rfl hy22 rfl (oG rfl hy21 (stp_pick_t rfl hy22 rfl) rfl ?_)))
          obtain rfl := sI ey22
          exact ow_nil (jy 4 0)
         have ey22 := cond_f ey22 hy22
         refine oG rfl hy22 (fA 1 Tryz.underlying47 rfl ts3 rfl rfl rfl) rfl (oG rfl hy22 (lB 1 ts3 rfl rfl rfl) rfl (oG rfl hy22 (stp_eql rfl rfl) rfl (oG rfl hy21 (stp_pick_f rfl hy22 rfl) rfl ?_)))
         obtain rfl := sI ey22
         exact ow_nil (jy 4 0)
        obtain ⟨y23, ey23, ey21⟩ := bS ey21
        refine oG rfl hy21 (mv rfl) rfl (ow_cutY 4 89 y23 ?_ ?_)
        ·rcases Bool.eq_false_or_eq_true y22 with hy23 | hy23
         ·have ey23 := cond_t ey23 hy23
          refine oO rfl hy23 rfl (oO rfl hy23 rfl (oO rfl hy23 rfl (oG rfl hy21 (stp_pick_t rfl hy23 rfl) rfl ?_)))
          obtain rfl := sI ey23
          exact ow_nil (jy 4 0)
         have ey23 := cond_f ey23 hy23
         refine oG rfl hy23 (fA 1 Tryz.underlying47 rfl ts3 rfl rfl rfl) rfl (oG rfl hy23 (lB 2 ts3 rfl rfl rfl) rfl (oG rfl hy23 (stp_eql rfl rfl) rfl (oG rfl hy21 (stp_pick_f rfl hy23 rfl) rfl ?_)))
         obtain rfl := sI ey23
         exact ow_nil (jy 4 0)
        refine oD (stp_pick_t rfl hy21 rfl) rfl ?_
        obtain rfl := sI ey21
        exact ow_nil (jy 10 0)
       have ey21 := cond_f ey21 hy21
       refine oO rfl hy21 rfl (oO rfl hy21 rfl (oO rfl hy21 rfl (oO rfl hy21 rfl (oO rfl hy21 rfl (oO rfl hy21 rfl (oX rfl rfl rfl (oX rfl rfl rfl (oX rfl rfl rfl (oO rfl hy21 rfl (oO rfl hy21 rfl (oX rfl rfl rfl (oX rfl rfl rfl (oX rfl rfl rfl ?_)))))))))))))
       refine oO rfl hy21 rfl (oD (stp_pick_f rfl hy21 rfl) rfl ?_)
       obtain rfl := sI ey21
       exact ow_nil (jy 16 0)
      refine ow_nil (kw_nx (cw_cond rfl (fun h24 => ?_) (fun h24 => ?_)))
      ·have H2 := cond_t H2 h24
       refine sr (oS rfl (nn (cw_ret (kw_bl_ret (kw_nx_ret (kw_lq_ret (kw_bl_ret (kw_join_ret (kw_bl_ret (kw_nx_ret (kw_lq_ret (kw_bl_ret (kw_join_ret ?_)))))))))))))
       refine kw_nx_ret ?_
       obtain rfl := sI H2
       obtain rfl := sI H1
       obtain rfl := sI H0
       exact kr Tryz.results44 (rT rfl) [] ⟨rfl, rfl⟩
      have H2 := cond_f H2 h24
      obtain ⟨x25, e25, H2⟩ := bS H2
      exact cw_skip (kw_bl_normal (kw_nx (cw_region (oM rfl (oP e25 rfl (oS rfl (ow_nil (kw_lqS (js := [0, 1]) (fuel, x25) H2 (Nat.lt_succ_self _) ⟨rfl, rfl, rfl, rfl, rfl, trivial⟩ ⟨0, [1], rfl, rfl, 1, [], rfl, rfl, trivial⟩ (by decide)))))))))
     have H2 := cond_f H2 h16
     refine cw_exit (kw_nx_exit (kw_lq_exit (kw_bl ?_)))
     obtain rfl := sI H2
     exact kw_joinS (js := [0, 1]) v15 rfl ⟨rfl, rfl, rfl, rfl, rfl, trivial⟩ ⟨0, [1], rfl, rfl, 1, [], rfl, rfl, trivial⟩ (by decide)
    rintro v15 rfl
    dsimp only
    obtain ⟨x26, e26, H1⟩ := bS H1
    exact kw_bl_normal (kw_nx (cw_region (oM rfl (oP e26 rfl (oS rfl (ow_nil (kw_lqS (js := [0]) (fuel, x14, x26) H1 (Nat.lt_succ_self _) ⟨rfl, rfl, rfl, trivial⟩ ⟨0, [], rfl, rfl, trivial⟩ (by decide))))))))
   have H1 := cond_f H1 h13
   obtain ⟨o1_2, eo1_2, H1⟩ := bS H1
   refine cw_skip (kw_nx (sr (oS rfl (nn (cw_join (ι := Int) (fun | v27 => o1_2 = .out v27) (fun | v27 => [(1, .pointer (some ⟨b1, 0, none⟩)), (3, .int .i64 v6), (4, .int .i64 v7), (5, .pointer (some ⟨b10, 0, none⟩)), (6, .int .i64 v27)]) (fun | v27 => [(0, [(b1, .cells #[.slice p0_0 ((a0.l).length) c0_0, .int .i64 a0.h] 29 (0, 0))]), (1, [(b10, .cells #[.bool x9.va, .int .i64 x9.tg, .int .i64 x9.pg, .int .i64 x9.fr, .int .i64 x9.ri, .bool x9.wi] 47 (0, 0))])]) ?_ ?_)))))
   ·refine cw_block (cw_loopS (ι := Nat × Int) (js := [0, 1]) (fun x => x.1) (fun | (fuel, v27) => s_CacheValid_L2 fl a0 v7 x9 fuel v27 = some o1_2) (fun | (_, v27) => [(1, .pointer (some ⟨b1, 0, none⟩)), (3, .int .i64 v6), (4, .int .i64 v7), (5, .pointer (some ⟨b10, 0, none⟩)), (6, .int .i64 v27)]) (fun | (_, v27) => [(0, [(b1, .cells #[.slice p0_0 ((a0.l).length) c0_0, .int .i64 a0.h] 29 (0, 0))]), (1, [(b10, .cells #[.bool x9.va, .int .i64 x9.tg, .int .i64 x9.pg, .int .i64 x9.fr, .int .i64 x9.ri, .bool x9.wi] 47 (0, 0))])]) (fl, 0) eo1_2 ⟨rfl, rfl, rfl, rfl, rfl, trivial⟩ ⟨0, [1], rfl, rfl, 1, [], rfl, rfl, trivial⟩ (by decide) ?_)
    rintro ⟨fuel, v27⟩ H2
    have H2 : s_CacheValid_L2 fl a0 v7 x9 fuel v27 = some o1_2 := H2
    rcases fuel with _ | fuel
    ·rw [s_CacheValid_L2.eq_1] at H2; cases H2
    rw [s_CacheValid_L2.eq_2] at H2
    dsimp only
    refine cw_seq (sr (oM rfl (oM rfl (oW rfl (nn (cw_cond rfl (fun h28 => ?_) (fun h28 => ?_)))))))
    ·have H2 := cond_t H2 h28
     obtain ⟨x29, e29, H2⟩ := bS H2
     refine cw_skip (kw_nx (cw_seq (cw_block (sr (oA 0 Tryz.underlying29 rfl ts27 rfl (oL 0 ts27 rfl (oM rfl (oD (stp_indexAddr Tryz.underlying27 ts47 (by decide) rfl rfl rfl (Rdb.ro hr0_0) e29) rfl (oD (stp_loadN (us := [_, _, _, _, _, _]) ts47 rfl (Cells.el (Rdb.ro hr0_0) (by decide) e29 0 6 rfl)) rfl (oE (stpU_alloc 3 tz47 rfl) rfl ?_))))))))))
     rintro _ _ ⟨b30, rfl, rfl⟩
     obtain ⟨y31, ey31, H2⟩ := bS H2
     refine oC6 3 ts47 rfl rfl (nn (sr (oA 0 Tryz.underlying47 rfl ts4 rfl (oL 1 ts4 rfl (oM rfl (ow_cutY 3 66 y31 ?_ ?_))))))
     ·rcases Bool.eq_false_or_eq_true x9.va with hy31 | hy31
      ·have ey31 := cond_t ey31 hy31
       refine oG rfl hy31 (fA 0 Tryz.underlying47 rfl ts4 rfl rfl rfl) rfl (oG rfl hy31 (lB 3 ts4 rfl rfl rfl) rfl (oD (stp_pick_t rfl hy31 rfl) rfl ?_))
       obtain rfl := sI ey31
       exact ow_nil (jy 3 0)
      have ey31 := cond_f ey31 hy31
      refine oO rfl hy31 rfl (oO rfl hy31 rfl (oD (stp_pick_f rfl hy31 rfl) rfl ?_))
      obtain rfl := sI ey31
      exact ow_nil (jy 3 0)
     obtain ⟨y32, ey32, H2⟩ := bS H2
     refine oM rfl (ow_cutY 6 73 y32 ?_ ?_)
     ·rcases Bool.eq_false_or_eq_true y31 with hy32 | hy32
      ·have ey32 := cond_t ey32 hy32
       refine oG rfl hy32 (fA 2 Tryz.underlying47 rfl ts3 rfl rfl rfl) rfl (oG rfl hy32 (lB 1 ts3 rfl rfl rfl) rfl (oG rfl hy32 (fA 2 Tryz.underlying47 rfl ts3 rfl rfl rfl) rfl (oG rfl hy32 (lB 3 ts3 rfl rfl rfl) rfl (oG rfl hy32 (stp_eql rfl rfl) rfl (oD (stp_pick_t rfl hy32 rfl) rfl ?_)))))
       obtain rfl := sI ey32
       exact ow_nil (jy 6 0)
      have ey32 := cond_f ey32 hy32
      refine oO rfl hy32 rfl (oO rfl hy32 rfl (oO rfl hy32 rfl (oO rfl hy32 rfl (oO rfl hy32 rfl (oD (stp_pick_f rfl hy32 rfl) rfl ?_)))))
      obtain rfl := sI ey32
      exact ow_nil (jy 6 0)
     obtain ⟨y33, ey33, H2⟩ := bS H2
     refine oM rfl (ow_cutY 16 90 y33 ?_ ?_)
     ·rcases Bool.eq_false_or_eq_true y32 with hy33 | hy33
      ·have ey33 := cond_t ey33 hy33
       obtain ⟨y34, ey34, ey33⟩ := bS ey33
       refine oG rfl hy33 (fA 1 Tryz.underlying47 rfl ts3 rfl rfl rfl) rfl (oG rfl hy33 (lB 1 ts3 rfl rfl rfl) rfl (oG rfl hy33 (fA 1 Tryz.underlying47 rfl ts3 rfl rfl rfl) rfl (oG rfl hy33 (lB 3 ts3 rfl rfl rfl) rfl (oG rfl hy33 (stp_eql rfl rfl) rfl (oG rfl hy33 (mv rfl) rfl (ow_cutY 4 84 y34 ?_ ?_))))))
       ·rcases Bool.eq_false_or_eq_true (x9.tg == x29.tg) with hy34 | hy34
        ·have ey34 := cond_t ey34 hy34
         refine oO rfl hy34 rfl (oO rfl hy34 rfl (oO rfl hy34 rfl (oG rfl hy33 (stp_pick_t rfl hy34 rfl) rfl ?_)))
         obtain rfl := sI ey34
         exact ow_nil (jy 4 0)
        have ey34 := cond_f ey34 hy34
        refine oG rfl hy34 (fA 1 Tryz.underlying47 rfl ts3 rfl rfl rfl) rfl (oG rfl hy34 (lB 1 ts3 rfl rfl rfl) rfl (oG rfl hy34 (stp_eql rfl rfl) rfl (oG rfl hy33 (stp_pick_f rfl hy34 rfl) rfl ?_)))
        obtain rfl := sI ey34
        exact ow_nil (jy 4 0)
       obtain ⟨y35, ey35, ey33⟩ := bS ey33
       refine oG rfl hy33 (mv rfl) rfl (ow_cutY 4 89 y35 ?_ ?_)
       ·rcases Bool.eq_false_or_eq_true y34 with hy35 | hy35
        ·have ey35 := cond_t ey35 hy35
         refine oO rfl hy35 rfl (oO rfl hy35 rfl (oO rfl hy35 rfl (oG rfl hy33 (stp_pick_t rfl hy35 rfl) rfl ?_)))
         obtain rfl := sI ey35
         exact ow_nil (jy 4 0)
        have ey35 := cond_f ey35 hy35
        refine oG rfl hy35 (fA 1 Tryz.underlying47 rfl ts3 rfl rfl rfl) rfl (oG rfl hy35 (lB 3 ts3 rfl rfl rfl) rfl (oG rfl hy35 (stp_eql rfl rfl) rfl (oG rfl hy33 (stp_pick_f rfl hy35 rfl) rfl ?_)))
        obtain rfl := sI ey35
        exact ow_nil (jy 4 0)
       refine oD (stp_pick_t rfl hy33 rfl) rfl ?_
       obtain rfl := sI ey33
       exact ow_nil (jy 10 0)
      have ey33 := cond_f ey33 hy33
      refine oO rfl hy33 rfl (oO rfl hy33 rfl (oO rfl hy33 rfl (oO rfl hy33 rfl (oO rfl hy33 rfl (oO rfl hy33 rfl (oX rfl rfl rfl (oX rfl rfl rfl (oX rfl rfl rfl (oO rfl hy33 rfl (oO rfl hy33 rfl (oX rfl rfl rfl (oX rfl rfl rfl (oX rfl rfl rfl ?_)))))))))))))
      refine oO rfl hy33 rfl (oD (stp_pick_f rfl hy33 rfl) rfl ?_)
      obtain rfl := sI ey33
      exact ow_nil (jy 16 0)
     refine ow_nil (kw_nx (cw_cond rfl (fun h36 => ?_) (fun h36 => ?_)))
     ·have H2 := cond_t H2 h36
      refine sr (oS rfl (nn (cw_ret (kw_bl_ret (kw_nx_ret (kw_lq_ret (kw_bl_ret (kw_join_ret (kw_bl_ret (kw_nx_ret (kw_lq_ret (kw_bl_ret (kw_join_ret ?_)))))))))))))
      refine kw_nx_ret ?_
      obtain rfl := sI H2
      obtain rfl := sI H1
      obtain rfl := sI H0
      exact kr Tryz.results44 (rT rfl) [] ⟨rfl, rfl⟩
     have H2 := cond_f H2 h36
     obtain ⟨x37, e37, H2⟩ := bS H2
     exact cw_skip (kw_bl_normal (kw_nx (cw_region (oM rfl (oP e37 rfl (oS rfl (ow_nil (kw_lqS (js := [0, 1]) (fuel, x37) H2 (Nat.lt_succ_self _) ⟨rfl, rfl, rfl, rfl, rfl, trivial⟩ ⟨0, [1], rfl, rfl, 1, [], rfl, rfl, trivial⟩ (by decide)))))))))
    have H2 := cond_f H2 h28
    refine cw_exit (kw_nx_exit (kw_lq_exit (kw_bl ?_)))
    obtain rfl := sI H2
    exact kw_joinS (js := [0, 1]) v27 rfl ⟨rfl, rfl, rfl, rfl, rfl, trivial⟩ ⟨0, [1], rfl, rfl, 1, [], rfl, rfl, trivial⟩ (by decide)
   rintro v27 rfl
   dsimp only
   obtain ⟨x38, e38, H1⟩ := bS H1
   exact kw_bl_normal (kw_nx (cw_region (oM rfl (oP e38 rfl (oS rfl (ow_nil (kw_lqS (js := [0]) (fuel, v6, x38) H1 (Nat.lt_succ_self _) ⟨rfl, rfl, rfl, trivial⟩ ⟨0, [], rfl, rfl, trivial⟩ (by decide))))))))
  have H1 := cond_f H1 h8
  refine cw_exit (kw_nx_exit (kw_lq_exit (kw_bl ?_)))
  obtain rfl := sI H1
  exact kw_joinS (js := [0]) (v6, v7) rfl ⟨rfl, rfl, rfl, trivial⟩ ⟨0, [], rfl, rfl, trivial⟩ (by decide)
 rintro ⟨v6, v7⟩ rfl
 dsimp only
 refine kw_nx (sr (oM rfl (oJ rfl (oS rfl (nn (cw_ret ?_))))))
 obtain rfl := sI H0
 exact kr Tryz.results44 (rT rfl) [] ⟨rfl, rfl⟩

theorem c_s_SpaceOf (fl : Nat) (w : World) (a0 : Tg) (a1 : Int) (hn0_0 : n0_0 = (a0.o).length) (hr0_0 : RO w (hkeys []) (RdL p0_0 c0_0 a0.o)) (r : Int × Bool) (H0 : s_SpaceOf fl a0 a1 = some r) :
  Ct Tryz.prog 85 [.agg #[.int .i64 a0.c, .int .i64 a0.n, .int .i64 a0.r, .slice p0_0 n0_0 c0_0], .int .i64 a1] w [] (fun rv h' => rv = .tuple #[.int .i64 r.1, .bool r.2] ∧ h' = []) := by
 subst hn0_0
 unfold s_SpaceOf at H0
 refine ct_of_cw Tryz.func85 rfl Tryz.ntmps85 rfl (Sat.refl _ _) ?_
 refine sr (oE (stpU_box 0 rfl rfl) rfl ?_)
 rintro _ _ ⟨b1, rfl, rfl⟩
 obtain ⟨o0_0, eo0_0, H0⟩ := bS H0
 refine oS rfl (oS rfl (nn (cw_seq (sr (oS rfl (nn (cw_join (ι := Int) (fun | v2 => o0_0 = .out v2) (fun | v2 => [(1, .int .i64 a1), (2, .pointer (some ⟨b1, 0, none⟩)), (6, .int .i64 v2)]) (fun | v2 => [(0, [(b1, .cells #[.int .i64 a0.c, .int .i64 a0.n, .int .i64 a0.r, .slice p0_0 ((a0.o).length) c0_0] 32 (0, 0))])]) ?_ ?_)))))))
 ·refine cw_block (cw_loopS (ι := Nat × Int) (js := [0]) (fun x => x.1) (fun | (fuel, v2) => s_SpaceOf_L0 fl a0 a1 fuel v2 = some o0_0) (fun | (_, v2) => [(1, .int .i64 a1), (2, .pointer (some ⟨b1, 0, none⟩)), (6, .int .i64 v2)]) (fun | (_, v2) => [(0, [(b1, .cells #[.int .i64 a0.c, .int .i64 a0.n, .int .i64 a0.r, .slice p0_0 ((a0.o).length) c0_0] 32 (0, 0))])]) (fl, 0) eo0_0 ⟨rfl, rfl, rfl, trivial⟩ ⟨0, [], rfl, rfl, trivial⟩ (by decide) ?_)
  rintro ⟨fuel, v2⟩ H1
  have H1 : s_SpaceOf_L0 fl a0 a1 fuel v2 = some o0_0 := H1
  rcases fuel with _ | fuel
  ·rw [s_SpaceOf_L0.eq_1] at H1; cases H1
  rw [s_SpaceOf_L0.eq_2] at H1
  dsimp only
  obtain ⟨y3, ey3, H1⟩ := bS H1
  refine cw_seq (sr (oM rfl (oA 3 Tryz.underlying32 rfl ts30 rfl (oL 0 ts30 rfl (oD (stp_len Tryz.underlying30 rfl) rfl (oW rfl (oM rfl (ow_cutY 3 15 y3 ?_ ?_))))))))
  ·rcases Bool.eq_false_or_eq_true (decide (v2 < ((a0.o).length : Int))) with hy3 | hy3
   ·have ey3 := cond_t ey3 hy3
    obtain ⟨x4, e4, ey3⟩ := bS ey3
    refine oG rfl hy3 (stp_loadN (us := [_, _, _, _]) ts32 rfl (Cells.box (id := 0) rfl 4 rfl)) rfl (ow_eff (.some rfl hy3) (stpU_call (fun i => 1 + i) cf45 (fun w hw => c_s_TagsValid fl w a0 rfl (RO.pass hr0_0 hw) x4 e4) (yA rfl)) rfl ?_)
    rintro _ _ ⟨_, ⟨rfl, rfl⟩, rfl⟩
    refine oD (stp_pick_t rfl hy3 rfl) rfl ?_
    obtain rfl := sI ey3
    exact ow_nil (jy 3 0)
   have ey3 := cond_f ey3 hy3
   refine oO rfl hy3 rfl (oO rfl hy3 rfl (oD (stp_pick_f rfl hy3 rfl) rfl ?_))
   obtain rfl := sI ey3
   exact ow_nil (jy 3 0)
  refine ow_nil (kw_nx (cw_cond rfl (fun h5 => ?_) (fun h5 => ?_)))
  ·have H1 := cond_t H1 h5
   obtain ⟨x6, e6, H1⟩ := bS H1
   refine cw_skip (kw_nx (cw_seq (cw_block (sr (oA 3 Tryz.underlying32 rfl ts30 rfl (oL 0 ts30 rfl (oM rfl (oD (stp_indexAddr Tryz.underlying30 ts89 (by decide) rfl rfl rfl (Rdb.ro hr0_0) e6) rfl (oA 1 Tryz.underlying89 rfl ts3 rfl (oD (stp_load1 ts3 rfl (Cells.el (Rdb.ro hr0_0) (by decide) e6 1 1 rfl)) rfl (oM rfl (oQ rfl (nn ?_)))))))))))))
   refine cw_cond rfl (fun h7 => ?_) (fun h7 => ?_)
   ·have H1 := cond_t H1 h7
    refine sr (oA 3 Tryz.underlying32 rfl ts30 rfl (oL 0 ts30 rfl (oM rfl (oD (stp_indexAddr Tryz.underlying30 ts89 (by decide) rfl rfl rfl (Rdb.ro hr0_0) e6) rfl (oA 0 Tryz.underlying89 rfl ts3 rfl (oD (stp_load1 ts3 rfl (Cells.el (Rdb.ro hr0_0) (by decide) e6 0 1 rfl)) rfl (oS rfl (oS rfl (nn (cw_ret (kw_bl_ret (kw_nx_ret (kw_lq_ret ?_)))))))))))))
    refine kw_bl_ret (kw_join_ret (kw_nx_ret ?_))
    obtain rfl := sI H1
    obtain rfl := sI H0
    exact kr Tryz.results85 (.cons (.tmp rfl) (rT rfl)) [] ⟨rfl, rfl⟩
   have H1 := cond_f H1 h7
   obtain ⟨x8, e8, H1⟩ := bS H1
   exact cw_skip (kw_bl_normal (kw_nx (cw_region (oM rfl (oP e8 rfl (oS rfl (ow_nil (kw_lqS (js := [0]) (fuel, x8) H1 (Nat.lt_succ_self _) ⟨rfl, rfl, rfl, trivial⟩ ⟨0, [], rfl, rfl, trivial⟩ (by decide)))))))))
  have H1 := cond_f H1 h5
  refine cw_exit (kw_nx_exit (kw_lq_exit (kw_bl ?_)))
  obtain rfl := sI H1
  exact kw_joinS (js := [0]) v2 rfl ⟨rfl, rfl, rfl, trivial⟩ ⟨0, [], rfl, rfl, trivial⟩ (by decide)
 rintro v2 rfl
 dsimp only
 refine kw_nx (sr (oS rfl (oS rfl (nn (cw_ret ?_)))))
 obtain rfl := sI H0
 exact kr Tryz.results85 (.cons (.tmp rfl) (rT rfl)) [] ⟨rfl, rfl⟩

theorem c_s_KeyFor (fl : Nat) (w : World) (a0 : Int) (a1 : Int) (r : K) (H0 : s_KeyFor fl a0 a1 = some r) :
  Ct Tryz.prog 87 [.int .i64 a0, .int .i64 a1] w [] (fun rv h' => rv = .agg #[.int .i64 r.s, .int .i64 r.p] ∧ h' = []) := by
 unfold s_KeyFor at H0
 refine ct_of_cw Tryz.func87 rfl Tryz.ntmps87 rfl (Sat.refl _ _) ?_
 refine sr (oE (stpU_alloc 0 tz49 rfl) rfl ?_)
 rintro _ _ ⟨b1, rfl, rfl⟩
 refine nn (cw_seq (sr (oM rfl (oI rfl (nn (cw_cond rfl (fun h2 => ?_) (fun h2 => ?_)))))))
 ·have H0 := cond_t H0 h2
  refine sr (oM rfl (oD (stp_build (cs := #[.int .i64 0, .int .i64 a1]) (sevp_cons rfl sevp_nil) bt49_12) rfl (oC2 0 ts49 rfl rfl (nn (cw_ret (kw_nx_ret ?_))))))
  obtain rfl := sI H0
  exact kr Tryz.results87 (rC2 0 ts49 rfl rfl) [] ⟨rfl, rfl⟩
 have H0 := cond_f H0 h2
 refine cw_skip (kw_nx (sr (oM rfl (oM rfl (oD (stp_build (cs := #[.int .i64 a0, .int .i64 a1]) (sevp_cons rfl (sevp_cons rfl sevp_nil)) bt49_13) rfl (oC2 0 ts49 rfl rfl (nn (cw_ret ?_))))))))
 obtain rfl := sI H0
 exact kr Tryz.results87 (rC2 0 ts49 rfl rfl) [] ⟨rfl, rfl⟩

theorem c_s_l2Hash (fl : Nat) (w : World) (a0 : K) (a1 : Int) (r : Int) (H0 : s_l2Hash fl a0 a1 = some r) :
  Ct Tryz.prog 82 [.agg #[.int .i64 a0.s, .int .i64 a0.p], .int .i64 a1] w [] (fun rv h' => rv = .int .i64 r ∧ h' = []) := by
 unfold s_l2Hash at H0
 refine ct_of_cw Tryz.func82 rfl Tryz.ntmps82 rfl (Sat.refl _ _) ?_
 refine sr (oE (stpU_box 0 rfl rfl) rfl ?_)
 rintro _ _ ⟨b1, rfl, rfl⟩
 obtain ⟨x2, e2, H0⟩ := bS H0
 obtain ⟨x3, e3, H0⟩ := bS H0
 obtain ⟨x4, e4, H0⟩ := bS H0
 refine oS rfl (nn (sr (oA 0 Tryz.underlying49 rfl ts3 rfl (oL 0 ts3 rfl (oD (stp_mul rfl rfl e2) rfl (oA 1 Tryz.underlying49 rfl ts3 rfl (oL 0 ts3 rfl (oP e3 rfl (oS rfl (nn (sr (oM rfl (oD (stp_mul rfl rfl e4) rfl ?_)))))))))))))
 obtain ⟨x5, e5, H0⟩ := bS H0
 obtain ⟨x6, e6, H0⟩ := bS H0
 obtain ⟨x7, e7, H0⟩ := bS H0
 refine oD (stp_rem rfl rfl e5) rfl (oM rfl (oD (stp_mul rfl rfl e6) rfl (oD (stp_quo rfl rfl e7) rfl (oS rfl (nn (cw_ret ?_))))))
 obtain rfl := sI H0
 exact kr Tryz.results82 (rT rfl) [] ⟨rfl, rfl⟩

theorem c_s_l3Chain (fl : Nat) (w : World) (a0 : T) (a1 : Int) (hn0_0 : n0_0 = (a0.b).length) (hr0_0 : RO w (hkeys []) (RdL p0_0 c0_0 a0.b)) (hn0_1 : n0_1 = (a0.f).length) (hr0_1 : RO w (hkeys []) (RdL p0_1 c0_1 a0.f)) (r : (List Int) × Bool) (H0 : s_l3Chain fl a0 a1 = some r) :
  Ct Tryz.prog 81 [.agg #[.slice p0_0 n0_0 c0_0, .slice p0_1 n0_1 c0_1], .int .i64 a1] w [] (fun rv h' => ∃ (x0 : Option Addr) (y0 z0 : Nat) (C0 : Res), rv = .tuple #[.slice x0 y0 z0, .bool r.2] ∧ h' = [(0, C0)] ∧ y0 = (r.1).length ∧ OwnC 3 x0 z0 r.1 C0) := by
 subst hn0_0 hn0_1
 unfold s_l3Chain at H0
 refine ct_of_cw Tryz.func81 rfl Tryz.ntmps81 rfl (Sat.refl _ _) ?_
 refine sr (oE (stpU_box 0 rfl rfl) rfl ?_)
 rintro _ _ ⟨b1, rfl, rfl⟩
 refine oS rfl (oS rfl (nn (sr (oE (stpU_lit0 sl23 1) rfl ?_))))
 rintro _ _ ⟨p2, C3, rfl, rfl, o3⟩
 obtain ⟨x4, e4, H0⟩ := bS H0
 obtain ⟨o0_0, eo0_0, H0⟩ := bS H0
 refine oS rfl (nn (sr (oA 0 Tryz.underlying26 rfl ts23 rfl (oL 0 ts23 rfl (oM rfl (oD (stp_indexAddr Tryz.underlying23 ts3 (by decide) rfl rfl rfl (Rdb.ro hr0_0) e4) rfl (oD (stp_load1 ts3 rfl (Cells.el (Rdb.ro hr0_0) (by decide) e4 0 1 rfl)) rfl (oS rfl (nn (cw_seq (cw_join (ι := (List Int) × Int × Option Addr × Nat × Nat × Res) (fun | (v5, v10, p6, n7, c8, C9) => o0_0 = .out (v5, v10) ∧ n7 = (v5).length ∧ OwnC 3 p6 c8 v5 C9) (fun | (v5, v10, p6, n7, c8, C9) => [(2, .pointer (some ⟨b1, 0, none⟩)), (6, .slice p6 n7 c8), (7, .int .i64 v10)]) (fun | (v5, v10, p6, n7, c8, C9) => [(0, [(b1, .cells #[.slice p0_0 ((a0.b).length) c0_0, .slice p0_1 ((a0.f).length) c0_1] 26 (0, 0))]), (1, C9)]) ?_ ?_)))))))))))
 ·refine cw_block (cw_loopS (ι := Nat × (List Int) × Int × Option Addr × Nat × Nat × Res) (js := [0, 1]) (fun x => x.1) (fun | (fuel, v5, v10, p6, n7, c8, C9) => s_l3Chain_L0 fl a0 fuel v5 v10 = some o0_0 ∧ n7 = (v5).length ∧ OwnC 3 p6 c8 v5 C9) (fun | (_, v5, v10, p6, n7, c8, C9) => [(2, .pointer (some ⟨b1, 0, none⟩)), (6, .slice p6 n7 c8), (7, .int .i64 v10)]) (fun | (_, v5, v10, p6, n7, c8, C9) => [(0, [(b1, .cells #[.slice p0_0 ((a0.b).length) c0_0, .slice p0_1 ((a0.f).length) c0_1] 26 (0, 0))]), (1, C9)]) (fl, ([] : List Int), x4, p2, 0, 0, C3) ⟨eo0_0, (by simp), o3⟩ ⟨rfl, rfl, rfl, trivial⟩ ⟨0, [1], rfl, rfl, 1, [], rfl, rfl, trivial⟩ (by decide) ?_)
  rintro ⟨fuel, v5, v10, p6, _, c8, C9⟩ ⟨H1, rfl, o9⟩
  have H1 : s_l3Chain_L0 fl a0 fuel v5 v10 = some o0_0 := H1
  rcases fuel with _ | fuel
  ·rw [s_l3Chain_L0.eq_1] at H1; cases H1
  rw [s_l3Chain_L0.eq_2] at H1
  dsimp only
  refine cw_seq (sr (oM rfl (oU rfl (nn (cw_cond rfl (fun h11 => ?_) (fun h11 => ?_))))))
  ·have H1 := cond_t H1 h11
   obtain ⟨y12, ey12, H1⟩ := bS H1
   refine cw_skip (kw_nx (cw_block (cw_seq (sr (oM rfl (oW rfl (oM rfl (ow_cutY 6 24 y12 ?_ ?_))))))))
   ·rcases Bool.eq_false_or_eq_true (decide (v10 < 0)) with hy12 | hy12
    ·have ey12 := cond_t ey12 hy12
     refine oO rfl hy12 rfl (oO rfl hy12 rfl (oO rfl hy12 rfl (oO rfl hy12 rfl (oO rfl hy12 rfl (oD (stp_pick_t rfl hy12 rfl) rfl ?_)))))
     obtain rfl := sI ey12
     exact ow_nil (jy 6 0)
    have ey12 := cond_f ey12 hy12
    refine oG rfl hy12 (mv rfl) rfl (oG rfl hy12 (fA 1 Tryz.underlying26 rfl ts24 rfl rfl rfl) rfl (oG rfl hy12 (lB 0 ts24 rfl rfl rfl) rfl (oG rfl hy12 (stp_len Tryz.underlying24 rfl) rfl (oG rfl hy12 (stp_geq rfl rfl) rfl (oD (stp_pick_f rfl hy12 rfl) rfl ?_)))))
    obtain rfl := sI ey12
    exact ow_nil (jy 6 0)
   obtain ⟨y13, ey13, H1⟩ := bS H1
   refine oM rfl (ow_cutY 7 32 y13 ?_ ?_)
   ·rcases Bool.eq_false_or_eq_true y12 with hy13 | hy13
    ·have ey13 := cond_t ey13 hy13
     refine oO rfl hy13 rfl (oO rfl hy13 rfl (oO rfl hy13 rfl (oO rfl hy13 rfl (oO rfl hy13 rfl (oO rfl hy13 rfl (oD (stp_pick_t rfl hy13 rfl) rfl ?_))))))
     obtain rfl := sI ey13
     exact ow_nil (jy 7 0)
    have ey13 := cond_f ey13 hy13
    refine oG rfl hy13 (mv rfl) rfl (oG rfl hy13 (stp_len Tryz.underlying23 rfl) rfl (oG rfl hy13 (fA 1 Tryz.underlying26 rfl ts24 rfl rfl rfl) rfl (oG rfl hy13 (lB 0 ts24 rfl rfl rfl) rfl (oG rfl hy13 (stp_len Tryz.underlying24 rfl) rfl (oG rfl hy13 (stp_geq rfl rfl) rfl (oD (stp_pick_f rfl hy13 rfl) rfl ?_))))))
    obtain rfl := sI ey13
    exact ow_nil (jy 7 0)
   obtain ⟨y14, ey14, H1⟩ := bS H1
   refine oM rfl (ow_cutY 8 41 y14 ?_ ?_)
   ·rcases Bool.eq_false_or_eq_true y13 with hy14 | hy14
    ·have ey14 := cond_t ey14 hy14
     refine oO rfl hy14 rfl (oO rfl hy14 rfl (oO rfl hy14 rfl (oO rfl hy14 rfl (oO rfl hy14 rfl (oO rfl hy14 rfl (oO rfl hy14 rfl (oD (stp_pick_t rfl hy14 rfl) rfl ?_)))))))
     obtain rfl := sI ey14
     exact ow_nil (jy 8 0)
    have ey14 := cond_f ey14 hy14
    obtain ⟨x15, e15, ey14⟩ := bS ey14
    refine oG rfl hy14 (fA 1 Tryz.underlying26 rfl ts24 rfl rfl rfl) rfl (oG rfl hy14 (lB 0 ts24 rfl rfl rfl) rfl (oG rfl hy14 (mv rfl) rfl (oG rfl hy14 (stp_indexAddr Tryz.underlying24 ts51 (by decide) rfl rfl rfl (Rdb.ro hr0_1) e15) rfl (oG rfl hy14 (fA 0 Tryz.underlying51 rfl ts4 rfl rfl rfl) rfl (oG rfl hy14 (stp_load1 ts4 rfl (Cells.el (Rdb.ro hr0_1) (by decide) e15 0 1 rfl)) rfl (oG rfl hy14 (stp_not rfl) rfl (oD (stp_pick_f rfl hy14 rfl) rfl ?_)))))))
    obtain rfl := sI ey14
    exact ow_nil (jy 8 0)
   refine ow_nil (kw_nx (cw_cond rfl (fun h16 => ?_) (fun h16 => ?_)))
   ·have H1 := cond_t H1 h16
    refine sr (oM rfl (oS rfl (oS rfl (nn (cw_ret (kw_nx_ret (kw_bl_ret (kw_lq_ret (kw_bl_ret (kw_join_ret (kw_nx_ret ?_)))))))))))
    obtain rfl := sI H1
    obtain rfl := sI H0
    exact kr Tryz.results81 (.cons (.tmp rfl) (rT rfl)) [1] ⟨_, _, _, _, rfl, rfl, rfl, o9⟩
   have H1 := cond_f H1 h16
   refine cw_skip (kw_nx (sr (oM rfl (oM rfl (oE (stpU_lit (sz := 1) (l := [v10]) [.int .i64 v10] sl23 2 (sevp_cons rfl sevp_nil) rfl rfl rfl rfl rfl rfl rfl rfl rfl) rfl ?_)))))
   rintro _ _ ⟨p17, C18, rfl, rfl, o18⟩
   obtain ⟨x19, e19, H1⟩ := bS H1
   refine oE (stpU_append sl23 rfl (id := 1) rfl rfl rfl (by simp) rfl o9 (Rdb.own (id := 2) rfl o18) e19) rfl ?_
   rintro _ _ ⟨p20, c21, C22, rfl, rfl, o22⟩
   obtain ⟨x23, e23, H1⟩ := bS H1
   exact oS rfl (nn (cw_region (oA 1 Tryz.underlying26 rfl ts24 rfl (oL 0 ts24 rfl (oM rfl (oD (stp_indexAddr Tryz.underlying24 ts51 (by decide) rfl rfl rfl (Rdb.ro hr0_1) e23) rfl (oA 4 Tryz.underlying51 rfl ts3 rfl (oD (stp_load1 ts3 rfl (Cells.el (Rdb.ro hr0_1) (by decide) e23 4 1 rfl)) rfl (oS rfl (ow_nil (kw_bl_normal (kw_lqS (js := [0, 1]) (fuel, x19, x23.nx, p20, ((x19).length), c21, C22) ⟨H1, rfl, o22⟩ (Nat.lt_succ_self _) ⟨rfl, rfl, rfl, trivial⟩ ⟨0, [1], rfl, rfl, 1, [], rfl, rfl, trivial⟩ (by decide)))))))))))))
  have H1 := cond_f H1 h11
  refine cw_exit (kw_nx_exit (kw_lq_exit (kw_bl ?_)))
  obtain rfl := sI H1
  exact kw_joinS (js := [0, 1]) (v5, v10, p6, ((v5).length), c8, C9) ⟨rfl, rfl, o9⟩ ⟨rfl, rfl, rfl, trivial⟩ ⟨0, [1], rfl, rfl, 1, [], rfl, rfl, trivial⟩ (by decide)
 rintro ⟨v5, v10, p6, _, c8, C9⟩ ⟨rfl, rfl, o9⟩
 dsimp only
 refine kw_nx (sr (oM rfl (oS rfl (oS rfl (nn (cw_ret ?_))))))
 obtain rfl := sI H0
 exact kr Tryz.results81 (.cons (.tmp rfl) (rT rfl)) [1] ⟨_, _, _, _, rfl, rfl, rfl, o9⟩

theorem c_s_l3Find (fl : Nat) (w : World) (a0 : T) (a1 : K) (hn0_0 : n0_0 = (a0.b).length) (hr0_0 : RO w (hkeys []) (RdL p0_0 c0_0 a0.b)) (hn0_1 : n0_1 = (a0.f).length) (hr0_1 : RO w (hkeys []) (RdL p0_1 c0_1 a0.f)) (r : Int × Int) (H0 : s_l3Find fl a0 a1 = some r) :
  Ct Tryz.prog 86 [.agg #[.slice p0_0 n0_0 c0_0, .slice p0_1 n0_1 c0_1], .agg #[.int .i64 a1.s, .int .i64 a1.p]] w [] (fun rv h' => rv = .tuple #[.int .i64 r.1, .int .i64 r.2] ∧ h' = []) := by
 subst hn0_0 hn0_1
 unfold s_l3Find at H0
 refine ct_of_cw Tryz.func86 rfl Tryz.ntmps86 rfl (Sat.refl _ _) ?_
 refine sr (oE (stpU_box 0 rfl rfl) rfl ?_)
 rintro _ _ ⟨b1, rfl, rfl⟩
 refine oE (stpU_box 1 rfl rfl) rfl ?_
 rintro _ _ ⟨b2, rfl, rfl⟩
 obtain ⟨x3, e3, H0⟩ := bS H0
 obtain ⟨x4, e4, H0⟩ := bS H0
 refine oS rfl (oS rfl (nn (cw_seq (rdt g_mixed (rn 0 12) ⟨[[0],[1],[],[0]], [[],[],[],[],[],[],[2]], [6]⟩ (dB2 0 ts26 rfl (dB2 1 ts49 rfl (dA 0 rfl Tryz.underlying26 rfl ts23 rfl (dL 0 ts23 rfl (dD rfl (stp_len Tryz.underlying23 rfl) (dV rfl (fun hh => stpU_call (fun i => 2 + i) cf82 (fun w hw => c_s_l2Hash fl w a1 ((a0.b).length : Int) x3 e3) (yB rfl rfl)) rfl (dE rfl (fun hh => stpU_call (fun i => 2 + i) cf81 (fun w hw => c_s_l3Chain fl w a0 x3 rfl (RO.pass hr0_0 hw) rfl (RO.pass hr0_1 hw) x4 e4) (yB rfl rfl)) ?_)))))))))))
 rintro _ _ ⟨_, ⟨p5, _, c7, C8, rfl, rfl, rfl, o8⟩, rfl⟩
 obtain ⟨o0_0, eo0_0, H0⟩ := bS H0
 refine dk rfl (dM rfl (dT rfl (dT rfl (dS rfl (dS rfl (dn (kw_nx (cw_seq (sr (oS rfl (nn (cw_join (ι := Int) (fun | v9 => o0_0 = .out v9) (fun | v9 => [(2, .pointer (some ⟨b1, 0, none⟩)), (3, .pointer (some ⟨b2, 0, none⟩)), (6, .slice p5 ((x4.1).length) c7), (8, .int .i64 v9)]) (fun | v9 => [(0, [(b1, .cells #[.slice p0_0 ((a0.b).length) c0_0, .slice p0_1 ((a0.f).length) c0_1] 26 (0, 0))]), (1, [(b2, .cells #[.int .i64 a1.s, .int .i64 a1.p] 49 (0, 0))]), (2, C8)]) ?_ ?_))))))))))))
 ·refine cw_block (cw_loopS (ι := Nat × Int) (js := [0, 1, 2]) (fun x => x.1) (fun | (fuel, v9) => s_l3Find_L0 fl a0 a1 x4 fuel v9 = some o0_0) (fun | (_, v9) => [(2, .pointer (some ⟨b1, 0, none⟩)), (3, .pointer (some ⟨b2, 0, none⟩)), (6, .slice p5 ((x4.1).length) c7), (8, .int .i64 v9)]) (fun | (_, v9) => [(0, [(b1, .cells #[.slice p0_0 ((a0.b).length) c0_0, .slice p0_1 ((a0.f).length) c0_1] 26 (0, 0))]), (1, [(b2, .cells #[.int .i64 a1.s, .int .i64 a1.p] 49 (0, 0))]), (2, C8)]) (fl, 0) eo0_0 ⟨rfl, rfl, rfl, rfl, trivial⟩ ⟨0, [1, 2], rfl, rfl, 1, [2], rfl, rfl, 2, [], rfl, rfl, trivial⟩ (by decide) ?_)
  rintro ⟨fuel, v9⟩ H1
  have H1 : s_l3Find_L0 fl a0 a1 x4 fuel v9 = some o0_0 := H1
  rcases fuel with _ | fuel
  ·rw [s_l3Find_L0.eq_1] at H1; cases H1
  rw [s_l3Find_L0.eq_2] at H1
  dsimp only
  refine cw_seq (sr (oM rfl (oM rfl (oD (stp_len Tryz.underlying23 rfl) rfl (oW rfl (nn (cw_cond rfl (fun h10 => ?_) (fun h10 => ?_))))))))
  ·have H1 := cond_t H1 h10
   obtain ⟨x11, e11, H1⟩ := bS H1
   obtain ⟨x12, e12, H1⟩ := bS H1
   refine cw_skip (kw_nx (cw_seq (cw_block (cw_seq (rdt g_mixed (rn 0 11) ⟨[[],[0],[],[],[2],[2],[],[],[],[1]], [], []⟩ (dA 1 rfl Tryz.underlying26 rfl ts24 rfl (dL 0 ts24 rfl (dM rfl (dM rfl (dD rfl (stp_indexAddr Tryz.underlying23 ts3 (by decide) rfl rfl rfl (Rdb.own (id := 2) rfl o8) e11) (dD rfl (stp_load1 ts3 rfl (Cells.el (Rdb.own (id := 2) rfl o8) (by decide) e11 0 1 rfl)) (dD rfl (stp_indexAddr Tryz.underlying24 ts51 (by decide) rfl rfl rfl (Rdb.ro hr0_1) e12) (dA 1 rfl Tryz.underlying51 rfl ts49 rfl ?_)))))))))))))
   refine dD rfl (stp_loadN (us := [_, _]) ts49 rfl (Cells.el (Rdb.ro hr0_1) (by decide) e12 1 2 rfl)) (dB2 1 ts49 rfl (dD rfl (stp_eqlS te49 x12.k a1 rfl rfl) (dn (kw_nx (cw_cond rfl (fun h13 => ?_) (fun h13 => ?_))))))
   ·have H1 := cond_t H1 h13
    obtain ⟨x14, e14, H1⟩ := bS H1
    refine sr (oM rfl (oM rfl (oD (stp_indexAddr Tryz.underlying23 ts3 (by decide) rfl rfl rfl (Rdb.own (id := 2) rfl o8) e11) rfl (oD (stp_load1 ts3 rfl (Cells.el (Rdb.own (id := 2) rfl o8) (by decide) e11 0 1 rfl)) rfl (oM rfl (oP e14 rfl (oS rfl (oS rfl (nn (cw_ret (kw_bl_ret (kw_nx_ret (kw_lq_ret ?_)))))))))))))
    refine kw_bl_ret (kw_join_ret (kw_nx_ret ?_))
    obtain rfl := sI H1
    obtain rfl := sI H0
    exact kr Tryz.results86 (.cons (.tmp rfl) (rT rfl)) [] ⟨rfl, rfl⟩
   have H1 := cond_f H1 h13
   obtain ⟨x15, e15, H1⟩ := bS H1
   exact cw_skip (kw_bl_normal (kw_nx (cw_region (oM rfl (oP e15 rfl (oS rfl (ow_nil (kw_lqS (js := [0, 1, 2]) (fuel, x15) H1 (Nat.lt_succ_self _) ⟨rfl, rfl, rfl, rfl, trivial⟩ ⟨0, [1, 2], rfl, rfl, 1, [2], rfl, rfl, 2, [], rfl, rfl, trivial⟩ (by decide)))))))))
  have H1 := cond_f H1 h10
  refine cw_exit (kw_nx_exit (kw_lq_exit (kw_bl ?_)))
  obtain rfl := sI H1
  exact kw_joinS (js := [0, 1, 2]) v9 rfl ⟨rfl, rfl, rfl, rfl, trivial⟩ ⟨0, [1, 2], rfl, rfl, 1, [2], rfl, rfl, 2, [], rfl, rfl, trivial⟩ (by decide)
 rintro v9 rfl
 dsimp only
 refine kw_nx (sr (oM rfl (oD (stp_len Tryz.underlying23 rfl) rfl (oS rfl (oS rfl (nn (cw_ret ?_)))))))
 obtain rfl := sI H0
 exact kr Tryz.results86 (.cons (.tmp rfl) (rT rfl)) [] ⟨rfl, rfl⟩

theorem c_s_l6Line (fl : Nat) (w : World) (a0 : Mc) (a1 : Ln) (hn0_0 : n0_0 = (a0.t.b).length) (hr0_0 : RO w (hkeys []) (RdL p0_0 c0_0 a0.t.b)) (hn0_1 : n0_1 = (a0.t.f).length) (hr0_1 : RO w (hkeys []) (RdL p0_1 c0_1 a0.t.f)) (hn0_2 : n0_2 = (a0.c.l).length) (hr0_2 : RO w (hkeys []) (RdL p0_2 c0_2 a0.c.l)) (hn0_3 : n0_3 = (a0.g.o).length) (hr0_3 : RO w (hkeys []) (RdL p0_3 c0_3 a0.g.o)) (r : Bool) (H0 : s_l6Line fl a0 a1 = some r) :
  Ct Tryz.prog 47 [.agg #[.slice p0_0 n0_0 c0_0, .slice p0_1 n0_1 c0_1, .slice p0_2 n0_2 c0_2, .int .i64 a0.c.h, .int .i64 a0.g.c, .int .i64 a0.g.n, .int .i64 a0.g.r, .slice p0_3 n0_3 c0_3, .int .i64 a0.s], .agg #[.bool a1.va, .int .i64 a1.tg, .int .i64 a1.pg, .int .i64 a1.fr, .int .i64 a1.ri, .bool a1.wi]] w [] (fun rv h' => rv = .bool r ∧ h' = []) := by
 subst hn0_0 hn0_1 hn0_2 hn0_3
 unfold s_l6Line at H0
 refine ct_of_cw Tryz.func47 rfl Tryz.ntmps47 rfl (Sat.refl _ _) ?_
 refine sr (oE (stpU_box 0 rfl rfl) rfl ?_)
 rintro _ _ ⟨b1, rfl, rfl⟩
 refine oE (stpU_box 1 rfl rfl) rfl ?_
 rintro _ _ ⟨b2, rfl, rfl⟩
 refine oS rfl (nn (sr (oS rfl (nn (cw_seq (sr (oA 1 Tryz.underlying47 rfl ts3 rfl (oL 1 ts3 rfl (oQ rfl (oA 2 Tryz.underlying47 rfl ts3 rfl (oL 1 ts3 rfl (oI rfl (oD (stp_neqB Tryz.underlying4 rfl rfl) rfl ?_)))))))))))))
 refine nn (cw_cond rfl (fun h3 => ?_) (fun h3 => ?_))
 ·have H0 := cond_t H0 h3
  refine sr (oS rfl (nn (cw_ret (kw_nx_ret ?_))))
  obtain rfl := sI H0
  exact kr Tryz.results47 (rT rfl) [] ⟨rfl, rfl⟩
 have H0 := cond_f H0 h3
 refine cw_skip (kw_nx (cw_seq (sr (oA 1 Tryz.underlying47 rfl ts3 rfl (oL 1 ts3 rfl (oU rfl (nn (cw_cond rfl (fun h4 => ?_) (fun h4 => ?_)))))))))
 ·have H0 := cond_t H0 h4
  obtain ⟨x5, e5, H0⟩ := bS H0
  refine sr (oA 4 Tryz.underlying34 rfl ts32 rfl (oB4 0 ts32 rfl (oA 1 Tryz.underlying47 rfl ts3 rfl (oL 1 ts3 rfl (oE (stpU_call (fun i => 2 + i) cf85 (fun w hw => c_s_SpaceOf fl w a0.g a1.tg rfl (RO.pass hr0_3 hw) x5 e5) (yB rfl rfl)) rfl ?_)))))
  rintro _ _ ⟨_, ⟨rfl, rfl⟩, rfl⟩
  refine oM rfl (oT rfl (oT rfl (oS rfl (oS rfl (nn (cw_seq (sr (oM rfl (oK rfl (nn (cw_cond rfl (fun h6 => ?_) (fun h6 => ?_))))))))))))
  ·have H0 := cond_t H0 h6
   refine sr (oS rfl (nn (cw_ret (kw_nx_ret (kw_nx_ret ?_)))))
   obtain rfl := sI H0
   exact kr Tryz.results47 (rT rfl) [] ⟨rfl, rfl⟩
  have H0 := cond_f H0 h6
  obtain ⟨x7, e7, H0⟩ := bS H0
  refine cw_skip (kw_nx (cw_region (oM rfl (oS rfl (nn (cw_seq (rdt g_mixed (rn 0 12) ⟨[[],[0],[],[],[1]], [], []⟩ (dA 0 rfl Tryz.underlying34 rfl ts26 rfl (dB2 0 ts26 rfl (dM rfl (dA 2 rfl Tryz.underlying47 rfl ts3 rfl (dL 1 ts3 rfl (dV rfl (fun hh => stpU_call (fun i => 2 + i) cf87 (fun w hw => c_s_KeyFor fl w x5.1 a1.pg x7 e7) (yB rfl rfl)) rfl ?_)))))))))))))
  obtain ⟨x8, e8, H0⟩ := bS H0
  obtain ⟨y9, ey9, H0⟩ := bS H0
  refine dV rfl (fun hh => stpU_call (fun i => 2 + i) cf86 (fun w hw => c_s_l3Find fl w a0.t x7 rfl (RO.pass hr0_0 hw) rfl (RO.pass hr0_1 hw) x8 e8) (yB rfl rfl)) rfl (dM rfl (dT rfl (dT rfl (dS rfl (dS rfl (dn (kw_nx (cw_seq (rdt g_mixed (rn 0 31) ⟨[[],[],[],[],[],[1],[],[],[],[],[],[0],[],[],[],[],[],[1],[],[],[],[],[1],[],[],[],[1]], [], []⟩ (dM rfl (dI rfl (dM rfl (dcY 5 48 y9 ?_ ?_)))))))))))))
  ·rcases Bool.eq_false_or_eq_true (decide (0 ≤ x8.1)) with hy9 | hy9
   ·have ey9 := cond_t ey9 hy9
    refine dG rfl hy9 (mv rfl) (dG rfl hy9 (fA 3 Tryz.underlying47 rfl ts3 rfl rfl rfl) (dG rfl hy9 (lB 1 ts3 rfl rfl rfl) (dG rfl hy9 (stp_eql rfl rfl) (dD rfl (stp_pick_t rfl hy9 rfl) ?_))))
    obtain rfl := sI ey9
    exact dy 5 0
   have ey9 := cond_f ey9 hy9
   refine dO rfl hy9 (dO rfl hy9 (dO rfl hy9 (dO rfl hy9 (dD rfl (stp_pick_f rfl hy9 rfl) ?_))))
   obtain rfl := sI ey9
   exact dy 5 0
  obtain ⟨y10, ey10, H0⟩ := bS H0
  refine dM rfl (dcY 11 60 y10 ?_ ?_)
  ·rcases Bool.eq_false_or_eq_true y9 with hy10 | hy10
   ·have ey10 := cond_t ey10 hy10
    obtain ⟨x11, e11, ey10⟩ := bS ey10
    refine dG rfl hy10 (fA 0 Tryz.underlying34 rfl ts26 rfl rfl rfl) (dG rfl hy10 (fA 1 Tryz.underlying26 rfl ts24 rfl rfl rfl) (dG rfl hy10 (lB 0 ts24 rfl rfl rfl) (dG rfl hy10 (mv rfl) (dG rfl hy10 (stp_indexAddr Tryz.underlying24 ts51 (by decide) rfl rfl rfl (Rdb.ro hr0_1) e11) (dG rfl hy10 (fA 3 Tryz.underlying51 rfl ts3 rfl rfl rfl) (dG rfl hy10 (stp_load1 ts3 rfl (Cells.el (Rdb.ro hr0_1) (by decide) e11 3 1 rfl)) (dG rfl hy10 (fA 4 Tryz.underlying47 rfl ts3 rfl rfl rfl) (dG rfl hy10 (lB 1 ts3 rfl rfl rfl) (dG rfl hy10 (stp_eql rfl rfl) (dD rfl (stp_pick_t rfl hy10 rfl) ?_))))))))))
    obtain rfl := sI ey10
    exact dy 11 0
   have ey10 := cond_f ey10 hy10
   refine dO rfl hy10 (dO rfl hy10 (dO rfl hy10 (dO rfl hy10 (dO rfl hy10 (dO rfl hy10 (dO rfl hy10 (dO rfl hy10 (dO rfl hy10 (dO rfl hy10 (dD rfl (stp_pick_f rfl hy10 rfl) ?_))))))))))
   obtain rfl := sI ey10
   exact dy 11 0
  obtain ⟨y12, ey12, H0⟩ := bS H0
  refine dM rfl (dcY 9 70 y12 ?_ ?_)
  ·rcases Bool.eq_false_or_eq_true y10 with hy12 | hy12
   ·have ey12 := cond_t ey12 hy12
    obtain ⟨y13, ey13, ey12⟩ := bS ey12
    refine dG rfl hy12 (fA 5 Tryz.underlying47 rfl ts4 rfl rfl rfl) (dG rfl hy12 (lB 1 ts4 rfl rfl rfl) (dG rfl hy12 (stp_not rfl) (dG rfl hy12 (mv rfl) (dcJ 4 69 y13 ?_ ?_))))
    ·rcases Bool.eq_false_or_eq_true (!a1.wi) with hy13 | hy13
     ·have ey13 := cond_t ey13 hy13
      refine dO rfl hy13 (dO rfl hy13 (dO rfl hy13 (dG rfl hy12 (stp_pick_t rfl hy13 rfl) ?_)))
      obtain rfl := sI ey13
      exact dy 4 0
     have ey13 := cond_f ey13 hy13
     refine dG rfl hy13 (fA 1 Tryz.underlying47 rfl ts3 rfl rfl rfl) (dG rfl hy13 (lB 1 ts3 rfl rfl rfl) (dG rfl hy13 (stp_eql rfl rfl) (dG rfl hy12 (stp_pick_f rfl hy13 rfl) ?_)))
     obtain rfl := sI ey13
     exact dy 4 0
    refine dD rfl (stp_pick_t rfl hy12 rfl) ?_
    obtain rfl := sI ey12
    exact dy 6 0
   have ey12 := cond_f ey12 hy12
   refine dO rfl hy12 (dO rfl hy12 (dO rfl hy12 (dO rfl hy12 (dX rfl (dX rfl (dX rfl (dO rfl hy12 (dD rfl (stp_pick_f rfl hy12 rfl) ?_))))))))
   obtain rfl := sI ey12
   exact dy 9 0
  refine dS rfl (dn (kw_nx (cw_ret ?_)))
  obtain rfl := sI H0
  exact kr Tryz.results47 (rT rfl) [] ⟨rfl, rfl⟩
 have H0 := cond_f H0 h4
 obtain ⟨x14, e14, H0⟩ := bS H0
 obtain ⟨x15, e15, H0⟩ := bS H0
 refine cw_skip (kw_nx (cw_seq (rdt g_mixed (rn 0 12) ⟨[[],[0],[],[],[1]], [], []⟩ (dA 0 rfl Tryz.underlying34 rfl ts26 rfl (dB2 0 ts26 rfl (dM rfl (dA 2 rfl Tryz.underlying47 rfl ts3 rfl (dL 1 ts3 rfl (dV rfl (fun hh => stpU_call (fun i => 2 + i) cf87 (fun w hw => c_s_KeyFor fl w 0 a1.pg x14 e14) (yB rfl rfl)) rfl (dV rfl (fun hh => stpU_call (fun i => 2 + i) cf86 (fun w hw => c_s_l3Find fl w a0.t x14 rfl (RO.pass hr0_0 hw) rfl (RO.pass hr0_1 hw) x15 e15) (yB rfl rfl)) rfl (dM rfl (dT rfl (dT rfl ?_)))))))))))))
 obtain ⟨y16, ey16, H0⟩ := bS H0
 refine dS rfl (dS rfl (dn (kw_nx (cw_seq (rdt g_mixed (rn 0 31) ⟨[[],[],[],[],[],[1],[],[],[],[],[],[0],[],[],[],[],[],[1],[],[],[],[],[1],[],[],[],[1]], [], []⟩ (dM rfl (dI rfl (dM rfl (dcY 5 48 y16 ?_ ?_)))))))))
 ·rcases Bool.eq_false_or_eq_true (decide (0 ≤ x15.1)) with hy16 | hy16
  ·have ey16 := cond_t ey16 hy16
   refine dG rfl hy16 (mv rfl) (dG rfl hy16 (fA 3 Tryz.underlying47 rfl ts3 rfl rfl rfl) (dG rfl hy16 (lB 1 ts3 rfl rfl rfl) (dG rfl hy16 (stp_eql rfl rfl) (dD rfl (stp_pick_t rfl hy16 rfl) ?_))))
   obtain rfl := sI ey16
   exact dy 5 0
  have ey16 := cond_f ey16 hy16
  refine dO rfl hy16 (dO rfl hy16 (dO rfl hy16 (dO rfl hy16 (dD rfl (stp_pick_f rfl hy16 rfl) ?_))))
  obtain rfl := sI ey16
  exact dy 5 0
 obtain ⟨y17, ey17, H0⟩ := bS H0
 refine dM rfl (dcY 11 60 y17 ?_ ?_)
 ·rcases Bool.eq_false_or_eq_true y16 with hy17 | hy17
  ·have ey17 := cond_t ey17 hy17
   obtain ⟨x18, e18, ey17⟩ := bS ey17
   refine dG rfl hy17 (fA 0 Tryz.underlying34 rfl ts26 rfl rfl rfl) (dG rfl hy17 (fA 1 Tryz.underlying26 rfl ts24 rfl rfl rfl) (dG rfl hy17 (lB 0 ts24 rfl rfl rfl) (dG rfl hy17 (mv rfl) (dG rfl hy17 (stp_indexAddr Tryz.underlying24 ts51 (by decide) rfl rfl rfl (Rdb.ro hr0_1) e18) (dG rfl hy17 (fA 3 Tryz.underlying51 rfl ts3 rfl rfl rfl) (dG rfl hy17 (stp_load1 ts3 rfl (Cells.el (Rdb.ro hr0_1) (by decide) e18 3 1 rfl)) (dG rfl hy17 (fA 4 Tryz.underlying47 rfl ts3 rfl rfl rfl) (dG rfl hy17 (lB 1 ts3 rfl rfl rfl) (dG rfl hy17 (stp_eql rfl rfl) (dD rfl (stp_pick_t rfl hy17 rfl) ?_))))))))))
   obtain rfl := sI ey17
   exact dy 11 0
  have ey17 := cond_f ey17 hy17
  refine dO rfl hy17 (dO rfl hy17 (dO rfl hy17 (dO rfl hy17 (dO rfl hy17 (dO rfl hy17 (dO rfl hy17 (dO rfl hy17 (dO rfl hy17 (dO rfl hy17 (dD rfl (stp_pick_f rfl hy17 rfl) ?_))))))))))
  obtain rfl := sI ey17
  exact dy 11 0
 obtain ⟨y19, ey19, H0⟩ := bS H0
 refine dM rfl (dcY 9 70 y19 ?_ ?_)
 ·rcases Bool.eq_false_or_eq_true y17 with hy19 | hy19
  ·have ey19 := cond_t ey19 hy19
   obtain ⟨y20, ey20, ey19⟩ := bS ey19
   refine dG rfl hy19 (fA 5 Tryz.underlying47 rfl ts4 rfl rfl rfl) (dG rfl hy19 (lB 1 ts4 rfl rfl rfl) (dG rfl hy19 (stp_not rfl) (dG rfl hy19 (mv rfl) (dcJ 4 69 y20 ?_ ?_))))
   ·rcases Bool.eq_false_or_eq_true (!a1.wi) with hy20 | hy20
    ·have ey20 := cond_t ey20 hy20
     refine dO rfl hy20 (dO rfl hy20 (dO rfl hy20 (dG rfl hy19 (stp_pick_t rfl hy20 rfl) ?_)))
     obtain rfl := sI ey20
     exact dy 4 0
    have ey20 := cond_f ey20 hy20
    refine dG rfl hy20 (fA 1 Tryz.underlying47 rfl ts3 rfl rfl rfl) (dG rfl hy20 (lB 1 ts3 rfl rfl rfl) (dG rfl hy20 (stp_eql rfl rfl) (dG rfl hy19 (stp_pick_f rfl hy20 rfl) ?_)))
    obtain rfl := sI ey20
    exact dy 4 0
   refine dD rfl (stp_pick_t rfl hy19 rfl) ?_
   obtain rfl := sI ey19
   exact dy 6 0
  have ey19 := cond_f ey19 hy19
  refine dO rfl hy19 (dO rfl hy19 (dO rfl hy19 (dO rfl hy19 (dX rfl (dX rfl (dX rfl (dO rfl hy19 (dD rfl (stp_pick_f rfl hy19 rfl) ?_))))))))
  obtain rfl := sI ey19
  exact dy 9 0
 refine dS rfl (dn (kw_nx (cw_ret ?_)))
 obtain rfl := sI H0
 exact kr Tryz.results47 (rT rfl) [] ⟨rfl, rfl⟩

theorem c_s_MachineValid (fl : Nat) (w : World) (a0 : Mc) (hn0_0 : n0_0 = (a0.t.b).length) (hr0_0 : RO w (hkeys []) (RdL p0_0 c0_0 a0.t.b)) (hn0_1 : n0_1 = (a0.t.f).length) (hr0_1 : RO w (hkeys []) (RdL p0_1 c0_1 a0.t.f)) (hn0_2 : n0_2 = (a0.c.l).length) (hr0_2 : RO w (hkeys []) (RdL p0_2 c0_2 a0.c.l)) (hn0_3 : n0_3 = (a0.g.o).length) (hr0_3 : RO w (hkeys []) (RdL p0_3 c0_3 a0.g.o)) (r : Bool) (H0 : s_MachineValid fl a0 = some r) :
  Ct Tryz.prog 22 [.agg #[.slice p0_0 n0_0 c0_0, .slice p0_1 n0_1 c0_1, .slice p0_2 n0_2 c0_2, .int .i64 a0.c.h, .int .i64 a0.g.c, .int .i64 a0.g.n, .int .i64 a0.g.r, .slice p0_3 n0_3 c0_3, .int .i64 a0.s]] w [] (fun rv h' => rv = .bool r ∧ h' = []) := by
 subst hn0_0 hn0_1 hn0_2 hn0_3
 unfold s_MachineValid at H0
 refine ct_of_cw Tryz.func22 rfl Tryz.ntmps22 rfl (Sat.refl _ _) ?_
 refine sr (oE (stpU_box 0 rfl rfl) rfl ?_)
 rintro _ _ ⟨b1, rfl, rfl⟩
 obtain ⟨x2, e2, H0⟩ := bS H0
 refine oS rfl (nn (cw_seq (sr (oA 0 Tryz.underlying34 rfl ts26 rfl (oB2 0 ts26 rfl (oE (stpU_call (fun i => 1 + i) cf43 (fun w hw => c_s_TableValid fl w a0.t rfl (RO.pass hr0_0 hw) rfl (RO.pass hr0_1 hw) x2 e2) (yA rfl)) rfl ?_))))))
 rintro _ _ ⟨_, ⟨rfl, rfl⟩, rfl⟩
 obtain ⟨y3, ey3, H0⟩ := bS H0
 refine oK rfl (oM rfl (ow_cutY 5 15 y3 ?_ ?_))
 ·rcases Bool.eq_false_or_eq_true (!x2) with hy3 | hy3
  ·have ey3 := cond_t ey3 hy3
   refine oO rfl hy3 rfl (oO rfl hy3 rfl (oO rfl hy3 rfl (oO rfl hy3 rfl (oD (stp_pick_t rfl hy3 rfl) rfl ?_))))
   obtain rfl := sI ey3
   exact ow_nil (jy 5 0)
  have ey3 := cond_f ey3 hy3
  obtain ⟨x4, e4, ey3⟩ := bS ey3
  refine oG rfl hy3 (fA 2 Tryz.underlying34 rfl ts29 rfl rfl rfl) rfl (oG rfl hy3 (stp_loadN (us := [_, _]) ts29 rfl (Cells.box (id := 0) rfl 2 rfl)) rfl (ow_eff (.some rfl hy3) (stpU_call (fun i => 1 + i) cf44 (fun w hw => c_s_CacheValid fl w a0.c rfl (RO.pass hr0_2 hw) x4 e4) (yA rfl)) rfl ?_))
  rintro _ _ ⟨_, ⟨rfl, rfl⟩, rfl⟩
  refine oG rfl hy3 (stp_not rfl) rfl (oD (stp_pick_f rfl hy3 rfl) rfl ?_)
  obtain rfl := sI ey3
  exact ow_nil (jy 5 0)
 obtain ⟨y5, ey5, H0⟩ := bS H0
 refine oM rfl (ow_cutY 5 21 y5 ?_ ?_)
 ·rcases Bool.eq_false_or_eq_true y3 with hy5 | hy5
  ·have ey5 := cond_t ey5 hy5
   refine oO rfl hy5 rfl (oO rfl hy5 rfl (oO rfl hy5 rfl (oO rfl hy5 rfl (oD (stp_pick_t rfl hy5 rfl) rfl ?_))))
   obtain rfl := sI ey5
   exact ow_nil (jy 5 0)
  have ey5 := cond_f ey5 hy5
  obtain ⟨x6, e6, ey5⟩ := bS ey5
  refine oG rfl hy5 (fA 4 Tryz.underlying34 rfl ts32 rfl rfl rfl) rfl (oG rfl hy5 (stp_loadN (us := [_, _, _, _]) ts32 rfl (Cells.box (id := 0) rfl 4 rfl)) rfl (ow_eff (.some rfl hy5) (stpU_call (fun i => 1 + i) cf45 (fun w hw => c_s_TagsValid fl w a0.g rfl (RO.pass hr0_3 hw) x6 e6) (yA rfl)) rfl ?_))
  rintro _ _ ⟨_, ⟨rfl, rfl⟩, rfl⟩
  refine oG rfl hy5 (stp_not rfl) rfl (oD (stp_pick_f rfl hy5 rfl) rfl ?_)
  obtain rfl := sI ey5
  exact ow_nil (jy 5 0)
 obtain ⟨y7, ey7, H0⟩ := bS H0
 refine oM rfl (ow_cutY 7 29 y7 ?_ ?_)
 ·rcases Bool.eq_false_or_eq_true y5 with hy7 | hy7
  ·have ey7 := cond_t ey7 hy7
   refine oO rfl hy7 rfl (oO rfl hy7 rfl (oO rfl hy7 rfl (oO rfl hy7 rfl (oO rfl hy7 rfl (oO rfl hy7 rfl (oD (stp_pick_t rfl hy7 rfl) rfl ?_))))))
   obtain rfl := sI ey7
   exact ow_nil (jy 7 0)
  have ey7 := cond_f ey7 hy7
  obtain ⟨x8, e8, ey7⟩ := bS ey7
  refine oG rfl hy7 (fA 4 Tryz.underlying34 rfl ts32 rfl rfl rfl) rfl (oG rfl hy7 (stp_loadN (us := [_, _, _, _]) ts32 rfl (Cells.box (id := 0) rfl 4 rfl)) rfl (oG rfl hy7 (fA 8 Tryz.underlying34 rfl ts3 rfl rfl rfl) rfl (oG rfl hy7 (lB 0 ts3 rfl rfl rfl) rfl (ow_eff (.some rfl hy7) (stpU_call (fun i => 1 + i) cf46 (fun w hw => c_s_l5Find fl w a0.g a0.s rfl (RO.pass hr0_3 hw) x8 e8) (yB rfl rfl)) rfl ?_))))
  rintro _ _ ⟨_, ⟨rfl, rfl⟩, rfl⟩
  refine oG rfl hy7 (stp_lss rfl rfl) rfl (oD (stp_pick_f rfl hy7 rfl) rfl ?_)
  obtain rfl := sI ey7
  exact ow_nil (jy 7 0)
 refine ow_nil (kw_nx (cw_cond rfl (fun h9 => ?_) (fun h9 => ?_)))
 ·have H0 := cond_t H0 h9
  refine sr (oS rfl (nn (cw_ret (kw_nx_ret ?_))))
  obtain rfl := sI H0
  exact kr Tryz.results22 (rT rfl) [] ⟨rfl, rfl⟩
 have H0 := cond_f H0 h9
 obtain ⟨o0_0, eo0_0, H0⟩ := bS H0
 refine cw_skip (kw_nx (cw_seq (sr (oS rfl (nn (cw_join (ι := Int) (fun | v10 => o0_0 = .out v10) (fun | v10 => [(1, .pointer (some ⟨b1, 0, none⟩)), (3, .int .i64 v10)]) (fun | v10 => [(0, [(b1, .cells #[.slice p0_0 ((a0.t.b).length) c0_0, .slice p0_1 ((a0.t.f).length) c0_1, .slice p0_2 ((a0.c.l).length) c0_2, .int .i64 a0.c.h, .int .i64 a0.g.c, .int .i64 a0.g.n, .int .i64 a0.g.r, .slice p0_3 ((a0.g.o).length) c0_3, .int .i64 a0.s] 34 (0, 0))])]) ?_ ?_))))))
 ·refine cw_block (cw_loopS (ι := Nat × Int) (js := [0]) (fun x => x.1) (fun | (fuel, v10) => s_MachineValid_L0 fl a0 fuel v10 = some o0_0) (fun | (_, v10) => [(1, .pointer (some ⟨b1, 0, none⟩)), (3, .int .i64 v10)]) (fun | (_, v10) => [(0, [(b1, .cells #[.slice p0_0 ((a0.t.b).length) c0_0, .slice p0_1 ((a0.t.f).length) c0_1, .slice p0_2 ((a0.c.l).length) c0_2, .int .i64 a0.c.h, .int .i64 a0.g.c, .int .i64 a0.g.n, .int .i64 a0.g.r, .slice p0_3 ((a0.g.o).length) c0_3, .int .i64 a0.s] 34 (0, 0))])]) (fl, 0) eo0_0 ⟨rfl, rfl, trivial⟩ ⟨0, [], rfl, rfl, trivial⟩ (by decide) ?_)
  rintro ⟨fuel, v10⟩ H1
  have H1 : s_MachineValid_L0 fl a0 fuel v10 = some o0_0 := H1
  rcases fuel with _ | fuel
  ·rw [s_MachineValid_L0.eq_1] at H1; cases H1
  rw [s_MachineValid_L0.eq_2] at H1
  dsimp only
  refine cw_seq (sr (oM rfl (oA 0 Tryz.underlying34 rfl ts26 rfl (oA 1 Tryz.underlying26 rfl ts24 rfl (oL 0 ts24 rfl (oD (stp_len Tryz.underlying24 rfl) rfl (oW rfl (nn (cw_cond rfl (fun h11 => ?_) (fun h11 => ?_))))))))))
  ·have H1 := cond_t H1 h11
   obtain ⟨x12, e12, H1⟩ := bS H1
   refine cw_skip (kw_nx (cw_seq (cw_block (sr (oA 0 Tryz.underlying34 rfl ts26 rfl (oA 1 Tryz.underlying26 rfl ts24 rfl (oL 0 ts24 rfl (oM rfl (oD (stp_indexAddr Tryz.underlying24 ts51 (by decide) rfl rfl rfl (Rdb.ro hr0_1) e12) rfl (oD (stp_loadN (us := [_, _, _, _, _]) ts51 rfl (Cells.el (Rdb.ro hr0_1) (by decide) e12 0 5 rfl)) rfl (oE (stpU_alloc 1 tz51 rfl) rfl ?_)))))))))))
   rintro _ _ ⟨b13, rfl, rfl⟩
   obtain ⟨y14, ey14, H1⟩ := bS H1
   refine oC5 1 ts51 rfl rfl (nn (sr (oA 0 Tryz.underlying51 rfl ts4 rfl (oL 1 ts4 rfl (oM rfl (ow_cutY 5 51 y14 ?_ ?_))))))
   ·rcases Bool.eq_false_or_eq_true x12.u with hy14 | hy14
    ·have ey14 := cond_t ey14 hy14
     refine oG rfl hy14 (fA 1 Tryz.underlying51 rfl ts49 rfl rfl rfl) rfl (oG rfl hy14 (fA 1 Tryz.underlying49 rfl ts3 rfl rfl rfl) rfl (oG rfl hy14 (lB 1 ts3 rfl rfl rfl) rfl (oG rfl hy14 (stp_geq rfl rfl) rfl (oD (stp_pick_t rfl hy14 rfl) rfl ?_))))
     obtain rfl := sI ey14
     exact ow_nil (jy 5 0)
    have ey14 := cond_f ey14 hy14
    refine oO rfl hy14 rfl (oO rfl hy14 rfl (oO rfl hy14 rfl (oO rfl hy14 rfl (oD (stp_pick_f rfl hy14 rfl) rfl ?_))))
    obtain rfl := sI ey14
    exact ow_nil (jy 5 0)
   obtain ⟨y15, ey15, H1⟩ := bS H1
   refine oM rfl (ow_cutY 5 57 y15 ?_ ?_)
   ·rcases Bool.eq_false_or_eq_true y14 with hy15 | hy15
    ·have ey15 := cond_t ey15 hy15
     refine oG rfl hy15 (fA 1 Tryz.underlying51 rfl ts49 rfl rfl rfl) rfl (oG rfl hy15 (fA 0 Tryz.underlying49 rfl ts3 rfl rfl rfl) rfl (oG rfl hy15 (lB 1 ts3 rfl rfl rfl) rfl (oG rfl hy15 (stp_neq rfl rfl) rfl (oD (stp_pick_t rfl hy15 rfl) rfl ?_))))
     obtain rfl := sI ey15
     exact ow_nil (jy 5 0)
    have ey15 := cond_f ey15 hy15
    refine oO rfl hy15 rfl (oO rfl hy15 rfl (oO rfl hy15 rfl (oO rfl hy15 rfl (oD (stp_pick_f rfl hy15 rfl) rfl ?_))))
    obtain rfl := sI ey15
    exact ow_nil (jy 5 0)
   refine ow_nil (kw_nx (cw_cond rfl (fun h16 => ?_) (fun h16 => ?_)))
   ·have H1 := cond_t H1 h16
    refine sr (oS rfl (nn (cw_ret (kw_bl_ret (kw_nx_ret (kw_lq_ret (kw_bl_ret (kw_join_ret (kw_nx_ret ?_)))))))))
    obtain rfl := sI H1
    obtain rfl := sI H0
    exact kr Tryz.results22 (rT rfl) [] ⟨rfl, rfl⟩
   have H1 := cond_f H1 h16
   obtain ⟨x17, e17, H1⟩ := bS H1
   exact cw_skip (kw_bl_normal (kw_nx (cw_region (oM rfl (oP e17 rfl (oS rfl (ow_nil (kw_lqS (js := [0]) (fuel, x17) H1 (Nat.lt_succ_self _) ⟨rfl, rfl, trivial⟩ ⟨0, [], rfl, rfl, trivial⟩ (by decide)))))))))
  have H1 := cond_f H1 h11
  refine cw_exit (kw_nx_exit (kw_lq_exit (kw_bl ?_)))
  obtain rfl := sI H1
  exact kw_joinS (js := [0]) v10 rfl ⟨rfl, rfl, trivial⟩ ⟨0, [], rfl, rfl, trivial⟩ (by decide)
 rintro v10 rfl
 dsimp only
 obtain ⟨o0_1, eo0_1, H0⟩ := bS H0
 refine kw_nx (cw_seq (sr (oS rfl (nn (cw_join (ι := Int) (fun | v18 => o0_1 = .out v18) (fun | v18 => [(1, .pointer (some ⟨b1, 0, none⟩)), (5, .int .i64 v18)]) (fun | v18 => [(0, [(b1, .cells #[.slice p0_0 ((a0.t.b).length) c0_0, .slice p0_1 ((a0.t.f).length) c0_1, .slice p0_2 ((a0.c.l).length) c0_2, .int .i64 a0.c.h, .int .i64 a0.g.c, .int .i64 a0.g.n, .int .i64 a0.g.r, .slice p0_3 ((a0.g.o).length) c0_3, .int .i64 a0.s] 34 (0, 0))])]) ?_ ?_)))))
 ·refine cw_block (cw_loopS (ι := Nat × Int) (js := [0]) (fun x => x.1) (fun | (fuel, v18) => s_MachineValid_L1 fl a0 fuel v18 = some o0_1) (fun | (_, v18) => [(1, .pointer (some ⟨b1, 0, none⟩)), (5, .int .i64 v18)]) (fun | (_, v18) => [(0, [(b1, .cells #[.slice p0_0 ((a0.t.b).length) c0_0, .slice p0_1 ((a0.t.f).length) c0_1, .slice p0_2 ((a0.c.l).length) c0_2, .int .i64 a0.c.h, .int .i64 a0.g.c, .int .i64 a0.g.n, .int .i64 a0.g.r, .slice p0_3 ((a0.g.o).length) c0_3, .int .i64 a0.s] 34 (0, 0))])]) (fl, 0) eo0_1 ⟨rfl, rfl, trivial⟩ ⟨0, [], rfl, rfl, trivial⟩ (by decide) ?_)
  rintro ⟨fuel, v18⟩ H1
  have H1 : s_MachineValid_L1 fl a0 fuel v18 = some o0_1 := H1
  rcases fuel with _ | fuel
  ·rw [s_MachineValid_L1.eq_1] at H1; cases H1
  rw [s_MachineValid_L1.eq_2] at H1
  dsimp only
  refine cw_seq (sr (oM rfl (oA 2 Tryz.underlying34 rfl ts29 rfl (oA 0 Tryz.underlying29 rfl ts27 rfl (oL 0 ts27 rfl (oD (stp_len Tryz.underlying27 rfl) rfl (oW rfl (nn (cw_cond rfl (fun h19 => ?_) (fun h19 => ?_))))))))))
  ·have H1 := cond_t H1 h19
   obtain ⟨x20, e20, H1⟩ := bS H1
   refine cw_skip (kw_nx (cw_seq (cw_block (cw_seq (rdt g_mixed (rn 0 18) ⟨[[],[],[0],[],[],[],[],[],[0],[],[],[0]], [], []⟩ (dA 2 rfl Tryz.underlying34 rfl ts29 rfl (dA 0 rfl Tryz.underlying29 rfl ts27 rfl (dL 0 ts27 rfl (dM rfl (dD rfl (stp_indexAddr Tryz.underlying27 ts47 (by decide) rfl rfl rfl (Rdb.ro hr0_2) e20) (dA 0 rfl Tryz.underlying47 rfl ts4 rfl (dD rfl (stp_load1 ts4 rfl (Cells.el (Rdb.ro hr0_2) (by decide) e20 0 1 rfl)) (dM rfl ?_)))))))))))))
   obtain ⟨y21, ey21, H1⟩ := bS H1
   refine dcY 10 83 y21 ?_ ?_
   ·rcases Bool.eq_false_or_eq_true x20.va with hy21 | hy21
    ·have ey21 := cond_t ey21 hy21
     obtain ⟨x22, e22, ey21⟩ := bS ey21
     refine dG rfl hy21 (stp_loadN (us := [_, _, _, _, _, _, _, _, _]) ts34 rfl (Cells.box (id := 0) rfl 9 rfl)) (dG rfl hy21 (fA 2 Tryz.underlying34 rfl ts29 rfl rfl rfl) (dG rfl hy21 (fA 0 Tryz.underlying29 rfl ts27 rfl rfl rfl) (dG rfl hy21 (lB 0 ts27 rfl rfl rfl) (dG rfl hy21 (mv rfl) (dG rfl hy21 (stp_indexAddr Tryz.underlying27 ts47 (by decide) rfl rfl rfl (Rdb.ro hr0_2) e20) (dG rfl hy21 (stp_loadN (us := [_, _, _, _, _, _]) ts47 rfl (Cells.el (Rdb.ro hr0_2) (by decide) e20 0 6 rfl)) (dVg rfl hy21 (fun hh => stpU_call (fun i => 2 + i) cf47 (fun w hw => c_s_l6Line fl w a0 x20 rfl (RO.pass hr0_0 hw) rfl (RO.pass hr0_1 hw) rfl (RO.pass hr0_2 hw) rfl (RO.pass hr0_3 hw) x22 e22) (yB rfl rfl)) rfl (dG rfl hy21 (stp_not rfl) (dD rfl (stp_pick_t rfl hy21 rfl) ?_)))))))))
     obtain rfl := sI ey21
     exact dy 10 0
    have ey21 := cond_f ey21 hy21
    refine dO rfl hy21 (dO rfl hy21 (dO rfl hy21 (dO rfl hy21 (dO rfl hy21 (dO rfl hy21 (dO rfl hy21 (dO rfl hy21 (dO rfl hy21 (dD rfl (stp_pick_f rfl hy21 rfl) ?_)))))))))
    obtain rfl := sI ey21
    exact dy 10 0
   refine dn (kw_nx (cw_cond rfl (fun h23 => ?_) (fun h23 => ?_)))
   ·have H1 := cond_t H1 h23
    refine sr (oS rfl (nn (cw_ret (kw_bl_ret (kw_nx_ret (kw_lq_ret (kw_bl_ret (kw_join_ret (kw_nx_ret ?_)))))))))
    obtain rfl := sI H1
    obtain rfl := sI H0
    exact kr Tryz.results22 (rT rfl) [] ⟨rfl, rfl⟩
   have H1 := cond_f H1 h23
   obtain ⟨x24, e24, H1⟩ := bS H1
   exact cw_skip (kw_bl_normal (kw_nx (cw_region (oM rfl (oP e24 rfl (oS rfl (ow_nil (kw_lqS (js := [0]) (fuel, x24) H1 (Nat.lt_succ_self _) ⟨rfl, rfl, trivial⟩ ⟨0, [], rfl, rfl, trivial⟩ (by decide)))))))))
  have H1 := cond_f H1 h19
  refine cw_exit (kw_nx_exit (kw_lq_exit (kw_bl ?_)))
  obtain rfl := sI H1
  exact kw_joinS (js := [0]) v18 rfl ⟨rfl, rfl, trivial⟩ ⟨0, [], rfl, rfl, trivial⟩ (by decide)
 rintro v18 rfl
 dsimp only
 refine kw_nx (sr (oS rfl (nn (cw_ret ?_))))
 obtain rfl := sI H0
 exact kr Tryz.results22 (rT rfl) [] ⟨rfl, rfl⟩

theorem c_s_l3Copy (fl : Nat) (w : World) (a0 : T) (hn0_0 : n0_0 = (a0.b).length) (hr0_0 : RO w (hkeys []) (RdL p0_0 c0_0 a0.b)) (hn0_1 : n0_1 = (a0.f).length) (hr0_1 : RO w (hkeys []) (RdL p0_1 c0_1 a0.f)) (r : T) (H0 : s_l3Copy fl a0 = some r) :
  Ct Tryz.prog 66 [.agg #[.slice p0_0 n0_0 c0_0, .slice p0_1 n0_1 c0_1]] w [] (fun rv h' => ∃ (x0 : Option Addr) (y0 z0 : Nat) (C0 : Res) (x1 : Option Addr) (y1 z1 : Nat) (C1 : Res), rv = .agg #[.slice x0 y0 z0, .slice x1 y1 z1] ∧ h' = [(0, C0), (1, C1)] ∧ y0 = (r.b).length ∧ OwnC 3 x0 z0 r.b C0 ∧ y1 = (r.f).length ∧ OwnC 51 x1 z1 r.f C1) := by
 subst hn0_0 hn0_1
 unfold s_l3Copy at H0
 refine ct_of_cw Tryz.func66 rfl Tryz.ntmps66 rfl (Sat.refl _ _) ?_
 refine sr (oE (stpU_box 0 rfl rfl) rfl ?_)
 rintro _ _ ⟨b1, rfl, rfl⟩
 refine oE (stpU_alloc 1 tz26 rfl) rfl ?_
 rintro _ _ ⟨b2, rfl, rfl⟩
 refine nn (cw_seq (rdt g_mixed [.n 1, .n 2, .n 5, .n 6, .d 0, .d 4, .o 0, .n 3, .o 4, .n 7, .n 8, .n 9] ⟨[[],[],[0],[2],[],[],[0],[3],[],[1]], [[2],[],[],[2],[3],[],[],[3],[],[1]], [0,3,4,7]⟩ (dA 0 rfl Tryz.underlying26 rfl ts23 rfl (dL 0 ts23 rfl (dA 1 rfl Tryz.underlying26 rfl ts24 rfl (dL 0 ts24 rfl (dq rfl (fun hh => stpU_lit0 sl23 2) (by rintro _ _ ⟨_, _, rfl, rfl, _⟩; rfl) (dq rfl (fun hh => stpU_lit0 sl24 3) (by rintro _ _ ⟨_, _, rfl, rfl, _⟩; rfl) (dp rfl ?_)))))))))
 rintro _ _ ⟨p3, C4, rfl, rfl, o4⟩
 obtain ⟨x7, e7, H0⟩ := bS H0
 refine dE rfl (fun hh => stpU_append sl23 rfl (id := 2) rfl (by simp) rfl rfl (hh _ _ rfl) o4 (Rdb.ro hr0_0) e7) ?_
 rintro _ _ ⟨p8, c9, C10, rfl, rfl, o10⟩
 refine dk rfl (dp rfl ?_)
 rintro _ _ ⟨p5, C6, rfl, rfl, o6⟩
 obtain ⟨x11, e11, H0⟩ := bS H0
 refine dE rfl (fun hh => stpU_append sl24 rfl (id := 3) rfl (by simp) rfl rfl (hh _ _ rfl) o6 (Rdb.ro hr0_1) e11) ?_
 rintro _ _ ⟨p12, c13, C14, rfl, rfl, o14⟩
 refine dk rfl (dD rfl (stp_build (cs := #[.slice p8 ((x7).length) c9, .slice p12 ((x11).length) c13]) (sevp_cons rfl (sevp_cons rfl sevp_nil)) bt26_14) (dC2 1 ts26 rfl rfl rfl (dn (kw_nx (cw_ret ?_)))))
 obtain rfl := sI H0
 exact kr Tryz.results66 (rC2 1 ts26 rfl rfl) [2, 3] ⟨_, _, _, _, _, _, _, _, rfl, rfl, rfl, o10, rfl, o14⟩

theorem c_s_l4Copy (fl : Nat) (w : World) (a0 : Ca) (hn0_0 : n0_0 = (a0.l).length) (hr0_0 : RO w (hkeys []) (RdL p0_0 c0_0 a0.l)) (r : Ca) (H0 : s_l4Copy fl a0 = some r) :
  Ct Tryz.prog 67 [.agg #[.slice p0_0 n0_0 c0_0, .int .i64 a0.h]] w [] (fun rv h' => ∃ (x0 : Option Addr) (y0 z0 : Nat) (C0 : Res), rv = .agg #[.slice x0 y0 z0, .int .i64 r.h] ∧ h' = [(0, C0)] ∧ y0 = (r.l).length ∧ OwnC 47 x0 z0 r.l C0) := by
 subst hn0_0
 unfold s_l4Copy at H0
 refine ct_of_cw Tryz.func67 rfl Tryz.ntmps67 rfl (Sat.refl _ _) ?_
 refine sr (oE (stpU_box 0 rfl rfl) rfl ?_)
 rintro _ _ ⟨b1, rfl, rfl⟩
 refine oE (stpU_alloc 1 tz29 rfl) rfl ?_
 rintro _ _ ⟨b2, rfl, rfl⟩
 refine nn (cw_seq (rdt g_mixed [.n 1, .n 2, .n 4, .n 5, .n 0, .n 3, .n 6, .n 7] ⟨[[],[],[0],[2],[],[0],[],[1]], [[2],[],[],[2],[],[],[],[1]], [0,3]⟩ (dA 0 rfl Tryz.underlying29 rfl ts27 rfl (dL 0 ts27 rfl (dA 1 rfl Tryz.underlying29 rfl ts3 rfl (dL 0 ts3 rfl (dE rfl (fun hh => stpU_lit0 sl27 2) ?_)))))))
 rintro _ _ ⟨p3, C4, rfl, rfl, o4⟩
 obtain ⟨x5, e5, H0⟩ := bS H0
 refine dk rfl (dE rfl (fun hh => stpU_append sl27 rfl (id := 2) rfl (by simp) rfl rfl (hh _ _ rfl) o4 (Rdb.ro hr0_0) e5) ?_)
 rintro _ _ ⟨p6, c7, C8, rfl, rfl, o8⟩
 refine dk rfl (dD rfl (stp_build (cs := #[.slice p6 ((x5).length) c7, .int .i64 a0.h]) (sevp_cons rfl (sevp_cons rfl sevp_nil)) bt29_15) (dC2 1 ts29 rfl rfl rfl (dn (kw_nx (cw_ret ?_)))))
 obtain rfl := sI H0
 exact kr Tryz.results67 (rC2 1 ts29 rfl rfl) [2] ⟨_, _, _, _, rfl, rfl, rfl, o8⟩

theorem c_s_l6Copy (fl : Nat) (w : World) (a0 : Mc) (hn0_0 : n0_0 = (a0.t.b).length) (hr0_0 : RO w (hkeys []) (RdL p0_0 c0_0 a0.t.b)) (hn0_1 : n0_1 = (a0.t.f).length) (hr0_1 : RO w (hkeys []) (RdL p0_1 c0_1 a0.t.f)) (hn0_2 : n0_2 = (a0.c.l).length) (hr0_2 : RO w (hkeys []) (RdL p0_2 c0_2 a0.c.l)) (hn0_3 : n0_3 = (a0.g.o).length) (hr0_3 : RO w (hkeys []) (RdL p0_3 c0_3 a0.g.o)) (r : Mc) (H0 : s_l6Copy fl a0 = some r) :
  Ct Tryz.prog 35 [.agg #[.slice p0_0 n0_0 c0_0, .slice p0_1 n0_1 c0_1, .slice p0_2 n0_2 c0_2, .int .i64 a0.c.h, .int .i64 a0.g.c, .int .i64 a0.g.n, .int .i64 a0.g.r, .slice p0_3 n0_3 c0_3, .int .i64 a0.s]] w [] (fun rv h' => ∃ (x0 : Option Addr) (y0 z0 : Nat) (C0 : Res) (x1 : Option Addr) (y1 z1 : Nat) (C1 : Res) (x2 : Option Addr) (y2 z2 : Nat) (C2 : Res) (x3 : Option Addr) (y3 z3 : Nat) (C3 : Res), rv = .agg #[.slice x0 y0 z0, .slice x1 y1 z1, .slice x2 y2 z2, .int .i64 r.c.h, .int .i64 r.g.c, .int .i64 r.g.n, .int .i64 r.g.r, .slice x3 y3 z3, .int .i64 r.s] ∧ h' = [(0, C0), (1, C1), (2, C2), (3, C3)] ∧ y0 = (r.t.b).length ∧ OwnC 3 x0 z0 r.t.b C0 ∧ y1 = (r.t.f).length ∧ OwnC 51 x1 z1 r.t.f C1 ∧ y2 = (r.c.l).length ∧ OwnC 47 x2 z2 r.c.l C2 ∧ y3 = (r.g.o).length ∧ OwnC 89 x3 z3 r.g.o C3) := by
 subst hn0_0 hn0_1 hn0_2 hn0_3
 unfold s_l6Copy at H0
 refine ct_of_cw Tryz.func35 rfl Tryz.ntmps35 rfl (Sat.refl _ _) ?_
 refine sr (oE (stpU_box 0 rfl rfl) rfl ?_)
 rintro _ _ ⟨b1, rfl, rfl⟩
 refine oE (stpU_alloc 1 tz34 rfl) rfl ?_
 rintro _ _ ⟨b2, rfl, rfl⟩
 obtain ⟨x3, e3, H0⟩ := bS H0
 refine nn (cw_seq (rdt g_mixed [.n 0, .n 1, .n 3, .n 4, .n 6, .n 7, .n 9, .n 10, .n 2, .n 5, .n 8, .n 11, .n 12] ⟨[[],[0],[],[],[0],[],[],[0],[],[],[0],[],[1]], [[],[],[2,3],[],[],[4],[],[],[5],[],[],[],[1]], [2,5,8]⟩ (dA 0 rfl Tryz.underlying34 rfl ts26 rfl (dB2 0 ts26 rfl (dA 2 rfl Tryz.underlying34 rfl ts29 rfl (dB2 0 ts29 rfl (dA 4 rfl Tryz.underlying34 rfl ts32 rfl (dB4 0 ts32 rfl (dA 8 rfl Tryz.underlying34 rfl ts3 rfl (dL 0 ts3 rfl (dE rfl (fun hh => stpU_call (fun i => 2 + i) cf66 (fun w hw => c_s_l3Copy fl w a0.t rfl (RO.pass hr0_0 hw) rfl (RO.pass hr0_1 hw) x3 e3) (yA rfl)) ?_)))))))))))
 rintro _ _ ⟨_, ⟨p4, _, c6, C7, p8, _, c10, C11, rfl, rfl, rfl, o7, rfl, o11⟩, rfl⟩
 obtain ⟨x12, e12, H0⟩ := bS H0
 refine dk rfl (dE rfl (fun hh => stpU_call (fun i => 4 + i) cf67 (fun w hw => c_s_l4Copy fl w a0.c rfl (RO.pass hr0_2 hw) x12 e12) (yA rfl)) ?_)
 rintro _ _ ⟨_, ⟨p13, _, c15, C16, rfl, rfl, rfl, o16⟩, rfl⟩
 obtain ⟨x17, e17, H0⟩ := bS H0
 refine dk rfl (dE rfl (fun hh => stpU_call (fun i => 5 + i) cf68 (fun w hw => c_s_l5Copy fl w a0.g rfl (RO.pass hr0_3 hw) x17 e17) (yA rfl)) ?_)
 rintro _ _ ⟨_, ⟨p18, _, c20, C21, rfl, rfl, rfl, o21⟩, rfl⟩
 refine dk rfl (dD rfl (stp_build (cs := #[.slice p4 ((x3.b).length) c6, .slice p8 ((x3.f).length) c10, .slice p13 ((x12.l).length) c15, .int .i64 x12.h, .int .i64 x17.c, .int .i64 x17.n, .int .i64 x17.r, .slice p18 ((x17.o).length) c20, .int .i64 a0.s]) (sevp_cons rfl (sevp_cons rfl (sevp_cons rfl (sevp_cons rfl sevp_nil)))) bt34_16) (dC9 1 ts34 rfl rfl rfl (dn (kw_nx (cw_ret ?_)))))
 obtain rfl := sI H0
 exact kr Tryz.results35 (rC9 1 ts34 rfl rfl) [2, 3, 4, 5] ⟨_, _, _, _, _, _, _, _, _, _, _, _, _, _, _, _, rfl, rfl, rfl, o7, rfl, o11, rfl, o16, rfl, o21⟩

theorem c_s_l6Fresh (fl : Nat) (w : World) (a0 : Ca) (hn0_0 : n0_0 = (a0.l).length) (hr0_0 : RO w (hkeys []) (RdL p0_0 c0_0 a0.l)) (r : Ca) (H0 : s_l6Fresh fl a0 = some r) :
  Ct Tryz.prog 114 [.agg #[.slice p0_0 n0_0 c0_0, .int .i64 a0.h]] w [] (fun rv h' => ∃ (x0 : Option Addr) (y0 z0 : Nat) (C0 : Res), rv = .agg #[.slice x0 y0 z0, .int .i64 r.h] ∧ h' = [(0, C0)] ∧ y0 = (r.l).length ∧ OwnC 47 x0 z0 r.l C0) := by
 subst hn0_0
 unfold s_l6Fresh at H0
 refine ct_of_cw Tryz.func114 rfl Tryz.ntmps114 rfl (Sat.refl _ _) ?_
 refine sr (oE (stpU_box 0 rfl rfl) rfl ?_)
 rintro _ _ ⟨b1, rfl, rfl⟩
 refine oE (stpU_alloc 1 tz29 rfl) rfl ?_
 rintro _ _ ⟨b2, rfl, rfl⟩
 obtain ⟨x3, e3, H0⟩ := bS H0
 refine nn (sr (oB2 0 ts29 rfl (oE (stpU_call (fun i => 2 + i) cf67 (fun w hw => c_s_l4Copy fl w a0 rfl (RO.pass hr0_0 hw) x3 e3) (yA rfl)) rfl ?_)))
 rintro _ _ ⟨_, ⟨p4, _, c6, C7, rfl, rfl, rfl, o7⟩, rfl⟩
 refine oE (stpU_alloc 3 tz29 rfl) rfl ?_
 rintro _ _ ⟨b8, rfl, rfl⟩
 obtain ⟨o0_0, eo0_0, H0⟩ := bS H0
 refine oC2 3 ts29 rfl rfl (nn (cw_seq (sr (oS rfl (nn (cw_join (ι := (List Ln) × Int × Res) (fun | (v9, v11, C10) => o0_0 = .out (v9, v11) ∧ (x3.l).length = (v9).length ∧ OwnC 47 p4 c6 v9 C10) (fun | (v9, v11, C10) => [(2, .pointer (some ⟨b2, 0, none⟩)), (3, .pointer (some ⟨b8, 0, none⟩)), (4, .int .i64 v11)]) (fun | (v9, v11, C10) => [(1, [(b2, .cells #[.slice none 0 0, .int .i64 0] 29 (0, 0))]), (2, C10), (3, [(b8, .cells #[.slice p4 ((x3.l).length) c6, .int .i64 x3.h] 29 (0, 0))])]) ?_ ?_))))))
 ·refine cw_block (cw_loopS (ι := Nat × (List Ln) × Int × Res) (js := [1, 2, 3]) (fun x => x.1) (fun | (fuel, v9, v11, C10) => s_l6Fresh_L0 fl x3 fuel v9 v11 = some o0_0 ∧ (x3.l).length = (v9).length ∧ OwnC 47 p4 c6 v9 C10) (fun | (_, v9, v11, C10) => [(2, .pointer (some ⟨b2, 0, none⟩)), (3, .pointer (some ⟨b8, 0, none⟩)), (4, .int .i64 v11)]) (fun | (_, v9, v11, C10) => [(1, [(b2, .cells #[.slice none 0 0, .int .i64 0] 29 (0, 0))]), (2, C10), (3, [(b8, .cells #[.slice p4 ((x3.l).length) c6, .int .i64 x3.h] 29 (0, 0))])]) (fl, x3.l, 0, C7) ⟨eo0_0, rfl, o7⟩ ⟨rfl, rfl, rfl, trivial⟩ ⟨1, [2, 3], rfl, rfl, 2, [3], rfl, rfl, 3, [], rfl, rfl, trivial⟩ (by decide) ?_)
  rintro ⟨fuel, v9, v11, C10⟩ ⟨H1, hl10, o10⟩
  have H1 : s_l6Fresh_L0 fl x3 fuel v9 v11 = some o0_0 := H1
  rcases fuel with _ | fuel
  ·rw [s_l6Fresh_L0.eq_1] at H1; cases H1
  rw [s_l6Fresh_L0.eq_2] at H1
  dsimp only
  refine cw_seq (sr (oM rfl (oA 0 Tryz.underlying29 rfl ts27 rfl (oL 3 ts27 rfl (oD (stp_len Tryz.underlying27 rfl) rfl (oW rfl (nn (cw_cond rfl (fun h12 => ?_) (fun h12 => ?_)))))))))
  ·have H1 := cond_t H1 h12
   obtain ⟨x13, e13, H1⟩ := bS H1
   refine cw_skip (kw_nx (cw_seq (cw_block (sr (oA 0 Tryz.underlying29 rfl ts27 rfl (oL 3 ts27 rfl (oM rfl (oD (stp_indexAddr Tryz.underlying27 ts47 (by decide) rfl (by simp [hl10]) rfl (Rdb.own (id := 2) rfl o10) e13) rfl (oA 1 Tryz.underlying47 rfl ts3 rfl (oD (stp_load1 ts3 rfl (Cells.el (Rdb.own (id := 2) rfl o10) (by decide) e13 1 1 rfl)) rfl (oU rfl (nn (cw_cond rfl (fun h14 => ?_) (fun h14 => ?_))))))))))))))
   ·have H1 := cond_t H1 h14
    refine cw_region (oA 0 Tryz.underlying29 rfl ts27 rfl (oL 3 ts27 rfl (oM rfl (oD (stp_build (cs := #[.bool false, .int .i64 0, .int .i64 0, .int .i64 0, .int .i64 0, .bool false]) sevp_nil bt47_11) rfl (oD (stp_indexAddr Tryz.underlying27 ts47 (by decide) rfl (by simp [hl10]) rfl (Rdb.own (id := 2) rfl o10) e13) rfl (oF (stpU_storeEl (id := 2) (i := 0) (⟨false, 0, 0, 0, 0, false⟩ : Ln) (by decide) ts47 rfl rfl rfl o10 e13 rfl rfl rfl rfl) ?_))))))
    rintro _ _ ⟨C15, rfl, o15⟩
    obtain ⟨x16, e16, H1⟩ := bS H1
    exact ow_nil (kw_bl_normal (kw_nx (cw_region (oM rfl (oP e16 rfl (oS rfl (ow_nil (kw_lqS (js := [1, 2, 3]) (fuel, (v9.set (Int.toNat v11) (⟨false, 0, 0, 0, 0, false⟩ : Ln)), x16, C15) ⟨H1, (by simp [hl10]), o15⟩ (Nat.lt_succ_self _) ⟨rfl, rfl, rfl, trivial⟩ ⟨1, [2, 3], rfl, rfl, 2, [3], rfl, rfl, 3, [], rfl, rfl, trivial⟩ (by decide)))))))))
   have H1 := cond_f H1 h14
   obtain ⟨x17, e17, H1⟩ := bS H1
   exact cw_skip (kw_bl_normal (kw_nx (cw_region (oM rfl (oP e17 rfl (oS rfl (ow_nil (kw_lqS (js := [1, 2, 3]) (fuel, v9, x17, C10) ⟨H1, (by simp [hl10]), o10⟩ (Nat.lt_succ_self _) ⟨rfl, rfl, rfl, trivial⟩ ⟨1, [2, 3], rfl, rfl, 2, [3], rfl, rfl, 3, [], rfl, rfl, trivial⟩ (by decide)))))))))
  have H1 := cond_f H1 h12
  refine cw_exit (kw_nx_exit (kw_lq_exit (kw_bl ?_)))
  obtain rfl := sI H1
  exact kw_joinS (js := [1, 2, 3]) (v9, v11, C10) ⟨rfl, (by simp [hl10]), o10⟩ ⟨rfl, rfl, rfl, trivial⟩ ⟨1, [2, 3], rfl, rfl, 2, [3], rfl, rfl, 3, [], rfl, rfl, trivial⟩ (by decide)
 rintro ⟨v9, v11, C10⟩ ⟨rfl, hl10, o10⟩
 dsimp only
 refine kw_nx (sr (oB2 3 ts29 rfl (oC2 1 ts29 rfl rfl (nn (cw_ret ?_)))))
 obtain rfl := sI H0
 exact kr Tryz.results114 (rC2 1 ts29 rfl rfl) [2] ⟨_, _, _, _, rfl, rfl, (by simp [hl10]), o10⟩

theorem c_s_EnterSpace (fl : Nat) (w : World) (a0 : Mc) (a1 : Int) (hn0_0 : n0_0 = (a0.t.b).length) (hr0_0 : RO w (hkeys []) (RdL p0_0 c0_0 a0.t.b)) (hn0_1 : n0_1 = (a0.t.f).length) (hr0_1 : RO w (hkeys []) (RdL p0_1 c0_1 a0.t.f)) (hn0_2 : n0_2 = (a0.c.l).length) (hr0_2 : RO w (hkeys []) (RdL p0_2 c0_2 a0.c.l)) (hn0_3 : n0_3 = (a0.g.o).length) (hr0_3 : RO w (hkeys []) (RdL p0_3 c0_3 a0.g.o)) (r : Mc × Bool) (H0 : s_EnterSpace fl a0 a1 = some r) :
  Ct Tryz.prog 107 [.agg #[.slice p0_0 n0_0 c0_0, .slice p0_1 n0_1 c0_1, .slice p0_2 n0_2 c0_2, .int .i64 a0.c.h, .int .i64 a0.g.c, .int .i64 a0.g.n, .int .i64 a0.g.r, .slice p0_3 n0_3 c0_3, .int .i64 a0.s], .int .i64 a1] w [] (fun rv h' => ∃ (x0 : Option Addr) (y0 z0 : Nat) (C0 : Res) (x1 : Option Addr) (y1 z1 : Nat) (C1 : Res) (x2 : Option Addr) (y2 z2 : Nat) (C2 : Res) (x3 : Option Addr) (y3 z3 : Nat) (C3 : Res), rv = .tuple #[.agg #[.slice x0 y0 z0, .slice x1 y1 z1, .slice x2 y2 z2, .int .i64 r.1.c.h, .int .i64 r.1.g.c, .int .i64 r.1.g.n, .int .i64 r.1.g.r, .slice x3 y3 z3, .int .i64 r.1.s], .bool r.2] ∧ h' = [(0, C0), (1, C1), (2, C2), (3, C3)] ∧ y0 = (r.1.t.b).length ∧ OwnC 3 x0 z0 r.1.t.b C0 ∧ y1 = (r.1.t.f).length ∧ OwnC 51 x1 z1 r.1.t.f C1 ∧ y2 = (r.1.c.l).length ∧ OwnC 47 x2 z2 r.1.c.l C2 ∧ y3 = (r.1.g.o).length ∧ OwnC 89 x3 z3 r.1.g.o C3) := by
 subst hn0_0 hn0_1 hn0_2 hn0_3
 unfold s_EnterSpace at H0
 refine ct_of_cw Tryz.func107 rfl Tryz.ntmps107 rfl (Sat.refl _ _) ?_
 refine sr (oE (stpU_box 0 rfl rfl) rfl ?_)
 rintro _ _ ⟨b1, rfl, rfl⟩
 refine oE (stpU_alloc 1 tz34 rfl) rfl ?_
 rintro _ _ ⟨b2, rfl, rfl⟩
 obtain ⟨x3, e3, H0⟩ := bS H0
 refine oS rfl (nn (sr (oA 4 Tryz.underlying34 rfl ts32 rfl (oB4 0 ts32 rfl (oM rfl (oE (stpU_call (fun i => 2 + i) cf106 (fun w hw => c_s_TakeTag fl w a0.g a1 rfl (RO.pass hr0_3 hw) x3 e3) (yB rfl rfl)) rfl ?_))))))
 rintro _ _ ⟨_, ⟨p4, _, c6, C7, rfl, rfl, rfl, o7⟩, rfl⟩
 refine oM rfl (oT rfl (oT rfl (oT rfl (oT rfl (oE (stpU_alloc 3 tz32 rfl) rfl ?_)))))
 rintro _ _ ⟨b8, rfl, rfl⟩
 obtain ⟨x9, e9, H0⟩ := bS H0
 refine oC4 3 ts32 rfl rfl (oS rfl (oS rfl (oS rfl (nn (cw_seq (sr (oB9 0 ts34 rfl (oE (stpU_call (fun i => 4 + i) cf22 (fun w hw => c_s_MachineValid fl w a0 rfl (RO.pass hr0_0 hw) rfl (RO.pass hr0_1 hw) rfl (RO.pass hr0_2 hw) rfl (RO.pass hr0_3 hw) x9 e9) (yA rfl)) rfl ?_))))))))
 rintro _ _ ⟨_, ⟨rfl, rfl⟩, rfl⟩
 obtain ⟨y10, ey10, H0⟩ := bS H0
 refine oK rfl (oM rfl (ow_cutY 3 26 y10 ?_ ?_))
 ·rcases Bool.eq_false_or_eq_true (!x9) with hy10 | hy10
  ·have ey10 := cond_t ey10 hy10
   refine oO rfl hy10 rfl (oO rfl hy10 rfl (oD (stp_pick_t rfl hy10 rfl) rfl ?_))
   obtain rfl := sI ey10
   exact ow_nil (jy 3 0)
  have ey10 := cond_f ey10 hy10
  refine oG rfl hy10 (mv rfl) rfl (oG rfl hy10 (stp_not rfl) rfl (oD (stp_pick_f rfl hy10 rfl) rfl ?_))
  obtain rfl := sI ey10
  exact ow_nil (jy 3 0)
 refine ow_nil (kw_nx (cw_cond rfl (fun h11 => ?_) (fun h11 => ?_)))
 ·have H0 := cond_t H0 h11
  refine sr (oD (stp_build (cs := #[.slice none 0 0, .slice none 0 0, .slice none 0 0, .int .i64 0, .int .i64 0, .int .i64 0, .int .i64 0, .slice none 0 0, .int .i64 0]) sevp_nil bt34_6) rfl (oC9 1 ts34 rfl rfl (oS rfl (nn (cw_ret (kw_nx_ret (kw_addNil 4 (kw_addNil 5 (kw_addNil 6 (kw_addNil 7 ?_))))))))))
  obtain rfl := sI H0
  exact kr Tryz.results107 (.cons (.cellN (us := [_, _, _, _, _, _, _, _, _]) ts34 rfl (Cells.box (id := 1) rfl 9 rfl)) (rT rfl)) [4, 5, 6, 7] ⟨_, _, _, _, _, _, _, _, _, _, _, _, _, _, _, _, rfl, rfl, rfl, (OwnC.nil _ _), rfl, (OwnC.nil _ _), rfl, (OwnC.nil _ _), rfl, (OwnC.nil _ _)⟩
 have H0 := cond_f H0 h11
 obtain ⟨x12, e12, H0⟩ := bS H0
 refine cw_skip (kw_nx (sr (oB9 0 ts34 rfl (oE (stpU_call (fun i => 8 + i) cf35 (fun w hw => c_s_l6Copy fl w a0 rfl (RO.pass hr0_0 hw) rfl (RO.pass hr0_1 hw) rfl (RO.pass hr0_2 hw) rfl (RO.pass hr0_3 hw) x12 e12) (yA rfl)) rfl ?_))))
 rintro _ _ ⟨_, ⟨p13, _, c15, C16, p17, _, c19, C20, p21, _, c23, C24, p25, _, c27, C28, rfl, rfl, rfl, o16, rfl, o20, rfl, o24, rfl, o28⟩, rfl⟩
 refine oE (stpU_alloc 12 tz34 rfl) rfl ?_
 rintro _ _ ⟨b29, rfl, rfl⟩
 refine oC9 12 ts34 rfl rfl (nn (sr (oB4 3 ts32 rfl (oA 4 Tryz.underlying34 rfl ts32 rfl (oC9 12 ts32 rfl rfl (nn (sr (oM rfl (oA 8 Tryz.underlying34 rfl ts3 rfl (oC9 12 ts3 rfl rfl (nn (cw_seq (sr ?_)))))))))))))
 refine oM rfl (nn (cw_cond rfl (fun h30 => ?_) (fun h30 => ?_)))
 ·have H0 := cond_t H0 h30
  obtain ⟨x31, e31, H0⟩ := bS H0
  refine cw_region (oA 2 Tryz.underlying34 rfl ts29 rfl (oB2 0 ts29 rfl (oE (stpU_call (fun i => 13 + i) cf114 (fun w hw => c_s_l6Fresh fl w a0.c rfl (RO.pass hr0_2 hw) x31 e31) (yA rfl)) rfl ?_)))
  rintro _ _ ⟨_, ⟨p32, _, c34, C35, rfl, rfl, rfl, o35⟩, rfl⟩
  refine oA 2 Tryz.underlying34 rfl ts29 rfl (oC9 12 ts29 rfl rfl (nn (sr (oB9 12 ts34 rfl (oC9 1 ts34 rfl rfl (oS rfl (nn (cw_ret ?_))))))))
  obtain rfl := sI H0
  exact kr Tryz.results107 (.cons (.cellN (us := [_, _, _, _, _, _, _, _, _]) ts34 rfl (Cells.box (id := 1) rfl 9 rfl)) (rT rfl)) [8, 9, 13, 2] ⟨_, _, _, _, _, _, _, _, _, _, _, _, _, _, _, _, rfl, rfl, rfl, o16, rfl, o20, rfl, o35, rfl, o7⟩
 have H0 := cond_f H0 h30
 refine cw_skip (kw_nx (sr (oB9 12 ts34 rfl (oC9 1 ts34 rfl rfl (oS rfl (nn (cw_ret ?_)))))))
 obtain rfl := sI H0
 exact kr Tryz.results107 (.cons (.cellN (us := [_, _, _, _, _, _, _, _, _]) ts34 rfl (Cells.box (id := 1) rfl 9 rfl)) (rT rfl)) [8, 9, 10, 2] ⟨_, _, _, _, _, _, _, _, _, _, _, _, _, _, _, _, rfl, rfl, rfl, o16, rfl, o20, rfl, o24, rfl, o7⟩

theorem c_s_l6Page (fl : Nat) (w : World) (m0 : Nat) (a0_0 : (List UInt8)) (a0_1 : Int) (hn0_0_0 : n0_0_0 = (a0_0).length) (hr0_0_0 : RO w (hkeys [(0, [(m0, .cells #[.slice p0_0_0 n0_0_0 c0_0_0, .int .i64 a0_1] 91 (0, 0))])]) (RdL p0_0_0 c0_0_0 a0_0)) (hM : Sat w (hkeys [(0, [(m0, .cells #[.slice p0_0_0 n0_0_0 c0_0_0, .int .i64 a0_1] 91 (0, 0))])]) w [(0, [(m0, .cells #[.slice p0_0_0 n0_0_0 c0_0_0, .int .i64 a0_1] 91 (0, 0))])]) (r : Int × Int) (H0 : s_l6Page fl a0_0 a0_1 = some r) :
  Ct Tryz.prog 109 [.pointer (some ⟨m0, 0, none⟩)] w [(0, [(m0, .cells #[.slice p0_0_0 n0_0_0 c0_0_0, .int .i64 a0_1] 91 (0, 0))])] (fun rv h' => rv = .int .i64 r.1 ∧ h' = [(0, [(m0, .cells #[.slice p0_0_0 n0_0_0 c0_0_0, .int .i64 r.2] 91 (0, 0))])]) := by
 subst hn0_0_0
 unfold s_l6Page at H0
 refine ct_of_cw Tryz.func109 rfl Tryz.ntmps109 rfl hM ?_
 refine sr (oS rfl (nn (sr (oM rfl (oE (stpU_lit (sz := 1) (l := [1, 2, 3, 4, 200, 201, 5]) [.int .i64 1, .int .i64 2, .int .i64 3, .int .i64 4, .int .i64 200, .int .i64 201, .int .i64 5] sl23 1 (sevp_cons rfl (sevp_cons rfl (sevp_cons rfl (sevp_cons rfl (sevp_cons rfl (sevp_cons rfl (sevp_cons rfl sevp_nil))))))) rfl rfl rfl rfl rfl rfl rfl rfl rfl) rfl ?_)))))
 rintro _ _ ⟨p1, C2, rfl, rfl, o2⟩
 obtain ⟨x3, e3, H0⟩ := bS H0
 refine oE (stpU_callM (fun i => bif Nat.beq i 0 then 0 else 2 + i) cf55 (fun w hw hb => c_s_l12Rd_num fl w m0 a0_0 a0_1 ([1, 2, 3, 4, 200, 201, 5]) rfl (RO.passM hr0_0_0 hw hb) (by simp) (OwnC.passM (id := 1) rfl o2 hw hb ⟨rfl, trivial⟩) (hw.pass (js := [0]) ⟨0, [], rfl, rfl, trivial⟩ (by decide)) x3 e3) (yB rfl rfl) ⟨rfl, (fun _ _ hp => by obtain ⟨_, rfl⟩ := hp; exact ⟨_, rfl⟩), trivial⟩) rfl ?_
 rintro _ _ ⟨_, ⟨rfl, rfl⟩, rfl⟩
 refine oS rfl (nn (cw_ret ?_))
 obtain rfl := sI H0
 exact kr Tryz.results109 (rT rfl) [0] ⟨rfl, rfl⟩

theorem c_s_KeyValid (fl : Nat) (w : World) (a0 : K) (r : Bool) (H0 : s_KeyValid fl a0 = some r) :
  Ct Tryz.prog 99 [.agg #[.int .i64 a0.s, .int .i64 a0.p]] w [] (fun rv h' => rv = .bool r ∧ h' = []) := by
 unfold s_KeyValid at H0
 refine ct_of_cw Tryz.func99 rfl Tryz.ntmps99 rfl (Sat.refl _ _) ?_
 refine sr (oE (stpU_box 0 rfl rfl) rfl ?_)
 rintro _ _ ⟨b1, rfl, rfl⟩
 obtain ⟨x2, e2, H0⟩ := bS H0
 refine oS rfl (nn (sr (oA 0 Tryz.underlying49 rfl ts3 rfl (oL 0 ts3 rfl (oE (stpU_call (fun i => 1 + i) cf84 (fun w hw => c_s_l1Space fl w a0.s x2 e2) (yA rfl)) rfl ?_)))))
 rintro _ _ ⟨_, ⟨rfl, rfl⟩, rfl⟩
 obtain ⟨y3, ey3, H0⟩ := bS H0
 refine oM rfl (ow_cutY 4 10 y3 ?_ ?_)
 ·rcases Bool.eq_false_or_eq_true x2 with hy3 | hy3
  ·have ey3 := cond_t ey3 hy3
   obtain ⟨x4, e4, ey3⟩ := bS ey3
   refine oG rfl hy3 (fA 1 Tryz.underlying49 rfl ts3 rfl rfl rfl) rfl (oG rfl hy3 (lB 0 ts3 rfl rfl rfl) rfl (ow_eff (.some rfl hy3) (stpU_call (fun i => 1 + i) cf101 (fun w hw => c_s_l1Page fl w a0.p x4 e4) (yA rfl)) rfl ?_))
   rintro _ _ ⟨_, ⟨rfl, rfl⟩, rfl⟩
   refine oD (stp_pick_t rfl hy3 rfl) rfl ?_
   obtain rfl := sI ey3
   exact ow_nil (jy 4 0)
  have ey3 := cond_f ey3 hy3
  refine oO rfl hy3 rfl (oO rfl hy3 rfl (oO rfl hy3 rfl (oD (stp_pick_f rfl hy3 rfl) rfl ?_)))
  obtain rfl := sI ey3
  exact ow_nil (jy 4 0)
 refine oS rfl (nn (cw_ret ?_))
 obtain rfl := sI H0
 exact kr Tryz.results99 (rT rfl) [] ⟨rfl, rfl⟩

theorem c_s_l6Shared (fl : Nat) (w : World) (a0 : K) (r : Bool) (H0 : s_l6Shared fl a0 = some r) :
  Ct Tryz.prog 115 [.agg #[.int .i64 a0.s, .int .i64 a0.p]] w [] (fun rv h' => rv = .bool r ∧ h' = []) := by
 unfold s_l6Shared at H0
 refine ct_of_cw Tryz.func115 rfl Tryz.ntmps115 rfl (Sat.refl _ _) ?_
 refine sr (oE (stpU_box 0 rfl rfl) rfl ?_)
 rintro _ _ ⟨b1, rfl, rfl⟩
 obtain ⟨x2, e2, H0⟩ := bS H0
 obtain ⟨y3, ey3, H0⟩ := bS H0
 refine oS rfl (nn (cw_seq (rdt g_mixed (rn 0 12) ⟨[[0],[],[],[],[0],[],[0],[],[0]], [], []⟩ (dB2 0 ts49 rfl (dV rfl (fun hh => stpU_call (fun i => 1 + i) cf99 (fun w hw => c_s_KeyValid fl w a0 x2 e2) (yA rfl)) rfl (dM rfl (dcY 8 13 y3 ?_ ?_)))))))
 ·rcases Bool.eq_false_or_eq_true x2 with hy3 | hy3
  ·have ey3 := cond_t ey3 hy3
   obtain ⟨x4, e4, ey3⟩ := bS ey3
   refine dG rfl hy3 (fA 0 Tryz.underlying49 rfl ts3 rfl rfl rfl) (dG rfl hy3 (lB 0 ts3 rfl rfl rfl) (dG rfl hy3 (fA 1 Tryz.underlying49 rfl ts3 rfl rfl rfl) (dG rfl hy3 (lB 0 ts3 rfl rfl rfl) (dVg rfl hy3 (fun hh => stpU_call (fun i => 1 + i) cf87 (fun w hw => c_s_KeyFor fl w a0.s a0.p x4 e4) (yB rfl rfl)) rfl (dG rfl hy3 (stp_loadN (us := [_, _]) ts49 rfl (Cells.box (id := 0) rfl 2 rfl)) (dG rfl hy3 (stp_eqlS te49 x4 a0 rfl rfl) (dD rfl (stp_pick_t rfl hy3 rfl) ?_)))))))
   obtain rfl := sI ey3
   exact dy 8 0
  have ey3 := cond_f ey3 hy3
  refine dO rfl hy3 (dO rfl hy3 (dO rfl hy3 (dO rfl hy3 (dO rfl hy3 (dO rfl hy3 (dO rfl hy3 (dD rfl (stp_pick_f rfl hy3 rfl) ?_)))))))
  obtain rfl := sI ey3
  exact dy 8 0
 refine dS rfl (dn (kw_nx (cw_ret ?_)))
 obtain rfl := sI H0
 exact kr Tryz.results115 (rT rfl) [] ⟨rfl, rfl⟩

theorem c_s_l3Map (fl : Nat) (w : World) (a0 : T) (a1 : K) (a2 : Int) (a3 : Int) (hn0_0 : n0_0 = (a0.b).length) (hr0_0 : RO w (hkeys []) (RdL p0_0 c0_0 a0.b)) (hn0_1 : n0_1 = (a0.f).length) (hr0_1 : RO w (hkeys []) (RdL p0_1 c0_1 a0.f)) (r : T) (H0 : s_l3Map fl a0 a1 a2 a3 = some r) :
  Ct Tryz.prog 125 [.agg #[.slice p0_0 n0_0 c0_0, .slice p0_1 n0_1 c0_1], .agg #[.int .i64 a1.s, .int .i64 a1.p], .int .i64 a2, .int .i64 a3] w [] (fun rv h' => ∃ (x0 : Option Addr) (y0 z0 : Nat) (C0 : Res) (x1 : Option Addr) (y1 z1 : Nat) (C1 : Res), rv = .agg #[.slice x0 y0 z0, .slice x1 y1 z1] ∧ h' = [(0, C0), (1, C1)] ∧ y0 = (r.b).length ∧ OwnC 3 x0 z0 r.b C0 ∧ y1 = (r.f).length ∧ OwnC 51 x1 z1 r.f C1) := by
 subst hn0_0 hn0_1
 unfold s_l3Map at H0
 refine ct_of_cw Tryz.func125 rfl Tryz.ntmps125 rfl (Sat.refl _ _) ?_
 refine sr (oE (stpU_box 0 rfl rfl) rfl ?_)
 rintro _ _ ⟨b1, rfl, rfl⟩
 refine oE (stpU_box 1 rfl rfl) rfl ?_
 rintro _ _ ⟨b2, rfl, rfl⟩
 refine oE (stpU_alloc 2 tz26 rfl) rfl ?_
 rintro _ _ ⟨b3, rfl, rfl⟩
 obtain ⟨x4, e4, H0⟩ := bS H0
 refine nn (sr (oB2 0 ts26 rfl (oE (stpU_call (fun i => 3 + i) cf66 (fun w hw => c_s_l3Copy fl w a0 rfl (RO.pass hr0_0 hw) rfl (RO.pass hr0_1 hw) x4 e4) (yA rfl)) rfl ?_)))
 rintro _ _ ⟨_, ⟨p5, _, c7, C8, p9, _, c11, C12, rfl, rfl, rfl, o8, rfl, o12⟩, rfl⟩
 refine oE (stpU_alloc 5 tz26 rfl) rfl ?_
 rintro _ _ ⟨b13, rfl, rfl⟩
 obtain ⟨x14, e14, H0⟩ := bS H0
 refine oC2 5 ts26 rfl rfl (nn (sr (oB2 1 ts49 rfl (oA 0 Tryz.underlying26 rfl ts23 rfl (oL 0 ts23 rfl (oD (stp_len Tryz.underlying23 rfl) rfl (oE (stpU_call (fun i => 6 + i) cf82 (fun w hw => c_s_l2Hash fl w a1 ((a0.b).length : Int) x14 e14) (yB rfl rfl)) rfl ?_)))))))
 rintro _ _ ⟨_, ⟨rfl, rfl⟩, rfl⟩
 obtain ⟨x15, e15, H0⟩ := bS H0
 refine oS rfl (nn (cw_seq (rdt g_mixed (rn 0 13) ⟨[[],[5],[],[1],[],[],[5],[],[3],[3],[],[4],[4]], [[],[],[],[],[],[],[],[],[],[],[],[],[4]], [12]⟩ (dA 1 rfl Tryz.underlying26 rfl ts24 rfl (dL 5 ts24 rfl (dM rfl (dB2 1 ts49 rfl (dM rfl (dA 0 rfl Tryz.underlying26 rfl ts23 rfl (dL 5 ts23 rfl (dM rfl (dD rfl (stp_indexAddr Tryz.underlying23 ts3 (by decide) rfl rfl rfl (Rdb.own (id := 3) rfl o8) e15) (dD rfl (stp_load1 ts3 rfl (Cells.el (Rdb.own (id := 3) rfl o8) (by decide) e15 0 1 rfl)) ?_)))))))))))))
 obtain ⟨x16, e16, H0⟩ := bS H0
 refine dD rfl (stp_build (cs := #[.bool true, .int .i64 a1.s, .int .i64 a1.p, .int .i64 a3, .int .i64 x15]) (sevp_cons rfl (sevp_cons rfl (sevp_cons rfl (sevp_cons rfl sevp_nil)))) bt51_17) (dD rfl (stp_indexAddr Tryz.underlying24 ts51 (by decide) rfl rfl rfl (Rdb.own (id := 4) rfl o12) e16) (dF rfl (fun hh => stpU_storeEl (id := 4) (i := 0) (⟨true, a1, a3, x15⟩ : F) (by decide) ts51 rfl rfl (hh _ _ rfl) o12 e16 rfl rfl rfl rfl) ?_))
 rintro _ _ ⟨C17, rfl, o17⟩
 refine dk rfl (dn (kw_nx (sr (oA 0 Tryz.underlying26 rfl ts23 rfl (oL 5 ts23 rfl (oM rfl (oM rfl (oD (stp_indexAddr Tryz.underlying23 ts3 (by decide) rfl rfl rfl (Rdb.own (id := 3) rfl o8) e15) rfl (oF (stpU_storeEl (id := 3) (i := 0) a2 (by decide) ts3 rfl rfl rfl o8 e15 rfl rfl rfl rfl) ?_)))))))))
 rintro _ _ ⟨C18, rfl, o18⟩
 refine nn (sr (oB2 5 ts26 rfl (oC2 2 ts26 rfl rfl (nn (cw_ret ?_)))))
 obtain rfl := sI H0
 exact kr Tryz.results125 (rC2 2 ts26 rfl rfl) [3, 4] ⟨_, _, _, _, _, _, _, _, rfl, rfl, (by simp), o18, (by simp), o17⟩

theorem c_s_MapPage (fl : Nat) (w : World) (a0 : T) (a1 : K) (a2 : Int) (a3 : Int) (hn0_0 : n0_0 = (a0.b).length) (hr0_0 : RO w (hkeys []) (RdL p0_0 c0_0 a0.b)) (hn0_1 : n0_1 = (a0.f).length) (hr0_1 : RO w (hkeys []) (RdL p0_1 c0_1 a0.f)) (r : T × Bool) (H0 : s_MapPage fl a0 a1 a2 a3 = some r) :
  Ct Tryz.prog 116 [.agg #[.slice p0_0 n0_0 c0_0, .slice p0_1 n0_1 c0_1], .agg #[.int .i64 a1.s, .int .i64 a1.p], .int .i64 a2, .int .i64 a3] w [] (fun rv h' => ∃ (x0 : Option Addr) (y0 z0 : Nat) (C0 : Res) (x1 : Option Addr) (y1 z1 : Nat) (C1 : Res), rv = .tuple #[.agg #[.slice x0 y0 z0, .slice x1 y1 z1], .bool r.2] ∧ h' = [(0, C0), (1, C1)] ∧ y0 = (r.1.b).length ∧ OwnC 3 x0 z0 r.1.b C0 ∧ y1 = (r.1.f).length ∧ OwnC 51 x1 z1 r.1.f C1) := by
 subst hn0_0 hn0_1
 unfold s_MapPage at H0
 refine ct_of_cw Tryz.func116 rfl Tryz.ntmps116 rfl (Sat.refl _ _) ?_
 refine sr (oE (stpU_box 0 rfl rfl) rfl ?_)
 rintro _ _ ⟨b1, rfl, rfl⟩
 refine oE (stpU_box 1 rfl rfl) rfl ?_
 rintro _ _ ⟨b2, rfl, rfl⟩
 refine oE (stpU_alloc 2 tz26 rfl) rfl ?_
 rintro _ _ ⟨b3, rfl, rfl⟩
 obtain ⟨x4, e4, H0⟩ := bS H0
 refine oS rfl (nn (cw_seq (sr (oB2 0 ts26 rfl (oE (stpU_call (fun i => 3 + i) cf43 (fun w hw => c_s_TableValid fl w a0 rfl (RO.pass hr0_0 hw) rfl (RO.pass hr0_1 hw) x4 e4) (yA rfl)) rfl ?_)))))
 rintro _ _ ⟨_, ⟨rfl, rfl⟩, rfl⟩
 obtain ⟨y5, ey5, H0⟩ := bS H0
 refine oK rfl (oM rfl (ow_cutY 4 19 y5 ?_ ?_))
 ·rcases Bool.eq_false_or_eq_true (!x4) with hy5 | hy5
  ·have ey5 := cond_t ey5 hy5
   refine oO rfl hy5 rfl (oO rfl hy5 rfl (oO rfl hy5 rfl (oD (stp_pick_t rfl hy5 rfl) rfl ?_)))
   obtain rfl := sI ey5
   exact ow_nil (jy 4 0)
  have ey5 := cond_f ey5 hy5
  obtain ⟨x6, e6, ey5⟩ := bS ey5
  refine oG rfl hy5 (stp_loadN (us := [_, _]) ts49 rfl (Cells.box (id := 1) rfl 2 rfl)) rfl (ow_eff (.some rfl hy5) (stpU_call (fun i => 3 + i) cf99 (fun w hw => c_s_KeyValid fl w a1 x6 e6) (yA rfl)) rfl ?_)
  rintro _ _ ⟨_, ⟨rfl, rfl⟩, rfl⟩
  refine oG rfl hy5 (stp_not rfl) rfl (oD (stp_pick_f rfl hy5 rfl) rfl ?_)
  obtain rfl := sI ey5
  exact ow_nil (jy 4 0)
 obtain ⟨y7, ey7, H0⟩ := bS H0
 refine oM rfl (ow_cutY 4 24 y7 ?_ ?_)
 ·rcases Bool.eq_false_or_eq_true y5 with hy7 | hy7
  ·have ey7 := cond_t ey7 hy7
   refine oO rfl hy7 rfl (oO rfl hy7 rfl (oO rfl hy7 rfl (oD (stp_pick_t rfl hy7 rfl) rfl ?_)))
   obtain rfl := sI ey7
   exact ow_nil (jy 4 0)
  have ey7 := cond_f ey7 hy7
  obtain ⟨x8, e8, ey7⟩ := bS ey7
  refine oG rfl hy7 (mv rfl) rfl (ow_eff (.some rfl hy7) (stpU_call (fun i => 3 + i) cf100 (fun w hw => c_s_RightsValid fl w a3 x8 e8) (yA rfl)) rfl ?_)
  rintro _ _ ⟨_, ⟨rfl, rfl⟩, rfl⟩
  refine oG rfl hy7 (stp_not rfl) rfl (oD (stp_pick_f rfl hy7 rfl) rfl ?_)
  obtain rfl := sI ey7
  exact ow_nil (jy 4 0)
 obtain ⟨y9, ey9, H0⟩ := bS H0
 refine oM rfl (ow_cutY 3 28 y9 ?_ ?_)
 ·rcases Bool.eq_false_or_eq_true y7 with hy9 | hy9
  ·have ey9 := cond_t ey9 hy9
   refine oO rfl hy9 rfl (oO rfl hy9 rfl (oD (stp_pick_t rfl hy9 rfl) rfl ?_))
   obtain rfl := sI ey9
   exact ow_nil (jy 3 0)
  have ey9 := cond_f ey9 hy9
  refine oG rfl hy9 (mv rfl) rfl (oG rfl hy9 (stp_lss rfl rfl) rfl (oD (stp_pick_f rfl hy9 rfl) rfl ?_))
  obtain rfl := sI ey9
  exact ow_nil (jy 3 0)
 obtain ⟨y10, ey10, H0⟩ := bS H0
 refine oM rfl (ow_cutY 6 35 y10 ?_ ?_)
 ·rcases Bool.eq_false_or_eq_true y9 with hy10 | hy10
  ·have ey10 := cond_t ey10 hy10
   refine oO rfl hy10 rfl (oO rfl hy10 rfl (oO rfl hy10 rfl (oO rfl hy10 rfl (oO rfl hy10 rfl (oD (stp_pick_t rfl hy10 rfl) rfl ?_)))))
   obtain rfl := sI ey10
   exact ow_nil (jy 6 0)
  have ey10 := cond_f ey10 hy10
  refine oG rfl hy10 (mv rfl) rfl (oG rfl hy10 (fA 1 Tryz.underlying26 rfl ts24 rfl rfl rfl) rfl (oG rfl hy10 (lB 0 ts24 rfl rfl rfl) rfl (oG rfl hy10 (stp_len Tryz.underlying24 rfl) rfl (oG rfl hy10 (stp_geq rfl rfl) rfl (oD (stp_pick_f rfl hy10 rfl) rfl ?_)))))
  obtain rfl := sI ey10
  exact ow_nil (jy 6 0)
 obtain ⟨y11, ey11, H0⟩ := bS H0
 refine oM rfl (ow_cutY 7 43 y11 ?_ ?_)
 ·rcases Bool.eq_false_or_eq_true y10 with hy11 | hy11
  ·have ey11 := cond_t ey11 hy11
   refine oO rfl hy11 rfl (oO rfl hy11 rfl (oO rfl hy11 rfl (oO rfl hy11 rfl (oO rfl hy11 rfl (oO rfl hy11 rfl (oD (stp_pick_t rfl hy11 rfl) rfl ?_))))))
   obtain rfl := sI ey11
   exact ow_nil (jy 7 0)
  have ey11 := cond_f ey11 hy11
  obtain ⟨x12, e12, ey11⟩ := bS ey11
  refine oG rfl hy11 (fA 1 Tryz.underlying26 rfl ts24 rfl rfl rfl) rfl (oG rfl hy11 (lB 0 ts24 rfl rfl rfl) rfl (oG rfl hy11 (mv rfl) rfl (oG rfl hy11 (stp_indexAddr Tryz.underlying24 ts51 (by decide) rfl rfl rfl (Rdb.ro hr0_1) e12) rfl (oG rfl hy11 (fA 0 Tryz.underlying51 rfl ts4 rfl rfl rfl) rfl (oG rfl hy11 (stp_load1 ts4 rfl (Cells.el (Rdb.ro hr0_1) (by decide) e12 0 1 rfl)) rfl (oD (stp_pick_f rfl hy11 rfl) rfl ?_))))))
  obtain rfl := sI ey11
  exact ow_nil (jy 7 0)
 refine ow_nil (kw_nx (cw_cond rfl (fun h13 => ?_) (fun h13 => ?_)))
 ·have H0 := cond_t H0 h13
  refine sr (oD (stp_build (cs := #[.slice none 0 0, .slice none 0 0]) sevp_nil bt26_0) rfl (oC2 2 ts26 rfl rfl (oS rfl (nn (cw_ret (kw_nx_ret (kw_addNil 3 (kw_addNil 4 ?_))))))))
  obtain rfl := sI H0
  exact kr Tryz.results116 (.cons (.cellN (us := [_, _]) ts26 rfl (Cells.box (id := 2) rfl 2 rfl)) (rT rfl)) [3, 4] ⟨_, _, _, _, _, _, _, _, rfl, rfl, rfl, (OwnC.nil _ _), rfl, (OwnC.nil _ _)⟩
 have H0 := cond_f H0 h13
 obtain ⟨x14, e14, H0⟩ := bS H0
 refine cw_skip (kw_nx (sr (oB2 0 ts26 rfl (oB2 1 ts49 rfl (oE (stpU_call (fun i => 5 + i) cf86 (fun w hw => c_s_l3Find fl w a0 a1 rfl (RO.pass hr0_0 hw) rfl (RO.pass hr0_1 hw) x14 e14) (yB rfl rfl)) rfl ?_)))))
 rintro _ _ ⟨_, ⟨rfl, rfl⟩, rfl⟩
 refine oM rfl (oT rfl (oT rfl (oS rfl (oS rfl (nn (cw_seq (sr (oM rfl (oI rfl (nn (cw_cond rfl (fun h15 => ?_) (fun h15 => ?_))))))))))))
 ·have H0 := cond_t H0 h15
  refine sr (oD (stp_build (cs := #[.slice none 0 0, .slice none 0 0]) sevp_nil bt26_0) rfl (oC2 2 ts26 rfl rfl (oS rfl (nn (cw_ret (kw_nx_ret (kw_addNil 5 (kw_addNil 6 ?_))))))))
  obtain rfl := sI H0
  exact kr Tryz.results116 (.cons (.cellN (us := [_, _]) ts26 rfl (Cells.box (id := 2) rfl 2 rfl)) (rT rfl)) [5, 6] ⟨_, _, _, _, _, _, _, _, rfl, rfl, rfl, (OwnC.nil _ _), rfl, (OwnC.nil _ _)⟩
 have H0 := cond_f H0 h15
 obtain ⟨x16, e16, H0⟩ := bS H0
 refine cw_skip (kw_nx (sr (oB2 0 ts26 rfl (oB2 1 ts49 rfl (oM rfl (oM rfl (oE (stpU_call (fun i => 7 + i) cf125 (fun w hw => c_s_l3Map fl w a0 a1 a2 a3 rfl (RO.pass hr0_0 hw) rfl (RO.pass hr0_1 hw) x16 e16) (yD rfl rfl rfl rfl)) rfl ?_)))))))
 rintro _ _ ⟨_, ⟨p17, _, c19, C20, p21, _, c23, C24, rfl, rfl, rfl, o20, rfl, o24⟩, rfl⟩
 refine oC2 2 ts26 rfl rfl (oS rfl (nn (cw_ret ?_)))
 obtain rfl := sI H0
 exact kr Tryz.results116 (.cons (.cellN (us := [_, _]) ts26 rfl (Cells.box (id := 2) rfl 2 rfl)) (rT rfl)) [7, 8] ⟨_, _, _, _, _, _, _, _, rfl, rfl, rfl, o20, rfl, o24⟩

theorem c_s_PutPage (fl : Nat) (w : World) (a0 : Mc) (a1 : K) (a2 : Int) (a3 : Int) (hn0_0 : n0_0 = (a0.t.b).length) (hr0_0 : RO w (hkeys []) (RdL p0_0 c0_0 a0.t.b)) (hn0_1 : n0_1 = (a0.t.f).length) (hr0_1 : RO w (hkeys []) (RdL p0_1 c0_1 a0.t.f)) (hn0_2 : n0_2 = (a0.c.l).length) (hr0_2 : RO w (hkeys []) (RdL p0_2 c0_2 a0.c.l)) (hn0_3 : n0_3 = (a0.g.o).length) (hr0_3 : RO w (hkeys []) (RdL p0_3 c0_3 a0.g.o)) (r : Mc × Bool) (H0 : s_PutPage fl a0 a1 a2 a3 = some r) :
  Ct Tryz.prog 108 [.agg #[.slice p0_0 n0_0 c0_0, .slice p0_1 n0_1 c0_1, .slice p0_2 n0_2 c0_2, .int .i64 a0.c.h, .int .i64 a0.g.c, .int .i64 a0.g.n, .int .i64 a0.g.r, .slice p0_3 n0_3 c0_3, .int .i64 a0.s], .agg #[.int .i64 a1.s, .int .i64 a1.p], .int .i64 a2, .int .i64 a3] w [] (fun rv h' => ∃ (x0 : Option Addr) (y0 z0 : Nat) (C0 : Res) (x1 : Option Addr) (y1 z1 : Nat) (C1 : Res) (x2 : Option Addr) (y2 z2 : Nat) (C2 : Res) (x3 : Option Addr) (y3 z3 : Nat) (C3 : Res), rv = .tuple #[.agg #[.slice x0 y0 z0, .slice x1 y1 z1, .slice x2 y2 z2, .int .i64 r.1.c.h, .int .i64 r.1.g.c, .int .i64 r.1.g.n, .int .i64 r.1.g.r, .slice x3 y3 z3, .int .i64 r.1.s], .bool r.2] ∧ h' = [(0, C0), (1, C1), (2, C2), (3, C3)] ∧ y0 = (r.1.t.b).length ∧ OwnC 3 x0 z0 r.1.t.b C0 ∧ y1 = (r.1.t.f).length ∧ OwnC 51 x1 z1 r.1.t.f C1 ∧ y2 = (r.1.c.l).length ∧ OwnC 47 x2 z2 r.1.c.l C2 ∧ y3 = (r.1.g.o).length ∧ OwnC 89 x3 z3 r.1.g.o C3) := by
 subst hn0_0 hn0_1 hn0_2 hn0_3
 unfold s_PutPage at H0
 refine ct_of_cw Tryz.func108 rfl Tryz.ntmps108 rfl (Sat.refl _ _) ?_
 refine sr (oE (stpU_box 0 rfl rfl) rfl ?_)
 rintro _ _ ⟨b1, rfl, rfl⟩
 refine oE (stpU_box 1 rfl rfl) rfl ?_
 rintro _ _ ⟨b2, rfl, rfl⟩
 refine oE (stpU_alloc 2 tz34 rfl) rfl ?_
 rintro _ _ ⟨b3, rfl, rfl⟩
 obtain ⟨x4, e4, H0⟩ := bS H0
 refine oS rfl (nn (cw_seq (sr (oB9 0 ts34 rfl (oE (stpU_call (fun i => 3 + i) cf22 (fun w hw => c_s_MachineValid fl w a0 rfl (RO.pass hr0_0 hw) rfl (RO.pass hr0_1 hw) rfl (RO.pass hr0_2 hw) rfl (RO.pass hr0_3 hw) x4 e4) (yA rfl)) rfl ?_)))))
 rintro _ _ ⟨_, ⟨rfl, rfl⟩, rfl⟩
 obtain ⟨y5, ey5, H0⟩ := bS H0
 refine oK rfl (oM rfl (ow_cutY 4 20 y5 ?_ ?_))
 ·rcases Bool.eq_false_or_eq_true (!x4) with hy5 | hy5
  ·have ey5 := cond_t ey5 hy5
   refine oO rfl hy5 rfl (oO rfl hy5 rfl (oO rfl hy5 rfl (oD (stp_pick_t rfl hy5 rfl) rfl ?_)))
   obtain rfl := sI ey5
   exact ow_nil (jy 4 0)
  have ey5 := cond_f ey5 hy5
  obtain ⟨x6, e6, ey5⟩ := bS ey5
  refine oG rfl hy5 (stp_loadN (us := [_, _]) ts49 rfl (Cells.box (id := 1) rfl 2 rfl)) rfl (ow_eff (.some rfl hy5) (stpU_call (fun i => 3 + i) cf115 (fun w hw => c_s_l6Shared fl w a1 x6 e6) (yA rfl)) rfl ?_)
  rintro _ _ ⟨_, ⟨rfl, rfl⟩, rfl⟩
  refine oG rfl hy5 (stp_not rfl) rfl (oD (stp_pick_f rfl hy5 rfl) rfl ?_)
  obtain rfl := sI ey5
  exact ow_nil (jy 4 0)
 refine ow_nil (kw_nx (cw_cond rfl (fun h7 => ?_) (fun h7 => ?_)))
 ·have H0 := cond_t H0 h7
  refine sr (oD (stp_build (cs := #[.slice none 0 0, .slice none 0 0, .slice none 0 0, .int .i64 0, .int .i64 0, .int .i64 0, .int .i64 0, .slice none 0 0, .int .i64 0]) sevp_nil bt34_6) rfl (oC9 2 ts34 rfl rfl (oS rfl (nn (cw_ret (kw_nx_ret (kw_addNil 3 (kw_addNil 4 (kw_addNil 5 (kw_addNil 6 ?_))))))))))
  obtain rfl := sI H0
  exact kr Tryz.results108 (.cons (.cellN (us := [_, _, _, _, _, _, _, _, _]) ts34 rfl (Cells.box (id := 2) rfl 9 rfl)) (rT rfl)) [3, 4, 5, 6] ⟨_, _, _, _, _, _, _, _, _, _, _, _, _, _, _, _, rfl, rfl, rfl, (OwnC.nil _ _), rfl, (OwnC.nil _ _), rfl, (OwnC.nil _ _), rfl, (OwnC.nil _ _)⟩
 have H0 := cond_f H0 h7
 obtain ⟨x8, e8, H0⟩ := bS H0
 refine cw_skip (kw_nx (sr (oA 0 Tryz.underlying34 rfl ts26 rfl (oB2 0 ts26 rfl (oB2 1 ts49 rfl (oM rfl (oM rfl (oE (stpU_call (fun i => 7 + i) cf116 (fun w hw => c_s_MapPage fl w a0.t a1 a2 a3 rfl (RO.pass hr0_0 hw) rfl (RO.pass hr0_1 hw) x8 e8) (yD rfl rfl rfl rfl)) rfl ?_))))))))
 rintro _ _ ⟨_, ⟨p9, _, c11, C12, p13, _, c15, C16, rfl, rfl, rfl, o12, rfl, o16⟩, rfl⟩
 refine oM rfl (oT rfl (oT rfl (oE (stpU_alloc 9 tz26 rfl) rfl ?_)))
 rintro _ _ ⟨b17, rfl, rfl⟩
 refine oC2 9 ts26 rfl rfl (oS rfl (nn (cw_seq (sr (oM rfl (oK rfl (nn (cw_cond rfl (fun h18 => ?_) (fun h18 => ?_)))))))))
 ·have H0 := cond_t H0 h18
  refine sr (oD (stp_build (cs := #[.slice none 0 0, .slice none 0 0, .slice none 0 0, .int .i64 0, .int .i64 0, .int .i64 0, .int .i64 0, .slice none 0 0, .int .i64 0]) sevp_nil bt34_6) rfl (oC9 2 ts34 rfl rfl (oS rfl (nn (cw_ret (kw_nx_ret (kw_addNil 10 (kw_addNil 11 (kw_addNil 12 (kw_addNil 13 ?_))))))))))
  obtain rfl := sI H0
  exact kr Tryz.results108 (.cons (.cellN (us := [_, _, _, _, _, _, _, _, _]) ts34 rfl (Cells.box (id := 2) rfl 9 rfl)) (rT rfl)) [10, 11, 12, 13] ⟨_, _, _, _, _, _, _, _, _, _, _, _, _, _, _, _, rfl, rfl, rfl, (OwnC.nil _ _), rfl, (OwnC.nil _ _), rfl, (OwnC.nil _ _), rfl, (OwnC.nil _ _)⟩
 have H0 := cond_f H0 h18
 obtain ⟨x19, e19, H0⟩ := bS H0
 refine cw_skip (kw_nx (sr (oB9 0 ts34 rfl (oE (stpU_call (fun i => 14 + i) cf35 (fun w hw => c_s_l6Copy fl w a0 rfl (RO.pass hr0_0 hw) rfl (RO.pass hr0_1 hw) rfl (RO.pass hr0_2 hw) rfl (RO.pass hr0_3 hw) x19 e19) (yA rfl)) rfl ?_))))
 rintro _ _ ⟨_, ⟨p20, _, c22, C23, p24, _, c26, C27, p28, _, c30, C31, p32, _, c34, C35, rfl, rfl, rfl, o23, rfl, o27, rfl, o31, rfl, o35⟩, rfl⟩
 refine oE (stpU_alloc 18 tz34 rfl) rfl ?_
 rintro _ _ ⟨b36, rfl, rfl⟩
 refine oC9 18 ts34 rfl rfl (nn (sr (oB2 9 ts26 rfl (oA 0 Tryz.underlying34 rfl ts26 rfl (oC9 18 ts26 rfl rfl (nn (sr (oB9 18 ts34 rfl (oC9 2 ts34 rfl rfl (oS rfl (nn (cw_ret ?_))))))))))))
 obtain rfl := sI H0
 exact kr Tryz.results108 (.cons (.cellN (us := [_, _, _, _, _, _, _, _, _]) ts34 rfl (Cells.box (id := 2) rfl 9 rfl)) (rT rfl)) [7, 8, 16, 17] ⟨_, _, _, _, _, _, _, _, _, _, _, _, _, _, _, _, rfl, rfl, rfl, o12, rfl, o16, rfl, o31, rfl, o35⟩

theorem c_s_l6Tag (fl : Nat) (w : World) (a0 : Mc) (a1 : Int) (a2 : Int) (hn0_0 : n0_0 = (a0.t.b).length) (hr0_0 : RO w (hkeys []) (RdL p0_0 c0_0 a0.t.b)) (hn0_1 : n0_1 = (a0.t.f).length) (hr0_1 : RO w (hkeys []) (RdL p0_1 c0_1 a0.t.f)) (hn0_2 : n0_2 = (a0.c.l).length) (hr0_2 : RO w (hkeys []) (RdL p0_2 c0_2 a0.c.l)) (hn0_3 : n0_3 = (a0.g.o).length) (hr0_3 : RO w (hkeys []) (RdL p0_3 c0_3 a0.g.o)) (r : Int × Bool) (H0 : s_l6Tag fl a0 a1 a2 = some r) :
  Ct Tryz.prog 117 [.agg #[.slice p0_0 n0_0 c0_0, .slice p0_1 n0_1 c0_1, .slice p0_2 n0_2 c0_2, .int .i64 a0.c.h, .int .i64 a0.g.c, .int .i64 a0.g.n, .int .i64 a0.g.r, .slice p0_3 n0_3 c0_3, .int .i64 a0.s], .int .i64 a1, .int .i64 a2] w [] (fun rv h' => rv = .tuple #[.int .i64 r.1, .bool r.2] ∧ h' = []) := by
 subst hn0_0 hn0_1 hn0_2 hn0_3
 unfold s_l6Tag at H0
 refine ct_of_cw Tryz.func117 rfl Tryz.ntmps117 rfl (Sat.refl _ _) ?_
 refine sr (oE (stpU_box 0 rfl rfl) rfl ?_)
 rintro _ _ ⟨b1, rfl, rfl⟩
 refine oS rfl (oS rfl (nn (cw_seq (sr (oM rfl (oI rfl (nn (cw_cond rfl (fun h2 => ?_) (fun h2 => ?_)))))))))
 ·have H0 := cond_t H0 h2
  refine sr (oS rfl (oS rfl (nn (cw_ret (kw_nx_ret ?_)))))
  obtain rfl := sI H0
  exact kr Tryz.results117 (.cons (.tmp rfl) (rT rfl)) [] ⟨rfl, rfl⟩
 have H0 := cond_f H0 h2
 obtain ⟨x3, e3, H0⟩ := bS H0
 refine cw_skip (kw_nx (sr (oA 4 Tryz.underlying34 rfl ts32 rfl (oB4 0 ts32 rfl (oM rfl (oE (stpU_call (fun i => 1 + i) cf46 (fun w hw => c_s_l5Find fl w a0.g a1 rfl (RO.pass hr0_3 hw) x3 e3) (yB rfl rfl)) rfl ?_))))))
 rintro _ _ ⟨_, ⟨rfl, rfl⟩, rfl⟩
 refine oS rfl (nn (cw_seq (sr (oM rfl (oW rfl (nn (cw_cond rfl (fun h4 => ?_) (fun h4 => ?_))))))))
 ·have H0 := cond_t H0 h4
  refine sr (oS rfl (oS rfl (nn (cw_ret (kw_nx_ret ?_)))))
  obtain rfl := sI H0
  exact kr Tryz.results117 (.cons (.tmp rfl) (rT rfl)) [] ⟨rfl, rfl⟩
 have H0 := cond_f H0 h4
 obtain ⟨x5, e5, H0⟩ := bS H0
 refine cw_skip (kw_nx (sr (oA 4 Tryz.underlying34 rfl ts32 rfl (oA 3 Tryz.underlying32 rfl ts30 rfl (oL 0 ts30 rfl (oM rfl (oD (stp_indexAddr Tryz.underlying30 ts89 (by decide) rfl rfl rfl (Rdb.ro hr0_3) e5) rfl (oA 1 Tryz.underlying89 rfl ts3 rfl (oD (stp_load1 ts3 rfl (Cells.el (Rdb.ro hr0_3) (by decide) e5 1 1 rfl)) rfl (oS rfl (oS rfl (nn (cw_ret ?_)))))))))))))
 obtain rfl := sI H0
 exact kr Tryz.results117 (.cons (.tmp rfl) (rT rfl)) [] ⟨rfl, rfl⟩

theorem c_s_l4Fits (fl : Nat) (w : World) (a0 : Ln) (a1 : Int) (a2 : Int) (r : Bool) (H0 : s_l4Fits fl a0 a1 a2 = some r) :
  Ct Tryz.prog 126 [.agg #[.bool a0.va, .int .i64 a0.tg, .int .i64 a0.pg, .int .i64 a0.fr, .int .i64 a0.ri, .bool a0.wi], .int .i64 a1, .int .i64 a2] w [] (fun rv h' => rv = .bool r ∧ h' = []) := by
 unfold s_l4Fits at H0
 refine ct_of_cw Tryz.func126 rfl Tryz.ntmps126 rfl (Sat.refl _ _) ?_
 refine sr (oE (stpU_box 0 rfl rfl) rfl ?_)
 rintro _ _ ⟨b1, rfl, rfl⟩
 obtain ⟨y2, ey2, H0⟩ := bS H0
 refine oS rfl (nn (sr (oA 0 Tryz.underlying47 rfl ts4 rfl (oL 0 ts4 rfl (oM rfl (ow_cutY 5 14 y2 ?_ ?_))))))
 ·rcases Bool.eq_false_or_eq_true a0.va with hy2 | hy2
  ·have ey2 := cond_t ey2 hy2
   refine oG rfl hy2 (fA 2 Tryz.underlying47 rfl ts3 rfl rfl rfl) rfl (oG rfl hy2 (lB 0 ts3 rfl rfl rfl) rfl (oG rfl hy2 (mv rfl) rfl (oG rfl hy2 (stp_eql rfl rfl) rfl (oD (stp_pick_t rfl hy2 rfl) rfl ?_))))
   obtain rfl := sI ey2
   exact ow_nil (jy 5 0)
  have ey2 := cond_f ey2 hy2
  refine oO rfl hy2 rfl (oO rfl hy2 rfl (oO rfl hy2 rfl (oO rfl hy2 rfl (oD (stp_pick_f rfl hy2 rfl) rfl ?_))))
  obtain rfl := sI ey2
  exact ow_nil (jy 5 0)
 obtain ⟨y3, ey3, H0⟩ := bS H0
 refine oM rfl (ow_cutY 10 25 y3 ?_ ?_)
 ·rcases Bool.eq_false_or_eq_true y2 with hy3 | hy3
  ·have ey3 := cond_t ey3 hy3
   obtain ⟨y4, ey4, ey3⟩ := bS ey3
   refine oG rfl hy3 (fA 1 Tryz.underlying47 rfl ts3 rfl rfl rfl) rfl (oG rfl hy3 (lB 0 ts3 rfl rfl rfl) rfl (oG rfl hy3 (mv rfl) rfl (oG rfl hy3 (stp_eql rfl rfl) rfl (oG rfl hy3 (mv rfl) rfl (ow_cutY 4 24 y4 ?_ ?_)))))
   ·rcases Bool.eq_false_or_eq_true (a0.tg == a1) with hy4 | hy4
    ·have ey4 := cond_t ey4 hy4
     refine oO rfl hy4 rfl (oO rfl hy4 rfl (oO rfl hy4 rfl (oG rfl hy3 (stp_pick_t rfl hy4 rfl) rfl ?_)))
     obtain rfl := sI ey4
     exact ow_nil (jy 4 0)
    have ey4 := cond_f ey4 hy4
    refine oG rfl hy4 (fA 1 Tryz.underlying47 rfl ts3 rfl rfl rfl) rfl (oG rfl hy4 (lB 0 ts3 rfl rfl rfl) rfl (oG rfl hy4 (stp_eql rfl rfl) rfl (oG rfl hy3 (stp_pick_f rfl hy4 rfl) rfl ?_)))
    obtain rfl := sI ey4
    exact ow_nil (jy 4 0)
   refine oD (stp_pick_t rfl hy3 rfl) rfl ?_
   obtain rfl := sI ey3
   exact ow_nil (jy 7 0)
  have ey3 := cond_f ey3 hy3
  refine oO rfl hy3 rfl (oO rfl hy3 rfl (oO rfl hy3 rfl (oO rfl hy3 rfl (oO rfl hy3 rfl (oX rfl rfl rfl (oX rfl rfl rfl (oX rfl rfl rfl (oO rfl hy3 rfl (oD (stp_pick_f rfl hy3 rfl) rfl ?_)))))))))
  obtain rfl := sI ey3
  exact ow_nil (jy 10 0)
 refine oS rfl (nn (cw_ret ?_))
 obtain rfl := sI H0
 exact kr Tryz.results126 (rT rfl) [] ⟨rfl, rfl⟩

theorem c_s_l4Find (fl : Nat) (w : World) (a0 : Ca) (a1 : Int) (a2 : Int) (hn0_0 : n0_0 = (a0.l).length) (hr0_0 : RO w (hkeys []) (RdL p0_0 c0_0 a0.l)) (r : Int) (H0 : s_l4Find fl a0 a1 a2 = some r) :
  Ct Tryz.prog 118 [.agg #[.slice p0_0 n0_0 c0_0, .int .i64 a0.h], .int .i64 a1, .int .i64 a2] w [] (fun rv h' => rv = .int .i64 r ∧ h' = []) := by
 subst hn0_0
 unfold s_l4Find at H0
 refine ct_of_cw Tryz.func118 rfl Tryz.ntmps118 rfl (Sat.refl _ _) ?_
 refine sr (oE (stpU_box 0 rfl rfl) rfl ?_)
 rintro _ _ ⟨b1, rfl, rfl⟩
 obtain ⟨o0_0, eo0_0, H0⟩ := bS H0
 refine oS rfl (nn (cw_seq (sr (oS rfl (nn (cw_join (ι := Int) (fun | v2 => o0_0 = .out v2) (fun | v2 => [(1, .int .i64 a1), (2, .int .i64 a2), (3, .pointer (some ⟨b1, 0, none⟩)), (7, .int .i64 v2)]) (fun | v2 => [(0, [(b1, .cells #[.slice p0_0 ((a0.l).length) c0_0, .int .i64 a0.h] 29 (0, 0))])]) ?_ ?_))))))
 ·refine cw_block (cw_loopS (ι := Nat × Int) (js := [0]) (fun x => x.1) (fun | (fuel, v2) => s_l4Find_L0 fl a0 a1 a2 fuel v2 = some o0_0) (fun | (_, v2) => [(1, .int .i64 a1), (2, .int .i64 a2), (3, .pointer (some ⟨b1, 0, none⟩)), (7, .int .i64 v2)]) (fun | (_, v2) => [(0, [(b1, .cells #[.slice p0_0 ((a0.l).length) c0_0, .int .i64 a0.h] 29 (0, 0))])]) (fl, 0) eo0_0 ⟨rfl, rfl, rfl, rfl, trivial⟩ ⟨0, [], rfl, rfl, trivial⟩ (by decide) ?_)
  rintro ⟨fuel, v2⟩ H1
  have H1 : s_l4Find_L0 fl a0 a1 a2 fuel v2 = some o0_0 := H1
  rcases fuel with _ | fuel
  ·rw [s_l4Find_L0.eq_1] at H1; cases H1
  rw [s_l4Find_L0.eq_2] at H1
  dsimp only
  refine cw_seq (sr (oM rfl (oA 0 Tryz.underlying29 rfl ts27 rfl (oL 0 ts27 rfl (oD (stp_len Tryz.underlying27 rfl) rfl (oW rfl (nn (cw_cond rfl (fun h3 => ?_) (fun h3 => ?_)))))))))
  ·have H1 := cond_t H1 h3
   obtain ⟨x4, e4, H1⟩ := bS H1
   obtain ⟨x5, e5, H1⟩ := bS H1
   refine cw_skip (kw_nx (cw_seq (cw_block (sr (oA 0 Tryz.underlying29 rfl ts27 rfl (oL 0 ts27 rfl (oM rfl (oD (stp_indexAddr Tryz.underlying27 ts47 (by decide) rfl rfl rfl (Rdb.ro hr0_0) e4) rfl (oD (stp_loadN (us := [_, _, _, _, _, _]) ts47 rfl (Cells.el (Rdb.ro hr0_0) (by decide) e4 0 6 rfl)) rfl (oM rfl (oM rfl (oE (stpU_call (fun i => 1 + i) cf126 (fun w hw => c_s_l4Fits fl w x4 a1 a2 x5 e5) (yC rfl rfl rfl)) rfl ?_))))))))))))
   rintro _ _ ⟨_, ⟨rfl, rfl⟩, rfl⟩
   refine nn (cw_cond rfl (fun h6 => ?_) (fun h6 => ?_))
   ·have H1 := cond_t H1 h6
    refine sr (oM rfl (oS rfl (nn (cw_ret (kw_bl_ret (kw_nx_ret (kw_lq_ret (kw_bl_ret (kw_join_ret (kw_nx_ret ?_))))))))))
    obtain rfl := sI H1
    obtain rfl := sI H0
    exact kr Tryz.results118 (rT rfl) [] ⟨rfl, rfl⟩
   have H1 := cond_f H1 h6
   obtain ⟨x7, e7, H1⟩ := bS H1
   exact cw_skip (kw_bl_normal (kw_nx (cw_region (oM rfl (oP e7 rfl (oS rfl (ow_nil (kw_lqS (js := [0]) (fuel, x7) H1 (Nat.lt_succ_self _) ⟨rfl, rfl, rfl, rfl, trivial⟩ ⟨0, [], rfl, rfl, trivial⟩ (by decide)))))))))
  have H1 := cond_f H1 h3
  refine cw_exit (kw_nx_exit (kw_lq_exit (kw_bl ?_)))
  obtain rfl := sI H1
  exact kw_joinS (js := [0]) v2 rfl ⟨rfl, rfl, rfl, rfl, trivial⟩ ⟨0, [], rfl, rfl, trivial⟩ (by decide)
 rintro v2 rfl
 dsimp only
 refine kw_nx (sr (oS rfl (nn (cw_ret ?_))))
 obtain rfl := sI H0
 exact kr Tryz.results118 (rT rfl) [] ⟨rfl, rfl⟩

theorem c_s_Allows (fl : Nat) (w : World) (a0 : Int) (a1 : Int) (r : Bool) (H0 : s_Allows fl a0 a1 = some r) :
  Ct Tryz.prog 120 [.int .i64 a0, .int .i64 a1] w [] (fun rv h' => rv = .bool r ∧ h' = []) := by
 unfold s_Allows at H0
 refine ct_of_cw Tryz.func120 rfl Tryz.ntmps120 rfl (Sat.refl _ _) ?_
 obtain ⟨x1, e1, H0⟩ := bS H0
 refine sr (oS rfl (nn (sr (oM rfl (oE (stpU_call (fun i => 0 + i) cf100 (fun w hw => c_s_RightsValid fl w a0 x1 e1) (yA rfl)) rfl ?_)))))
 rintro _ _ ⟨_, ⟨rfl, rfl⟩, rfl⟩
 obtain ⟨y2, ey2, H0⟩ := bS H0
 refine oM rfl (ow_cutY 3 10 y2 ?_ ?_)
 ·rcases Bool.eq_false_or_eq_true x1 with hy2 | hy2
  ·have ey2 := cond_t ey2 hy2
   obtain ⟨x3, e3, ey2⟩ := bS ey2
   refine oG rfl hy2 (mv rfl) rfl (ow_eff (.some rfl hy2) (stpU_call (fun i => 0 + i) cf100 (fun w hw => c_s_RightsValid fl w a1 x3 e3) (yA rfl)) rfl ?_)
   rintro _ _ ⟨_, ⟨rfl, rfl⟩, rfl⟩
   refine oD (stp_pick_t rfl hy2 rfl) rfl ?_
   obtain rfl := sI ey2
   exact ow_nil (jy 3 0)
  have ey2 := cond_f ey2 hy2
  refine oO rfl hy2 rfl (oO rfl hy2 rfl (oD (stp_pick_f rfl hy2 rfl) rfl ?_))
  obtain rfl := sI ey2
  exact ow_nil (jy 3 0)
 obtain ⟨y4, ey4, H0⟩ := bS H0
 refine oM rfl (ow_cutY 6 17 y4 ?_ ?_)
 ·rcases Bool.eq_false_or_eq_true y2 with hy4 | hy4
  ·have ey4 := cond_t ey4 hy4
   refine oG rfl hy4 (mv rfl) rfl (oG rfl hy4 (mv rfl) rfl (oG rfl hy4 (stp_and rfl rfl) rfl (oG rfl hy4 (mv rfl) rfl (oG rfl hy4 (stp_eql rfl rfl) rfl (oD (stp_pick_t rfl hy4 rfl) rfl ?_)))))
   obtain rfl := sI ey4
   exact ow_nil (jy 6 0)
  have ey4 := cond_f ey4 hy4
  refine oO rfl hy4 rfl (oO rfl hy4 rfl (oO rfl hy4 rfl (oO rfl hy4 rfl (oO rfl hy4 rfl (oD (stp_pick_f rfl hy4 rfl) rfl ?_)))))
  obtain rfl := sI ey4
  exact ow_nil (jy 6 0)
 refine oS rfl (nn (cw_ret ?_))
 obtain rfl := sI H0
 exact kr Tryz.results120 (rT rfl) [] ⟨rfl, rfl⟩

theorem c_s_l4Victim (fl : Nat) (w : World) (a0 : Ca) (hn0_0 : n0_0 = (a0.l).length) (hr0_0 : RO w (hkeys []) (RdL p0_0 c0_0 a0.l)) (r : Int) (H0 : s_l4Victim fl a0 = some r) :
  Ct Tryz.prog 131 [.agg #[.slice p0_0 n0_0 c0_0, .int .i64 a0.h]] w [] (fun rv h' => rv = .int .i64 r ∧ h' = []) := by
 subst hn0_0
 unfold s_l4Victim at H0
 refine ct_of_cw Tryz.func131 rfl Tryz.ntmps131 rfl (Sat.refl _ _) ?_
 refine sr (oE (stpU_box 0 rfl rfl) rfl ?_)
 rintro _ _ ⟨b1, rfl, rfl⟩
 obtain ⟨o0_0, eo0_0, H0⟩ := bS H0
 refine oS rfl (nn (cw_seq (sr (oS rfl (nn (cw_join (ι := Int) (fun | v2 => o0_0 = .out v2) (fun | v2 => [(1, .pointer (some ⟨b1, 0, none⟩)), (3, .int .i64 v2)]) (fun | v2 => [(0, [(b1, .cells #[.slice p0_0 ((a0.l).length) c0_0, .int .i64 a0.h] 29 (0, 0))])]) ?_ ?_))))))
 ·refine cw_block (cw_loopS (ι := Nat × Int) (js := [0]) (fun x => x.1) (fun | (fuel, v2) => s_l4Victim_L0 fl a0 fuel v2 = some o0_0) (fun | (_, v2) => [(1, .pointer (some ⟨b1, 0, none⟩)), (3, .int .i64 v2)]) (fun | (_, v2) => [(0, [(b1, .cells #[.slice p0_0 ((a0.l).length) c0_0, .int .i64 a0.h] 29 (0, 0))])]) (fl, 0) eo0_0 ⟨rfl, rfl, trivial⟩ ⟨0, [], rfl, rfl, trivial⟩ (by decide) ?_)
  rintro ⟨fuel, v2⟩ H1
  have H1 : s_l4Victim_L0 fl a0 fuel v2 = some o0_0 := H1
  rcases fuel with _ | fuel
  ·rw [s_l4Victim_L0.eq_1] at H1; cases H1
  rw [s_l4Victim_L0.eq_2] at H1
  dsimp only
  refine cw_seq (sr (oM rfl (oA 0 Tryz.underlying29 rfl ts27 rfl (oL 0 ts27 rfl (oD (stp_len Tryz.underlying27 rfl) rfl (oW rfl (nn (cw_cond rfl (fun h3 => ?_) (fun h3 => ?_)))))))))
  ·have H1 := cond_t H1 h3
   obtain ⟨x4, e4, H1⟩ := bS H1
   refine cw_skip (kw_nx (cw_seq (cw_block (sr (oA 0 Tryz.underlying29 rfl ts27 rfl (oL 0 ts27 rfl (oM rfl (oD (stp_indexAddr Tryz.underlying27 ts47 (by decide) rfl rfl rfl (Rdb.ro hr0_0) e4) rfl (oA 0 Tryz.underlying47 rfl ts4 rfl (oD (stp_load1 ts4 rfl (Cells.el (Rdb.ro hr0_0) (by decide) e4 0 1 rfl)) rfl (oK rfl (nn (cw_cond rfl (fun h5 => ?_) (fun h5 => ?_))))))))))))))
   ·have H1 := cond_t H1 h5
    refine sr (oM rfl (oS rfl (nn (cw_ret (kw_bl_ret (kw_nx_ret (kw_lq_ret (kw_bl_ret (kw_join_ret (kw_nx_ret ?_))))))))))
    obtain rfl := sI H1
    obtain rfl := sI H0
    exact kr Tryz.results131 (rT rfl) [] ⟨rfl, rfl⟩
   have H1 := cond_f H1 h5
   obtain ⟨x6, e6, H1⟩ := bS H1
   exact cw_skip (kw_bl_normal (kw_nx (cw_region (oM rfl (oP e6 rfl (oS rfl (ow_nil (kw_lqS (js := [0]) (fuel, x6) H1 (Nat.lt_succ_self _) ⟨rfl, rfl, trivial⟩ ⟨0, [], rfl, rfl, trivial⟩ (by decide)))))))))
  have H1 := cond_f H1 h3
  refine cw_exit (kw_nx_exit (kw_lq_exit (kw_bl ?_)))
  obtain rfl := sI H1
  exact kw_joinS (js := [0]) v2 rfl ⟨rfl, rfl, trivial⟩ ⟨0, [], rfl, rfl, trivial⟩ (by decide)
 rintro v2 rfl
 dsimp only
 obtain ⟨o0_1, eo0_1, H0⟩ := bS H0
 refine kw_nx (sr (oA 1 Tryz.underlying29 rfl ts3 rfl (oL 0 ts3 rfl (oS rfl (nn (cw_seq (cw_join (ι := Int) (fun | v7 => o0_1 = .out v7) (fun | v7 => [(1, .pointer (some ⟨b1, 0, none⟩)), (4, .int .i64 v7)]) (fun | v7 => [(0, [(b1, .cells #[.slice p0_0 ((a0.l).length) c0_0, .int .i64 a0.h] 29 (0, 0))])]) ?_ ?_)))))))
 ·refine cw_block (cw_loopS (ι := Nat × Int) (js := [0]) (fun x => x.1) (fun | (fuel, v7) => s_l4Victim_L1 fl a0 fuel v7 = some o0_1) (fun | (_, v7) => [(1, .pointer (some ⟨b1, 0, none⟩)), (4, .int .i64 v7)]) (fun | (_, v7) => [(0, [(b1, .cells #[.slice p0_0 ((a0.l).length) c0_0, .int .i64 a0.h] 29 (0, 0))])]) (fl, a0.h) eo0_1 ⟨rfl, rfl, trivial⟩ ⟨0, [], rfl, rfl, trivial⟩ (by decide) ?_)
  rintro ⟨fuel, v7⟩ H1
  have H1 : s_l4Victim_L1 fl a0 fuel v7 = some o0_1 := H1
  rcases fuel with _ | fuel
  ·rw [s_l4Victim_L1.eq_1] at H1; cases H1
  rw [s_l4Victim_L1.eq_2] at H1
  dsimp only
  obtain ⟨x8, e8, H1⟩ := bS H1
  refine cw_seq (sr (oA 0 Tryz.underlying29 rfl ts27 rfl (oL 0 ts27 rfl (oM rfl (oD (stp_indexAddr Tryz.underlying27 ts47 (by decide) rfl rfl rfl (Rdb.ro hr0_0) e8) rfl (oA 5 Tryz.underlying47 rfl ts4 rfl (oD (stp_load1 ts4 rfl (Cells.el (Rdb.ro hr0_0) (by decide) e8 5 1 rfl)) rfl (nn (cw_cond rfl (fun h9 => ?_) (fun h9 => ?_))))))))))
  ·have H1 := cond_t H1 h9
   obtain ⟨x10, e10, H1⟩ := bS H1
   obtain ⟨x11, e11, H1⟩ := bS H1
   exact cw_skip (kw_nx (cw_block (cw_region (oM rfl (oP e10 rfl (oA 0 Tryz.underlying29 rfl ts27 rfl (oL 0 ts27 rfl (oD (stp_len Tryz.underlying27 rfl) rfl (oD (stp_rem rfl rfl e11) rfl (oS rfl (ow_nil (kw_bl_normal (kw_lqS (js := [0]) (fuel, x11) H1 (Nat.lt_succ_self _) ⟨rfl, rfl, trivial⟩ ⟨0, [], rfl, rfl, trivial⟩ (by decide))))))))))))))
  have H1 := cond_f H1 h9
  refine cw_exit (kw_nx_exit (kw_lq_exit (kw_bl ?_)))
  obtain rfl := sI H1
  exact kw_joinS (js := [0]) v7 rfl ⟨rfl, rfl, trivial⟩ ⟨0, [], rfl, rfl, trivial⟩ (by decide)
 rintro v7 rfl
 dsimp only
 refine kw_nx (sr (oM rfl (oS rfl (nn (cw_ret ?_)))))
 obtain rfl := sI H0
 exact kr Tryz.results131 (rT rfl) [] ⟨rfl, rfl⟩

theorem c_s_FillLine (fl : Nat) (w : World) (a0 : Ca) (a1 : Ln) (hn0_0 : n0_0 = (a0.l).length) (hr0_0 : RO w (hkeys []) (RdL p0_0 c0_0 a0.l)) (r : Ca × Int × Bool) (H0 : s_FillLine fl a0 a1 = some r) :
  Ct Tryz.prog 127 [.agg #[.slice p0_0 n0_0 c0_0, .int .i64 a0.h], .agg #[.bool a1.va, .int .i64 a1.tg, .int .i64 a1.pg, .int .i64 a1.fr, .int .i64 a1.ri, .bool a1.wi]] w [] (fun rv h' => ∃ (x0 : Option Addr) (y0 z0 : Nat) (C0 : Res), rv = .tuple #[.agg #[.slice x0 y0 z0, .int .i64 r.1.h], .int .i64 r.2.1, .bool r.2.2] ∧ h' = [(0, C0)] ∧ y0 = (r.1.l).length ∧ OwnC 47 x0 z0 r.1.l C0) := by
 subst hn0_0
 unfold s_FillLine at H0
 refine ct_of_cw Tryz.func127 rfl Tryz.ntmps127 rfl (Sat.refl _ _) ?_
 refine sr (oE (stpU_box 0 rfl rfl) rfl ?_)
 rintro _ _ ⟨b1, rfl, rfl⟩
 refine oE (stpU_box 1 rfl rfl) rfl ?_
 rintro _ _ ⟨b2, rfl, rfl⟩
 refine oE (stpU_alloc 2 tz29 rfl) rfl ?_
 rintro _ _ ⟨b3, rfl, rfl⟩
 obtain ⟨x4, e4, H0⟩ := bS H0
 refine oS rfl (oS rfl (nn (cw_seq (sr (oB2 0 ts29 rfl (oE (stpU_call (fun i => 3 + i) cf44 (fun w hw => c_s_CacheValid fl w a0 rfl (RO.pass hr0_0 hw) x4 e4) (yA rfl)) rfl ?_))))))
 rintro _ _ ⟨_, ⟨rfl, rfl⟩, rfl⟩
 obtain ⟨y5, ey5, H0⟩ := bS H0
 refine oK rfl (oM rfl (ow_cutY 4 16 y5 ?_ ?_))
 ·rcases Bool.eq_false_or_eq_true (!x4) with hy5 | hy5
  ·have ey5 := cond_t ey5 hy5
   refine oO rfl hy5 rfl (oO rfl hy5 rfl (oO rfl hy5 rfl (oD (stp_pick_t rfl hy5 rfl) rfl ?_)))
   obtain rfl := sI ey5
   exact ow_nil (jy 4 0)
  have ey5 := cond_f ey5 hy5
  refine oG rfl hy5 (fA 0 Tryz.underlying47 rfl ts4 rfl rfl rfl) rfl (oG rfl hy5 (lB 1 ts4 rfl rfl rfl) rfl (oG rfl hy5 (stp_not rfl) rfl (oD (stp_pick_f rfl hy5 rfl) rfl ?_)))
  obtain rfl := sI ey5
  exact ow_nil (jy 4 0)
 obtain ⟨y6, ey6, H0⟩ := bS H0
 refine oM rfl (ow_cutY 4 21 y6 ?_ ?_)
 ·rcases Bool.eq_false_or_eq_true y5 with hy6 | hy6
  ·have ey6 := cond_t ey6 hy6
   refine oO rfl hy6 rfl (oO rfl hy6 rfl (oO rfl hy6 rfl (oD (stp_pick_t rfl hy6 rfl) rfl ?_)))
   obtain rfl := sI ey6
   exact ow_nil (jy 4 0)
  have ey6 := cond_f ey6 hy6
  obtain ⟨x7, e7, ey6⟩ := bS ey6
  refine oG rfl hy6 (stp_loadN (us := [_, _, _, _, _, _]) ts47 rfl (Cells.box (id := 1) rfl 6 rfl)) rfl (ow_eff (.some rfl hy6) (stpU_call (fun i => 3 + i) cf83 (fun w hw => c_s_l4Line fl w a1 x7 e7) (yA rfl)) rfl ?_)
  rintro _ _ ⟨_, ⟨rfl, rfl⟩, rfl⟩
  refine oG rfl hy6 (stp_not rfl) rfl (oD (stp_pick_f rfl hy6 rfl) rfl ?_)
  obtain rfl := sI ey6
  exact ow_nil (jy 4 0)
 refine ow_nil (kw_nx (cw_cond rfl (fun h8 => ?_) (fun h8 => ?_)))
 ·have H0 := cond_t H0 h8
  refine sr (oD (stp_build (cs := #[.slice none 0 0, .int .i64 0]) sevp_nil bt29_2) rfl (oC2 2 ts29 rfl rfl (oS rfl (oS rfl (nn (cw_ret (kw_nx_ret (kw_addNil 3 ?_))))))))
  obtain rfl := sI H0
  exact kr Tryz.results127 (.cons (.cellN (us := [_, _]) ts29 rfl (Cells.box (id := 2) rfl 2 rfl)) (.cons (.tmp rfl) (rT rfl))) [3] ⟨_, _, _, _, rfl, rfl, rfl, (OwnC.nil _ _)⟩
 have H0 := cond_f H0 h8
 obtain ⟨x9, e9, H0⟩ := bS H0
 refine cw_skip (kw_nx (sr (oB2 0 ts29 rfl (oE (stpU_call (fun i => 4 + i) cf131 (fun w hw => c_s_l4Victim fl w a0 rfl (RO.pass hr0_0 hw) x9 e9) (yA rfl)) rfl ?_))))
 rintro _ _ ⟨_, ⟨rfl, rfl⟩, rfl⟩
 obtain ⟨x10, e10, H0⟩ := bS H0
 refine oS rfl (nn (sr (oB2 0 ts29 rfl (oE (stpU_call (fun i => 4 + i) cf67 (fun w hw => c_s_l4Copy fl w a0 rfl (RO.pass hr0_0 hw) x10 e10) (yA rfl)) rfl ?_))))
 rintro _ _ ⟨_, ⟨p11, _, c13, C14, rfl, rfl, rfl, o14⟩, rfl⟩
 refine oE (stpU_alloc 5 tz29 rfl) rfl ?_
 rintro _ _ ⟨b15, rfl, rfl⟩
 obtain ⟨x16, e16, H0⟩ := bS H0
 refine oC2 5 ts29 rfl rfl (nn (cw_seq (sr (oA 0 Tryz.underlying29 rfl ts27 rfl (oL 0 ts27 rfl (oM rfl (oD (stp_indexAddr Tryz.underlying27 ts47 (by decide) rfl rfl rfl (Rdb.ro hr0_0) e16) rfl (oA 0 Tryz.underlying47 rfl ts4 rfl (oD (stp_load1 ts4 rfl (Cells.el (Rdb.ro hr0_0) (by decide) e16 0 1 rfl)) rfl (nn (cw_cond rfl (fun h17 => ?_) (fun h17 => ?_))))))))))))
 ·have H0 := cond_t H0 h17
  obtain ⟨x18, e18, H0⟩ := bS H0
  obtain ⟨x19, e19, H0⟩ := bS H0
  refine cw_region (oM rfl (oP e18 rfl (oA 0 Tryz.underlying29 rfl ts27 rfl (oL 0 ts27 rfl (oD (stp_len Tryz.underlying27 rfl) rfl (oD (stp_rem rfl rfl e19) rfl (oA 1 Tryz.underlying29 rfl ts3 rfl (oC2 5 ts3 rfl rfl (nn (sr (oA 0 Tryz.underlying29 rfl ts27 rfl (oL 5 ts27 rfl (oM rfl ?_)))))))))))))
  obtain ⟨x20, e20, H0⟩ := bS H0
  refine oB6 1 ts47 rfl (oD (stp_indexAddr Tryz.underlying27 ts47 (by decide) rfl rfl rfl (Rdb.own (id := 4) rfl o14) e20) rfl (oF (stpU_storeEl (id := 4) (i := 0) a1 (by decide) ts47 rfl rfl rfl o14 e20 rfl rfl rfl rfl) ?_))
  rintro _ _ ⟨C21, rfl, o21⟩
  obtain ⟨x22, e22, H0⟩ := bS H0
  refine nn (cw_seq (sr (oB2 5 ts29 rfl (oE (stpU_call (fun i => 6 + i) cf44 (fun w hw => c_s_CacheValid fl w (⟨(x10.l.set (Int.toNat x9) a1), x19⟩ : Ca) (by simp) (OwnC.pass (id := 4) rfl o21 hw) x22 e22) (yA rfl)) rfl ?_))))
  rintro _ _ ⟨_, ⟨rfl, rfl⟩, rfl⟩
  obtain ⟨y23, ey23, H0⟩ := bS H0
  refine oK rfl (oM rfl (ow_cutY 8 56 y23 ?_ ?_))
  ·rcases Bool.eq_false_or_eq_true (!x22) with hy23 | hy23
   ·have ey23 := cond_t ey23 hy23
    refine oO rfl hy23 rfl (oO rfl hy23 rfl (oO rfl hy23 rfl (oO rfl hy23 rfl (oO rfl hy23 rfl (oO rfl hy23 rfl (oO rfl hy23 rfl (oD (stp_pick_t rfl hy23 rfl) rfl ?_)))))))
    obtain rfl := sI ey23
    exact ow_nil (jy 8 0)
   have ey23 := cond_f ey23 hy23
   obtain ⟨x24, e24, ey23⟩ := bS ey23
   refine oG rfl hy23 (stp_loadN (us := [_, _]) ts29 rfl (Cells.box (id := 0) rfl 2 rfl)) rfl (oG rfl hy23 (fA 1 Tryz.underlying47 rfl ts3 rfl rfl rfl) rfl (oG rfl hy23 (lB 1 ts3 rfl rfl rfl) rfl (oG rfl hy23 (fA 2 Tryz.underlying47 rfl ts3 rfl rfl rfl) rfl (oG rfl hy23 (lB 1 ts3 rfl rfl rfl) rfl (ow_eff (.some rfl hy23) (stpU_call (fun i => 6 + i) cf118 (fun w hw => c_s_l4Find fl w a0 a1.tg a1.pg rfl (RO.pass hr0_0 hw) x24 e24) (yC rfl rfl rfl)) rfl ?_)))))
   rintro _ _ ⟨_, ⟨rfl, rfl⟩, rfl⟩
   refine oG rfl hy23 (stp_geq rfl rfl) rfl (oD (stp_pick_f rfl hy23 rfl) rfl ?_)
   obtain rfl := sI ey23
   exact ow_nil (jy 8 0)
  refine ow_nil (kw_nx (cw_cond rfl (fun h25 => ?_) (fun h25 => ?_)))
  ·have H0 := cond_t H0 h25
   refine sr (oD (stp_build (cs := #[.slice none 0 0, .int .i64 0]) sevp_nil bt29_2) rfl (oC2 2 ts29 rfl rfl (oS rfl (oS rfl (nn (cw_ret (kw_nx_ret (kw_addNil 6 ?_))))))))
   obtain rfl := sI H0
   exact kr Tryz.results127 (.cons (.cellN (us := [_, _]) ts29 rfl (Cells.box (id := 2) rfl 2 rfl)) (.cons (.tmp rfl) (rT rfl))) [6] ⟨_, _, _, _, rfl, rfl, rfl, (OwnC.nil _ _)⟩
  have H0 := cond_f H0 h25
  refine cw_skip (kw_nx (sr (oB2 5 ts29 rfl (oM rfl (oC2 2 ts29 rfl rfl (oS rfl (oS rfl (nn (cw_ret ?_)))))))))
  obtain rfl := sI H0
  exact kr Tryz.results127 (.cons (.cellN (us := [_, _]) ts29 rfl (Cells.box (id := 2) rfl 2 rfl)) (.cons (.tmp rfl) (rT rfl))) [4] ⟨_, _, _, _, rfl, rfl, (by simp), o21⟩
 have H0 := cond_f H0 h17
 obtain ⟨x26, e26, H0⟩ := bS H0
 refine cw_skip (kw_nx (sr (oA 0 Tryz.underlying29 rfl ts27 rfl (oL 5 ts27 rfl (oM rfl (oB6 1 ts47 rfl (oD (stp_indexAddr Tryz.underlying27 ts47 (by decide) rfl rfl rfl (Rdb.own (id := 4) rfl o14) e26) rfl (oF (stpU_storeEl (id := 4) (i := 0) a1 (by decide) ts47 rfl rfl rfl o14 e26 rfl rfl rfl rfl) ?_))))))))
 rintro _ _ ⟨C27, rfl, o27⟩
 obtain ⟨x28, e28, H0⟩ := bS H0
 refine nn (cw_seq (sr (oB2 5 ts29 rfl (oE (stpU_call (fun i => 7 + i) cf44 (fun w hw => c_s_CacheValid fl w (⟨(x10.l.set (Int.toNat x9) a1), x10.h⟩ : Ca) (by simp) (OwnC.pass (id := 4) rfl o27 hw) x28 e28) (yA rfl)) rfl ?_))))
 rintro _ _ ⟨_, ⟨rfl, rfl⟩, rfl⟩
 obtain ⟨y29, ey29, H0⟩ := bS H0
 refine oK rfl (oM rfl (ow_cutY 8 56 y29 ?_ ?_))
 ·rcases Bool.eq_false_or_eq_true (!x28) with hy29 | hy29
  ·have ey29 := cond_t ey29 hy29
   refine oO rfl hy29 rfl (oO rfl hy29 rfl (oO rfl hy29 rfl (oO rfl hy29 rfl (oO rfl hy29 rfl (oO rfl hy29 rfl (oO rfl hy29 rfl (oD (stp_pick_t rfl hy29 rfl) rfl ?_)))))))
   obtain rfl := sI ey29
   exact ow_nil (jy 8 0)
  have ey29 := cond_f ey29 hy29
  obtain ⟨x30, e30, ey29⟩ := bS ey29
  refine oG rfl hy29 (stp_loadN (us := [_, _]) ts29 rfl (Cells.box (id := 0) rfl 2 rfl)) rfl (oG rfl hy29 (fA 1 Tryz.underlying47 rfl ts3 rfl rfl rfl) rfl (oG rfl hy29 (lB 1 ts3 rfl rfl rfl) rfl (oG rfl hy29 (fA 2 Tryz.underlying47 rfl ts3 rfl rfl rfl) rfl (oG rfl hy29 (lB 1 ts3 rfl rfl rfl) rfl (ow_eff (.some rfl hy29) (stpU_call (fun i => 7 + i) cf118 (fun w hw => c_s_l4Find fl w a0 a1.tg a1.pg rfl (RO.pass hr0_0 hw) x30 e30) (yC rfl rfl rfl)) rfl ?_)))))
  rintro _ _ ⟨_, ⟨rfl, rfl⟩, rfl⟩
  refine oG rfl hy29 (stp_geq rfl rfl) rfl (oD (stp_pick_f rfl hy29 rfl) rfl ?_)
  obtain rfl := sI ey29
  exact ow_nil (jy 8 0)
 refine ow_nil (kw_nx (cw_cond rfl (fun h31 => ?_) (fun h31 => ?_)))
 ·have H0 := cond_t H0 h31
  refine sr (oD (stp_build (cs := #[.slice none 0 0, .int .i64 0]) sevp_nil bt29_2) rfl (oC2 2 ts29 rfl rfl (oS rfl (oS rfl (nn (cw_ret (kw_nx_ret (kw_addNil 7 ?_))))))))
  obtain rfl := sI H0
  exact kr Tryz.results127 (.cons (.cellN (us := [_, _]) ts29 rfl (Cells.box (id := 2) rfl 2 rfl)) (.cons (.tmp rfl) (rT rfl))) [7] ⟨_, _, _, _, rfl, rfl, rfl, (OwnC.nil _ _)⟩
 have H0 := cond_f H0 h31
 refine cw_skip (kw_nx (sr (oB2 5 ts29 rfl (oM rfl (oC2 2 ts29 rfl rfl (oS rfl (oS rfl (nn (cw_ret ?_)))))))))
 obtain rfl := sI H0
 exact kr Tryz.results127 (.cons (.cellN (us := [_, _]) ts29 rfl (Cells.box (id := 2) rfl 2 rfl)) (.cons (.tmp rfl) (rT rfl))) [4] ⟨_, _, _, _, rfl, rfl, (by simp), o27⟩

theorem c_s_l6Fill (fl : Nat) (w : World) (a0 : Mc) (a1 : Int) (a2 : Int) (a3 : Int) (hn0_0 : n0_0 = (a0.t.b).length) (hr0_0 : RO w (hkeys []) (RdL p0_0 c0_0 a0.t.b)) (hn0_1 : n0_1 = (a0.t.f).length) (hr0_1 : RO w (hkeys []) (RdL p0_1 c0_1 a0.t.f)) (hn0_2 : n0_2 = (a0.c.l).length) (hr0_2 : RO w (hkeys []) (RdL p0_2 c0_2 a0.c.l)) (hn0_3 : n0_3 = (a0.g.o).length) (hr0_3 : RO w (hkeys []) (RdL p0_3 c0_3 a0.g.o)) (r : Mc × Int) (H0 : s_l6Fill fl a0 a1 a2 a3 = some r) :
  Ct Tryz.prog 119 [.agg #[.slice p0_0 n0_0 c0_0, .slice p0_1 n0_1 c0_1, .slice p0_2 n0_2 c0_2, .int .i64 a0.c.h, .int .i64 a0.g.c, .int .i64 a0.g.n, .int .i64 a0.g.r, .slice p0_3 n0_3 c0_3, .int .i64 a0.s], .int .i64 a1, .int .i64 a2, .int .i64 a3] w [] (fun rv h' => ∃ (x0 : Option Addr) (y0 z0 : Nat) (C0 : Res) (x1 : Option Addr) (y1 z1 : Nat) (C1 : Res) (x2 : Option Addr) (y2 z2 : Nat) (C2 : Res) (x3 : Option Addr) (y3 z3 : Nat) (C3 : Res), rv = .tuple #[.agg #[.slice x0 y0 z0, .slice x1 y1 z1, .slice x2 y2 z2, .int .i64 r.1.c.h, .int .i64 r.1.g.c, .int .i64 r.1.g.n, .int .i64 r.1.g.r, .slice x3 y3 z3, .int .i64 r.1.s], .int .i64 r.2] ∧ h' = [(0, C0), (1, C1), (2, C2), (3, C3)] ∧ y0 = (r.1.t.b).length ∧ OwnC 3 x0 z0 r.1.t.b C0 ∧ y1 = (r.1.t.f).length ∧ OwnC 51 x1 z1 r.1.t.f C1 ∧ y2 = (r.1.c.l).length ∧ OwnC 47 x2 z2 r.1.c.l C2 ∧ y3 = (r.1.g.o).length ∧ OwnC 89 x3 z3 r.1.g.o C3) := by
 subst hn0_0 hn0_1 hn0_2 hn0_3
 unfold s_l6Fill at H0
 refine ct_of_cw Tryz.func119 rfl Tryz.ntmps119 rfl (Sat.refl _ _) ?_
 refine sr (oE (stpU_box 0 rfl rfl) rfl ?_)
 rintro _ _ ⟨b1, rfl, rfl⟩
 refine oE (stpU_alloc 1 tz34 rfl) rfl ?_
 rintro _ _ ⟨b2, rfl, rfl⟩
 obtain ⟨x3, e3, H0⟩ := bS H0
 refine oS rfl (nn (sr (oB9 0 ts34 rfl (oE (stpU_call (fun i => 2 + i) cf35 (fun w hw => c_s_l6Copy fl w a0 rfl (RO.pass hr0_0 hw) rfl (RO.pass hr0_1 hw) rfl (RO.pass hr0_2 hw) rfl (RO.pass hr0_3 hw) x3 e3) (yA rfl)) rfl ?_))))
 rintro _ _ ⟨_, ⟨p4, _, c6, C7, p8, _, c10, C11, p12, _, c14, C15, p16, _, c18, C19, rfl, rfl, rfl, o7, rfl, o11, rfl, o15, rfl, o19⟩, rfl⟩
 refine oE (stpU_alloc 6 tz34 rfl) rfl ?_
 rintro _ _ ⟨b20, rfl, rfl⟩
 obtain ⟨x21, e21, H0⟩ := bS H0
 refine oC9 6 ts34 rfl rfl (nn (sr (oM rfl (oM rfl (oM rfl (oA 0 Tryz.underlying34 rfl ts26 rfl (oA 1 Tryz.underlying26 rfl ts24 rfl (oL 0 ts24 rfl (oM rfl (oD (stp_indexAddr Tryz.underlying24 ts51 (by decide) rfl rfl rfl (Rdb.ro hr0_1) e21) rfl (oA 3 Tryz.underlying51 rfl ts3 rfl (oD (stp_load1 ts3 rfl (Cells.el (Rdb.ro hr0_1) (by decide) e21 3 1 rfl)) rfl (oD (stp_build (cs := #[.bool true, .int .i64 a3, .int .i64 a1, .int .i64 a2, .int .i64 x21.r, .bool false]) (sevp_cons rfl (sevp_cons rfl (sevp_cons rfl (sevp_cons rfl (sevp_cons rfl sevp_nil))))) bt47_18) rfl ?_)))))))))))))
 refine oE (stpU_alloc 7 tz47 rfl) rfl ?_
 rintro _ _ ⟨b22, rfl, rfl⟩
 obtain ⟨x23, e23, H0⟩ := bS H0
 refine oC6 7 ts47 rfl rfl (nn (sr (oA 2 Tryz.underlying34 rfl ts29 rfl (oB2 0 ts29 rfl (oB6 7 ts47 rfl (oE (stpU_call (fun i => 8 + i) cf127 (fun w hw => c_s_FillLine fl w a0.c (⟨true, a3, a1, a2, x21.r, false⟩ : Ln) rfl (RO.pass hr0_2 hw) x23 e23) (yB rfl rfl)) rfl ?_))))))
 rintro _ _ ⟨_, ⟨p24, _, c26, C27, rfl, rfl, rfl, o27⟩, rfl⟩
 refine oM rfl (oT rfl (oT rfl (oT rfl (oE (stpU_alloc 9 tz29 rfl) rfl ?_))))
 rintro _ _ ⟨b28, rfl, rfl⟩
 refine oC2 9 ts29 rfl rfl (oS rfl (oS rfl (nn (sr (oB2 9 ts29 rfl (oA 2 Tryz.underlying34 rfl ts29 rfl (oC9 6 ts29 rfl rfl (nn (sr (oB9 6 ts34 rfl (oM rfl (oC9 1 ts34 rfl rfl (oS rfl ?_)))))))))))))
 refine nn (cw_ret ?_)
 obtain rfl := sI H0
 exact kr Tryz.results119 (.cons (.cellN (us := [_, _, _, _, _, _, _, _, _]) ts34 rfl (Cells.box (id := 1) rfl 9 rfl)) (rT rfl)) [2, 3, 8, 5] ⟨_, _, _, _, _, _, _, _, _, _, _, _, _, _, _, _, rfl, rfl, rfl, o7, rfl, o11, rfl, o27, rfl, o19⟩
end Go.Proofs.YtkccmjfhmkjnlaaGreatDoor
