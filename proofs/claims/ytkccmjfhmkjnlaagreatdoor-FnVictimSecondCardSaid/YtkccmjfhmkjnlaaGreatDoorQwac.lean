/- The walks: functions of the program return what their pure functions say. Printed by a program (gen.py). -/
import Derived.Test.YtkccmjfhmkjnlaaGreatDoorQp
import Derived.Test.YtkccmjfhmkjnlaaGreatDoorQt
import Derived.Test.YtkccmjfhmkjnlaaGreatDoorMan
import Derived.Test.YtkccmjfhmkjnlaaGreatDoorMap
import Derived.Test.YtkccmjfhmkjnlaaGreatDoorCpy
import Derived.Test.YtkccmjfhmkjnlaaGreatDoorQe
import Derived.Test.YtkccmjfhmkjnlaaGreatDoorQwaa
import Derived.Test.YtkccmjfhmkjnlaaGreatDoorQwab
import Derived.Test.YtkccmjfhmkjnlaaGreatDoorQws
set_option linter.unusedSimpArgs false
set_option linter.unusedVariables false
set_option linter.unusedSectionVars false
namespace Go.Proofs.YtkccmjfhmkjnlaaGreatDoor
open Go.RowKit
set_option maxHeartbeats 4000000
set_option maxRecDepth 20000
variable {p0_0 p0_0_0 p0_1 p0_2 p0_3 p0_4 p1_0 p1_1 p1_2 p1_3 p1_4 : Option Addr} {n0_0 n0_0_0 n0_1 n0_2 n0_3 n0_4 n1_0 n1_1 n1_2 n1_3 n1_4 : Nat} {c0_0 c0_0_0 c0_1 c0_2 c0_3 c0_4 c1_0 c1_1 c1_2 c1_3 c1_4 : Nat}
theorem c_s_l3Wrong (fl : Nat) (w : World) (m0 : Nat) (a0_0 : (List UInt8)) (a0_1 : Int) (a1 : T) (hn0_0_0 : n0_0_0 = (a0_0).length) (hr0_0_0 : RO w (hkeys [(0, [(m0, .cells #[.slice p0_0_0 n0_0_0 c0_0_0, .int .i64 a0_1] 91 (0, 0))])]) (RdL p0_0_0 c0_0_0 a0_0)) (hn1_0 : n1_0 = (a1.b).length) (hr1_0 : RO w (hkeys [(0, [(m0, .cells #[.slice p0_0_0 n0_0_0 c0_0_0, .int .i64 a0_1] 91 (0, 0))])]) (RdL p1_0 c1_0 a1.b)) (hn1_1 : n1_1 = (a1.f).length) (hr1_1 : RO w (hkeys [(0, [(m0, .cells #[.slice p0_0_0 n0_0_0 c0_0_0, .int .i64 a0_1] 91 (0, 0))])]) (RdL p1_1 c1_1 a1.f)) (hM : Sat w (hkeys [(0, [(m0, .cells #[.slice p0_0_0 n0_0_0 c0_0_0, .int .i64 a0_1] 91 (0, 0))])]) w [(0, [(m0, .cells #[.slice p0_0_0 n0_0_0 c0_0_0, .int .i64 a0_1] 91 (0, 0))])]) (r : T × Int) (H0 : s_l3Wrong fl a0_0 a0_1 a1 = some r) :
  Ct Tryz.prog 89 [.pointer (some ⟨m0, 0, none⟩), .agg #[.slice p1_0 n1_0 c1_0, .slice p1_1 n1_1 c1_1]] w [(0, [(m0, .cells #[.slice p0_0_0 n0_0_0 c0_0_0, .int .i64 a0_1] 91 (0, 0))])] (fun rv h' => ∃ (x1 : Option Addr) (y1 z1 : Nat) (C1 : Res) (x2 : Option Addr) (y2 z2 : Nat) (C2 : Res), rv = .agg #[.slice x1 y1 z1, .slice x2 y2 z2] ∧ h' = [(0, [(m0, .cells #[.slice p0_0_0 n0_0_0 c0_0_0, .int .i64 r.2] 91 (0, 0))]), (1, C1), (2, C2)] ∧ y1 = (r.1.b).length ∧ OwnC 3 x1 z1 r.1.b C1 ∧ y2 = (r.1.f).length ∧ OwnC 51 x2 z2 r.1.f C2) := by
 subst hn0_0_0 hn1_0 hn1_1
 unfold s_l3Wrong at H0
 refine ct_of_cw Tryz.func89 rfl Tryz.ntmps89 rfl hM ?_
 refine sr (oE (stpU_box 1 rfl rfl) rfl ?_)
 rintro _ _ ⟨b1, rfl, rfl⟩
 refine oE (stpU_alloc 2 tz26 rfl) rfl ?_
 rintro _ _ ⟨b2, rfl, rfl⟩
 obtain ⟨x3, e3, H0⟩ := bS H0
 refine nn (sr (oB2 1 ts26 rfl (oE (stpU_call (fun i => 3 + i) cf66 (fun w hw => c_s_l3Copy fl w a1 rfl (RO.pass hr1_0 hw) rfl (RO.pass hr1_1 hw) x3 e3) (yA rfl)) rfl ?_)))
 rintro _ _ ⟨_, ⟨p4, _, c6, C7, p8, _, c10, C11, rfl, rfl, rfl, o7, rfl, o11⟩, rfl⟩
 refine oE (stpU_alloc 5 tz26 rfl) rfl ?_
 rintro _ _ ⟨b12, rfl, rfl⟩
 refine oC2 5 ts26 rfl rfl (nn (cw_seq (sr (oA 1 Tryz.underlying26 rfl ts24 rfl (oL 5 ts24 rfl (oD (stp_len Tryz.underlying24 rfl) rfl (oQ rfl (nn (cw_cond rfl (fun h13 => ?_) (fun h13 => ?_))))))))))
 ·have H0 := cond_t H0 h13
  refine sr (oB2 5 ts26 rfl (oC2 2 ts26 rfl rfl (nn (cw_ret (kw_nx_ret ?_)))))
  obtain rfl := sI H0
  exact kr Tryz.results89 (rC2 2 ts26 rfl rfl) [0, 3, 4] ⟨_, _, _, _, _, _, _, _, rfl, rfl, rfl, o7, rfl, o11⟩
 have H0 := cond_f H0 h13
 obtain ⟨x14, e14, H0⟩ := bS H0
 refine cw_skip (kw_nx (sr (oM rfl (oA 1 Tryz.underlying26 rfl ts24 rfl (oL 5 ts24 rfl (oD (stp_len Tryz.underlying24 rfl) rfl (oE (stpU_callM (fun i => bif Nat.beq i 0 then 0 else 6 + i) cf54 (fun w hw hb => c_s_l12Rd_pick fl w m0 a0_0 a0_1 ((x3.f).length : Int) rfl (RO.passM hr0_0_0 hw hb) (hw.pass (js := [0]) ⟨0, [], rfl, rfl, trivial⟩ (by decide)) x14 e14) (yB rfl rfl) ⟨rfl, (fun _ _ hp => by obtain ⟨_, rfl⟩ := hp; exact ⟨_, rfl⟩), trivial⟩) rfl ?_)))))))
 rintro _ _ ⟨_, ⟨rfl, rfl⟩, rfl⟩
 obtain ⟨x15, e15, H0⟩ := bS H0
 refine oS rfl (nn (cw_seq (sr (oM rfl (oE (stpU_callM (fun i => bif Nat.beq i 0 then 0 else 7 + i) cf54 (fun w hw hb => c_s_l12Rd_pick fl w m0 a0_0 x14.2 24 rfl (RO.passM hr0_0_0 hw hb) (hw.pass (js := [0]) ⟨0, [], rfl, rfl, trivial⟩ (by decide)) x15 e15) (yB rfl rfl) ⟨rfl, (fun _ _ hp => by obtain ⟨_, rfl⟩ := hp; exact ⟨_, rfl⟩), trivial⟩) rfl ?_)))))
 rintro _ _ ⟨_, ⟨rfl, rfl⟩, rfl⟩
 refine nn (cw_block (sr (oQ rfl (oS rfl (nn (cw_cond rfl (fun h16 => ?_) (fun h16 => ?_)))))))
 ·have H0 := cond_t H0 h16
  refine rdt g_mixed (rn 0 10) ⟨[[],[5],[],[],[],[],[0,8],[4],[],[4]], [[],[],[],[],[],[8],[0],[],[],[4]], [5,9]⟩ (dA 1 rfl Tryz.underlying26 rfl ts24 rfl (dL 5 ts24 rfl (dM rfl (dM rfl (dM rfl (dE rfl (fun hh => stpU_lit (sz := 1) (l := [0, x14.1, 16, (-1)]) [.int .i64 0, .int .i64 x14.1, .int .i64 16, .int .i64 (-1)] sl23 8 (sevp_cons rfl (sevp_cons rfl (sevp_cons rfl (sevp_cons rfl sevp_nil)))) rfl rfl rfl rfl rfl rfl rfl rfl rfl) ?_))))))
  rintro _ _ ⟨p17, C18, rfl, rfl, o18⟩
  obtain ⟨x19, e19, H0⟩ := bS H0
  obtain ⟨x20, e20, H0⟩ := bS H0
  refine dk rfl (dV rfl (fun hh => stpU_callM (fun i => bif Nat.beq i 0 then 0 else 9 + i) cf55 (fun w hw hb => c_s_l12Rd_num fl w m0 a0_0 x15.2 ([0, x14.1, 16, (-1)]) rfl (RO.passM hr0_0_0 hw hb) (by simp) (OwnC.passM (id := 8) (hh _ _ rfl) o18 hw hb ⟨rfl, trivial⟩) (hw.pass (js := [0]) ⟨0, [], rfl, (hh _ _ rfl), trivial⟩ (by decide)) x19 e19) (yB rfl rfl) ⟨(hh _ _ rfl), (fun _ _ hp => by obtain ⟨_, rfl⟩ := hp; exact ⟨_, rfl⟩), trivial⟩) rfl (dD rfl (stp_indexAddr Tryz.underlying24 ts51 (by decide) rfl rfl rfl (Rdb.own (id := 4) rfl o11) e20) (dA 4 rfl Tryz.underlying51 rfl ts3 rfl (dF rfl (fun hh => stpU_storeEl (id := 4) (i := 4) (⟨x20.u, x20.k, x20.r, x19.1⟩ : F) (by decide) ts3 rfl rfl (hh _ _ rfl) o11 e20 rfl rfl rfl rfl) ?_))))
  rintro _ _ ⟨C21, rfl, o21⟩
  refine dk rfl (dn (kw_bl_normal (kw_nx (sr (oB2 5 ts26 rfl (oC2 2 ts26 rfl rfl (nn (cw_ret ?_))))))))
  obtain rfl := sI H0
  exact kr Tryz.results89 (rC2 2 ts26 rfl rfl) [0, 3, 4] ⟨_, _, _, _, _, _, _, _, rfl, rfl, rfl, o7, (by simp), o21⟩
 have H0 := cond_f H0 h16
 refine sr (oQ rfl (oS rfl (nn (cw_cond rfl (fun h22 => ?_) (fun h22 => ?_)))))
 ·have H0 := cond_t H0 h22
  obtain ⟨x23, e23, H0⟩ := bS H0
  refine rdt g_mixed (rn 0 13) ⟨[[],[5],[],[],[5],[],[4],[],[4],[],[4],[],[4]], [[],[],[],[],[],[],[],[],[],[],[],[],[4]], [12]⟩ (dA 1 rfl Tryz.underlying26 rfl ts24 rfl (dL 5 ts24 rfl (dM rfl (dA 1 rfl Tryz.underlying26 rfl ts24 rfl (dL 5 ts24 rfl (dM rfl (dD rfl (stp_indexAddr Tryz.underlying24 ts51 (by decide) rfl rfl rfl (Rdb.own (id := 4) rfl o11) e23) (dA 0 rfl Tryz.underlying51 rfl ts4 rfl (dD rfl (stp_load1 ts4 rfl (Cells.el (Rdb.own (id := 4) rfl o11) (by decide) e23 0 1 rfl)) (dK rfl (dD rfl (stp_indexAddr Tryz.underlying24 ts51 (by decide) rfl rfl rfl (Rdb.own (id := 4) rfl o11) e23) (dA 0 rfl Tryz.underlying51 rfl ts4 rfl (dF rfl (fun hh => stpU_storeEl (id := 4) (i := 0) (⟨(!x23.u), x23.k, x23.r, x23.nx⟩ : F) (by decide) ts4 rfl rfl (hh _ _ rfl) o11 e23 rfl rfl rfl rfl) ?_)))))))))))))
  rintro _ _ ⟨C24, rfl, o24⟩
  refine dk rfl (dn (kw_bl_normal (kw_nx (sr (oB2 5 ts26 rfl (oC2 2 ts26 rfl rfl (nn (cw_ret ?_))))))))
  obtain rfl := sI H0
  exact kr Tryz.results89 (rC2 2 ts26 rfl rfl) [0, 3, 4] ⟨_, _, _, _, _, _, _, _, rfl, rfl, rfl, o7, (by simp), o24⟩
 have H0 := cond_f H0 h22
 refine sr (oQ rfl (oS rfl (nn (cw_cond rfl (fun h25 => ?_) (fun h25 => ?_)))))
 ·have H0 := cond_t H0 h25
  refine rdt g_mixed (rn 0 7) ⟨[[],[5],[],[],[0,10],[3],[3]], [[],[],[],[10],[0],[],[3]], [3,6]⟩ (dA 0 rfl Tryz.underlying26 rfl ts23 rfl (dL 5 ts23 rfl (dM rfl (dE rfl (fun hh => stpU_lit (sz := 1) (l := [0, (-1), 16, (-2)]) [.int .i64 0, .int .i64 (-1), .int .i64 16, .int .i64 (-2)] sl23 10 (sevp_cons rfl (sevp_cons rfl (sevp_cons rfl (sevp_cons rfl sevp_nil)))) rfl rfl rfl rfl rfl rfl rfl rfl rfl) ?_))))
  rintro _ _ ⟨p26, C27, rfl, rfl, o27⟩
  obtain ⟨x28, e28, H0⟩ := bS H0
  obtain ⟨x29, e29, H0⟩ := bS H0
  refine dk rfl (dV rfl (fun hh => stpU_callM (fun i => bif Nat.beq i 0 then 0 else 11 + i) cf55 (fun w hw hb => c_s_l12Rd_num fl w m0 a0_0 x15.2 ([0, (-1), 16, (-2)]) rfl (RO.passM hr0_0_0 hw hb) (by simp) (OwnC.passM (id := 10) (hh _ _ rfl) o27 hw hb ⟨rfl, trivial⟩) (hw.pass (js := [0]) ⟨0, [], rfl, (hh _ _ rfl), trivial⟩ (by decide)) x28 e28) (yB rfl rfl) ⟨(hh _ _ rfl), (fun _ _ hp => by obtain ⟨_, rfl⟩ := hp; exact ⟨_, rfl⟩), trivial⟩) rfl (dD rfl (stp_indexAddr Tryz.underlying23 ts3 (by decide) rfl rfl rfl (Rdb.own (id := 3) rfl o7) e29) (dF rfl (fun hh => stpU_storeEl (id := 3) (i := 0) x28.1 (by decide) ts3 rfl rfl (hh _ _ rfl) o7 e29 rfl rfl rfl rfl) ?_)))
  rintro _ _ ⟨C30, rfl, o30⟩
  refine dk rfl (dn (kw_bl_normal (kw_nx (sr (oB2 5 ts26 rfl (oC2 2 ts26 rfl rfl (nn (cw_ret ?_))))))))
  obtain rfl := sI H0
  exact kr Tryz.results89 (rC2 2 ts26 rfl rfl) [0, 3, 4] ⟨_, _, _, _, _, _, _, _, rfl, rfl, (by simp), o30, rfl, o11⟩
 have H0 := cond_f H0 h25
 refine sr (oQ rfl (oS rfl (nn (cw_cond rfl (fun h31 => ?_) (fun h31 => ?_)))))
 ·have H0 := cond_t H0 h31
  obtain ⟨x32, e32, H0⟩ := bS H0
  obtain ⟨x33, e33, H0⟩ := bS H0
  refine rdt g_mixed (rn 0 8) ⟨[[],[5],[],[],[0],[4],[],[4]], [[],[],[],[],[0],[],[],[4]], [7]⟩ (dA 1 rfl Tryz.underlying26 rfl ts24 rfl (dL 5 ts24 rfl (dM rfl (dM rfl (dV rfl (fun hh => stpU_callM (fun i => bif Nat.beq i 0 then 0 else 12 + i) cf102 (fun w hw hb => c_s_l2Draw fl w m0 a0_0 x15.2 rfl (RO.passM hr0_0_0 hw hb) (hw.pass (js := [0]) ⟨0, [], rfl, (hh _ _ rfl), trivial⟩ (by decide)) x32 e32) (yA rfl) ⟨(hh _ _ rfl), (fun _ _ hp => by obtain ⟨_, rfl⟩ := hp; exact ⟨_, rfl⟩), trivial⟩) rfl (dD rfl (stp_indexAddr Tryz.underlying24 ts51 (by decide) rfl rfl rfl (Rdb.own (id := 4) rfl o11) e33) (dA 1 rfl Tryz.underlying51 rfl ts49 rfl (dF rfl (fun hh => stpU_storeEl (id := 4) (i := 1) (⟨x33.u, x32.1, x33.r, x33.nx⟩ : F) (by decide) ts49 rfl rfl (hh _ _ rfl) o11 e33 rfl rfl rfl rfl) ?_))))))))
  rintro _ _ ⟨C34, rfl, o34⟩
  refine dk rfl (dn (kw_bl_normal (kw_nx (sr (oB2 5 ts26 rfl (oC2 2 ts26 rfl rfl (nn (cw_ret ?_))))))))
  obtain rfl := sI H0
  exact kr Tryz.results89 (rC2 2 ts26 rfl rfl) [0, 3, 4] ⟨_, _, _, _, _, _, _, _, rfl, rfl, rfl, o7, (by simp), o34⟩
 have H0 := cond_f H0 h31
 refine sr (oQ rfl (oS rfl (nn (cw_cond rfl (fun h35 => ?_) (fun h35 => ?_)))))
 ·have H0 := cond_t H0 h35
  refine cw_region (oA 0 Tryz.underlying26 rfl ts23 rfl (oL 5 ts23 rfl (oE (stpU_lit (sz := 1) (l := [(-1)]) [.int .i64 (-1)] sl23 13 (sevp_cons rfl sevp_nil) rfl rfl rfl rfl rfl rfl rfl rfl rfl) rfl ?_)))
  rintro _ _ ⟨p36, C37, rfl, rfl, o37⟩
  obtain ⟨x38, e38, H0⟩ := bS H0
  refine oE (stpU_append sl23 rfl (id := 3) rfl rfl rfl (by simp) rfl o7 (Rdb.own (id := 13) rfl o37) e38) rfl ?_
  rintro _ _ ⟨p39, c40, C41, rfl, rfl, o41⟩
  refine oA 0 Tryz.underlying26 rfl ts23 rfl (oC2 5 ts23 rfl rfl (ow_nil (kw_bl_normal (kw_nx (sr (oB2 5 ts26 rfl (oC2 2 ts26 rfl rfl (nn (cw_ret ?_)))))))))
  obtain rfl := sI H0
  exact kr Tryz.results89 (rC2 2 ts26 rfl rfl) [0, 3, 4] ⟨_, _, _, _, _, _, _, _, rfl, rfl, rfl, o41, rfl, o11⟩
 have H0 := cond_f H0 h35
 refine sr (oQ rfl (oS rfl (nn (cw_cond rfl (fun h42 => ?_) (fun h42 => ?_)))))
 ·have H0 := cond_t H0 h42
  refine cw_region (oE (stpU_lit0 sl24 14) rfl ?_)
  rintro _ _ ⟨p43, C44, rfl, rfl, o44⟩
  refine oA 1 Tryz.underlying26 rfl ts24 rfl (oC2 5 ts24 rfl rfl (ow_nil (kw_bl_normal (kw_nx (sr (oB2 5 ts26 rfl (oC2 2 ts26 rfl rfl (nn (cw_ret ?_)))))))))
  obtain rfl := sI H0
  exact kr Tryz.results89 (rC2 2 ts26 rfl rfl) [0, 3, 14] ⟨_, _, _, _, _, _, _, _, rfl, rfl, rfl, o7, (by simp), o44⟩
 have H0 := cond_f H0 h42
 refine cw_skip (kw_bl_normal (kw_nx (sr (oB2 5 ts26 rfl (oC2 2 ts26 rfl rfl (nn (cw_ret ?_)))))))
 obtain rfl := sI H0
 exact kr Tryz.results89 (rC2 2 ts26 rfl rfl) [0, 3, 4] ⟨_, _, _, _, _, _, _, _, rfl, rfl, rfl, o7, rfl, o11⟩

theorem c_s_l5Wrong (fl : Nat) (w : World) (m0 : Nat) (a0_0 : (List UInt8)) (a0_1 : Int) (a1 : Tg) (hn0_0_0 : n0_0_0 = (a0_0).length) (hr0_0_0 : RO w (hkeys [(0, [(m0, .cells #[.slice p0_0_0 n0_0_0 c0_0_0, .int .i64 a0_1] 91 (0, 0))])]) (RdL p0_0_0 c0_0_0 a0_0)) (hn1_0 : n1_0 = (a1.o).length) (hr1_0 : RO w (hkeys [(0, [(m0, .cells #[.slice p0_0_0 n0_0_0 c0_0_0, .int .i64 a0_1] 91 (0, 0))])]) (RdL p1_0 c1_0 a1.o)) (hM : Sat w (hkeys [(0, [(m0, .cells #[.slice p0_0_0 n0_0_0 c0_0_0, .int .i64 a0_1] 91 (0, 0))])]) w [(0, [(m0, .cells #[.slice p0_0_0 n0_0_0 c0_0_0, .int .i64 a0_1] 91 (0, 0))])]) (r : Tg × Int) (H0 : s_l5Wrong fl a0_0 a0_1 a1 = some r) :
  Ct Tryz.prog 90 [.pointer (some ⟨m0, 0, none⟩), .agg #[.int .i64 a1.c, .int .i64 a1.n, .int .i64 a1.r, .slice p1_0 n1_0 c1_0]] w [(0, [(m0, .cells #[.slice p0_0_0 n0_0_0 c0_0_0, .int .i64 a0_1] 91 (0, 0))])] (fun rv h' => ∃ (x1 : Option Addr) (y1 z1 : Nat) (C1 : Res), rv = .agg #[.int .i64 r.1.c, .int .i64 r.1.n, .int .i64 r.1.r, .slice x1 y1 z1] ∧ h' = [(0, [(m0, .cells #[.slice p0_0_0 n0_0_0 c0_0_0, .int .i64 r.2] 91 (0, 0))]), (1, C1)] ∧ y1 = (r.1.o).length ∧ OwnC 89 x1 z1 r.1.o C1) := by
 subst hn0_0_0 hn1_0
 unfold s_l5Wrong at H0
 refine ct_of_cw Tryz.func90 rfl Tryz.ntmps90 rfl hM ?_
 refine sr (oE (stpU_box 1 rfl rfl) rfl ?_)
 rintro _ _ ⟨b1, rfl, rfl⟩
 refine oE (stpU_alloc 2 tz32 rfl) rfl ?_
 rintro _ _ ⟨b2, rfl, rfl⟩
 obtain ⟨x3, e3, H0⟩ := bS H0
 refine nn (sr (oB4 1 ts32 rfl (oE (stpU_call (fun i => 3 + i) cf68 (fun w hw => c_s_l5Copy fl w a1 rfl (RO.pass hr1_0 hw) x3 e3) (yA rfl)) rfl ?_)))
 rintro _ _ ⟨_, ⟨p4, _, c6, C7, rfl, rfl, rfl, o7⟩, rfl⟩
 refine oE (stpU_alloc 4 tz32 rfl) rfl ?_
 rintro _ _ ⟨b8, rfl, rfl⟩
 obtain ⟨x9, e9, H0⟩ := bS H0
 refine oC4 4 ts32 rfl rfl (nn (cw_seq (sr (oM rfl (oE (stpU_callM (fun i => bif Nat.beq i 0 then 0 else 5 + i) cf54 (fun w hw hb => c_s_l12Rd_pick fl w m0 a0_0 a0_1 20 rfl (RO.passM hr0_0_0 hw hb) (hw.pass (js := [0]) ⟨0, [], rfl, rfl, trivial⟩ (by decide)) x9 e9) (yB rfl rfl) ⟨rfl, (fun _ _ hp => by obtain ⟨_, rfl⟩ := hp; exact ⟨_, rfl⟩), trivial⟩) rfl ?_)))))
 rintro _ _ ⟨_, ⟨rfl, rfl⟩, rfl⟩
 refine nn (cw_block (sr (oQ rfl (oS rfl (nn (cw_cond rfl (fun h10 => ?_) (fun h10 => ?_)))))))
 ·have H0 := cond_t H0 h10
  refine cw_region (oM rfl (oE (stpU_lit (sz := 1) (l := [(-1), 9, 0]) [.int .i64 (-1), .int .i64 9, .int .i64 0] sl23 6 (sevp_cons rfl (sevp_cons rfl (sevp_cons rfl sevp_nil))) rfl rfl rfl rfl rfl rfl rfl rfl rfl) rfl ?_))
  rintro _ _ ⟨p11, C12, rfl, rfl, o12⟩
  obtain ⟨x13, e13, H0⟩ := bS H0
  refine oE (stpU_callM (fun i => bif Nat.beq i 0 then 0 else 7 + i) cf55 (fun w hw hb => c_s_l12Rd_num fl w m0 a0_0 x9.2 ([(-1), 9, 0]) rfl (RO.passM hr0_0_0 hw hb) (by simp) (OwnC.passM (id := 6) rfl o12 hw hb ⟨rfl, trivial⟩) (hw.pass (js := [0]) ⟨0, [], rfl, rfl, trivial⟩ (by decide)) x13 e13) (yB rfl rfl) ⟨rfl, (fun _ _ hp => by obtain ⟨_, rfl⟩ := hp; exact ⟨_, rfl⟩), trivial⟩) rfl ?_
  rintro _ _ ⟨_, ⟨rfl, rfl⟩, rfl⟩
  refine oA 1 Tryz.underlying32 rfl ts3 rfl (oC4 4 ts3 rfl rfl (ow_nil (kw_bl_normal (kw_nx (sr (oB4 4 ts32 rfl (oC4 2 ts32 rfl rfl (nn (cw_ret ?_)))))))))
  obtain rfl := sI H0
  exact kr Tryz.results90 (rC4 2 ts32 rfl rfl) [0, 3] ⟨_, _, _, _, rfl, rfl, rfl, o7⟩
 have H0 := cond_f H0 h10
 refine sr (oQ rfl (oS rfl (nn (cw_cond rfl (fun h14 => ?_) (fun h14 => ?_)))))
 ·have H0 := cond_t H0 h14
  refine cw_region (oM rfl (oE (stpU_lit (sz := 1) (l := [0, 9, 1]) [.int .i64 0, .int .i64 9, .int .i64 1] sl23 8 (sevp_cons rfl (sevp_cons rfl (sevp_cons rfl sevp_nil))) rfl rfl rfl rfl rfl rfl rfl rfl rfl) rfl ?_))
  rintro _ _ ⟨p15, C16, rfl, rfl, o16⟩
  obtain ⟨x17, e17, H0⟩ := bS H0
  refine oE (stpU_callM (fun i => bif Nat.beq i 0 then 0 else 9 + i) cf55 (fun w hw hb => c_s_l12Rd_num fl w m0 a0_0 x9.2 ([0, 9, 1]) rfl (RO.passM hr0_0_0 hw hb) (by simp) (OwnC.passM (id := 8) rfl o16 hw hb ⟨rfl, trivial⟩) (hw.pass (js := [0]) ⟨0, [], rfl, rfl, trivial⟩ (by decide)) x17 e17) (yB rfl rfl) ⟨rfl, (fun _ _ hp => by obtain ⟨_, rfl⟩ := hp; exact ⟨_, rfl⟩), trivial⟩) rfl ?_
  rintro _ _ ⟨_, ⟨rfl, rfl⟩, rfl⟩
  refine oA 0 Tryz.underlying32 rfl ts3 rfl (oC4 4 ts3 rfl rfl (ow_nil (kw_bl_normal (kw_nx (sr (oB4 4 ts32 rfl (oC4 2 ts32 rfl rfl (nn (cw_ret ?_)))))))))
  obtain rfl := sI H0
  exact kr Tryz.results90 (rC4 2 ts32 rfl rfl) [0, 3] ⟨_, _, _, _, rfl, rfl, rfl, o7⟩
 have H0 := cond_f H0 h14
 refine sr (oQ rfl (oS rfl (nn (cw_cond rfl (fun h18 => ?_) (fun h18 => ?_)))))
 ·have H0 := cond_t H0 h18
  obtain ⟨x19, e19, H0⟩ := bS H0
  obtain ⟨x20, e20, H0⟩ := bS H0
  refine rdt g_mixed (rn 0 11) ⟨[[],[4],[],[0],[],[0],[],[],[3,12],[],[4]], [[],[],[],[0],[],[0],[],[12],[3],[],[4]], [7,8]⟩ (dA 3 rfl Tryz.underlying32 rfl ts30 rfl (dL 4 ts30 rfl (dM rfl (dV rfl (fun hh => stpU_callM (fun i => bif Nat.beq i 0 then 0 else 10 + i) cf54 (fun w hw hb => c_s_l12Rd_pick fl w m0 a0_0 x9.2 3 rfl (RO.passM hr0_0_0 hw hb) (hw.pass (js := [0]) ⟨0, [], rfl, (hh _ _ rfl), trivial⟩ (by decide)) x19 e19) (yB rfl rfl) ⟨(hh _ _ rfl), (fun _ _ hp => by obtain ⟨_, rfl⟩ := hp; exact ⟨_, rfl⟩), trivial⟩) rfl (dM rfl (dV rfl (fun hh => stpU_callM (fun i => bif Nat.beq i 0 then 0 else 11 + i) cf54 (fun w hw hb => c_s_l12Rd_pick fl w m0 a0_0 x19.2 3 rfl (RO.passM hr0_0_0 hw hb) (hw.pass (js := [0]) ⟨0, [], rfl, (hh _ _ rfl), trivial⟩ (by decide)) x20 e20) (yB rfl rfl) ⟨(hh _ _ rfl), (fun _ _ hp => by obtain ⟨_, rfl⟩ := hp; exact ⟨_, rfl⟩), trivial⟩) rfl (dD rfl (stp_build (cs := #[.int .i64 x19.1, .int .i64 x20.1]) (sevp_cons rfl (sevp_cons rfl sevp_nil)) bt89_9) (dE rfl (fun hh => stpU_lit (sz := 2) (l := [(⟨x19.1, x20.1⟩ : Ow)]) [.agg #[.int .i64 x19.1, .int .i64 x20.1]] sl30 12 (sevp_cons rfl sevp_nil) rfl rfl rfl rfl rfl rfl rfl rfl rfl) ?_))))))))
  rintro _ _ ⟨p21, C22, rfl, rfl, o22⟩
  obtain ⟨x23, e23, H0⟩ := bS H0
  refine dk rfl (dE rfl (fun hh => stpU_append sl30 rfl (id := 3) rfl rfl rfl (by simp) (hh _ _ rfl) o7 (Rdb.own (id := 12) (hh _ _ rfl) o22) e23) ?_)
  rintro _ _ ⟨p24, c25, C26, rfl, rfl, o26⟩
  refine dk rfl (dA 3 rfl Tryz.underlying32 rfl ts30 rfl (dC4 4 ts30 rfl rfl rfl (dn (kw_bl_normal (kw_nx (sr (oB4 4 ts32 rfl (oC4 2 ts32 rfl rfl (nn (cw_ret ?_))))))))))
  obtain rfl := sI H0
  exact kr Tryz.results90 (rC4 2 ts32 rfl rfl) [0, 3] ⟨_, _, _, _, rfl, rfl, rfl, o26⟩
 have H0 := cond_f H0 h18
 refine sr (oQ rfl (oS rfl (nn (cw_cond rfl (fun h27 => ?_) (fun h27 => ?_)))))
 ·have H0 := cond_t H0 h27
  refine cw_region (oM rfl (oE (stpU_lit (sz := 1) (l := [(-1), 1000001, 1000000]) [.int .i64 (-1), .int .i64 1000001, .int .i64 1000000] sl23 13 (sevp_cons rfl (sevp_cons rfl (sevp_cons rfl sevp_nil))) rfl rfl rfl rfl rfl rfl rfl rfl rfl) rfl ?_))
  rintro _ _ ⟨p28, C29, rfl, rfl, o29⟩
  obtain ⟨x30, e30, H0⟩ := bS H0
  refine oE (stpU_callM (fun i => bif Nat.beq i 0 then 0 else 14 + i) cf55 (fun w hw hb => c_s_l12Rd_num fl w m0 a0_0 x9.2 ([(-1), 1000001, 1000000]) rfl (RO.passM hr0_0_0 hw hb) (by simp) (OwnC.passM (id := 13) rfl o29 hw hb ⟨rfl, trivial⟩) (hw.pass (js := [0]) ⟨0, [], rfl, rfl, trivial⟩ (by decide)) x30 e30) (yB rfl rfl) ⟨rfl, (fun _ _ hp => by obtain ⟨_, rfl⟩ := hp; exact ⟨_, rfl⟩), trivial⟩) rfl ?_
  rintro _ _ ⟨_, ⟨rfl, rfl⟩, rfl⟩
  refine oA 2 Tryz.underlying32 rfl ts3 rfl (oC4 4 ts3 rfl rfl (ow_nil (kw_bl_normal (kw_nx (sr (oB4 4 ts32 rfl (oC4 2 ts32 rfl rfl (nn (cw_ret ?_)))))))))
  obtain rfl := sI H0
  exact kr Tryz.results90 (rC4 2 ts32 rfl rfl) [0, 3] ⟨_, _, _, _, rfl, rfl, rfl, o7⟩
 have H0 := cond_f H0 h27
 refine cw_skip (kw_bl_normal (kw_nx (sr (oB4 4 ts32 rfl (oC4 2 ts32 rfl rfl (nn (cw_ret ?_)))))))
 obtain rfl := sI H0
 exact kr Tryz.results90 (rC4 2 ts32 rfl rfl) [0, 3] ⟨_, _, _, _, rfl, rfl, rfl, o7⟩

theorem c_s_l6Wrong (fl : Nat) (w : World) (m0 : Nat) (a0_0 : (List UInt8)) (a0_1 : Int) (a1 : Mc) (hn0_0_0 : n0_0_0 = (a0_0).length) (hr0_0_0 : RO w (hkeys [(0, [(m0, .cells #[.slice p0_0_0 n0_0_0 c0_0_0, .int .i64 a0_1] 91 (0, 0))])]) (RdL p0_0_0 c0_0_0 a0_0)) (hn1_0 : n1_0 = (a1.t.b).length) (hr1_0 : RO w (hkeys [(0, [(m0, .cells #[.slice p0_0_0 n0_0_0 c0_0_0, .int .i64 a0_1] 91 (0, 0))])]) (RdL p1_0 c1_0 a1.t.b)) (hn1_1 : n1_1 = (a1.t.f).length) (hr1_1 : RO w (hkeys [(0, [(m0, .cells #[.slice p0_0_0 n0_0_0 c0_0_0, .int .i64 a0_1] 91 (0, 0))])]) (RdL p1_1 c1_1 a1.t.f)) (hn1_2 : n1_2 = (a1.c.l).length) (hr1_2 : RO w (hkeys [(0, [(m0, .cells #[.slice p0_0_0 n0_0_0 c0_0_0, .int .i64 a0_1] 91 (0, 0))])]) (RdL p1_2 c1_2 a1.c.l)) (hn1_3 : n1_3 = (a1.g.o).length) (hr1_3 : RO w (hkeys [(0, [(m0, .cells #[.slice p0_0_0 n0_0_0 c0_0_0, .int .i64 a0_1] 91 (0, 0))])]) (RdL p1_3 c1_3 a1.g.o)) (hM : Sat w (hkeys [(0, [(m0, .cells #[.slice p0_0_0 n0_0_0 c0_0_0, .int .i64 a0_1] 91 (0, 0))])]) w [(0, [(m0, .cells #[.slice p0_0_0 n0_0_0 c0_0_0, .int .i64 a0_1] 91 (0, 0))])]) (r : Mc × Int) (H0 : s_l6Wrong fl a0_0 a0_1 a1 = some r) :
  Ct Tryz.prog 56 [.pointer (some ⟨m0, 0, none⟩), .agg #[.slice p1_0 n1_0 c1_0, .slice p1_1 n1_1 c1_1, .slice p1_2 n1_2 c1_2, .int .i64 a1.c.h, .int .i64 a1.g.c, .int .i64 a1.g.n, .int .i64 a1.g.r, .slice p1_3 n1_3 c1_3, .int .i64 a1.s]] w [(0, [(m0, .cells #[.slice p0_0_0 n0_0_0 c0_0_0, .int .i64 a0_1] 91 (0, 0))])] (fun rv h' => ∃ (x1 : Option Addr) (y1 z1 : Nat) (C1 : Res) (x2 : Option Addr) (y2 z2 : Nat) (C2 : Res) (x3 : Option Addr) (y3 z3 : Nat) (C3 : Res) (x4 : Option Addr) (y4 z4 : Nat) (C4 : Res), rv = .agg #[.slice x1 y1 z1, .slice x2 y2 z2, .slice x3 y3 z3, .int .i64 r.1.c.h, .int .i64 r.1.g.c, .int .i64 r.1.g.n, .int .i64 r.1.g.r, .slice x4 y4 z4, .int .i64 r.1.s] ∧ h' = [(0, [(m0, .cells #[.slice p0_0_0 n0_0_0 c0_0_0, .int .i64 r.2] 91 (0, 0))]), (1, C1), (2, C2), (3, C3), (4, C4)] ∧ y1 = (r.1.t.b).length ∧ OwnC 3 x1 z1 r.1.t.b C1 ∧ y2 = (r.1.t.f).length ∧ OwnC 51 x2 z2 r.1.t.f C2 ∧ y3 = (r.1.c.l).length ∧ OwnC 47 x3 z3 r.1.c.l C3 ∧ y4 = (r.1.g.o).length ∧ OwnC 89 x4 z4 r.1.g.o C4) := by
 subst hn0_0_0 hn1_0 hn1_1 hn1_2 hn1_3
 unfold s_l6Wrong at H0
 refine ct_of_cw Tryz.func56 rfl Tryz.ntmps56 rfl hM ?_
 refine sr (oE (stpU_box 1 rfl rfl) rfl ?_)
 rintro _ _ ⟨b1, rfl, rfl⟩
 refine oE (stpU_alloc 2 tz34 rfl) rfl ?_
 rintro _ _ ⟨b2, rfl, rfl⟩
 obtain ⟨x3, e3, H0⟩ := bS H0
 refine nn (sr (oB9 1 ts34 rfl (oE (stpU_call (fun i => 3 + i) cf35 (fun w hw => c_s_l6Copy fl w a1 rfl (RO.pass hr1_0 hw) rfl (RO.pass hr1_1 hw) rfl (RO.pass hr1_2 hw) rfl (RO.pass hr1_3 hw) x3 e3) (yA rfl)) rfl ?_)))
 rintro _ _ ⟨_, ⟨p4, _, c6, C7, p8, _, c10, C11, p12, _, c14, C15, p16, _, c18, C19, rfl, rfl, rfl, o7, rfl, o11, rfl, o15, rfl, o19⟩, rfl⟩
 refine oE (stpU_alloc 7 tz34 rfl) rfl ?_
 rintro _ _ ⟨b20, rfl, rfl⟩
 obtain ⟨x21, e21, H0⟩ := bS H0
 refine oC9 7 ts34 rfl rfl (nn (cw_seq (sr (oM rfl (oE (stpU_callM (fun i => bif Nat.beq i 0 then 0 else 8 + i) cf54 (fun w hw hb => c_s_l12Rd_pick fl w m0 a0_0 a0_1 24 rfl (RO.passM hr0_0_0 hw hb) (hw.pass (js := [0]) ⟨0, [], rfl, rfl, trivial⟩ (by decide)) x21 e21) (yB rfl rfl) ⟨rfl, (fun _ _ hp => by obtain ⟨_, rfl⟩ := hp; exact ⟨_, rfl⟩), trivial⟩) rfl ?_)))))
 rintro _ _ ⟨_, ⟨rfl, rfl⟩, rfl⟩
 refine nn (cw_block (sr (oQ rfl (oS rfl (nn (cw_cond rfl (fun h22 => ?_) (fun h22 => ?_)))))))
 ·have H0 := cond_t H0 h22
  refine cw_region (oM rfl (oE (stpU_lit (sz := 1) (l := [9, (-1), 1]) [.int .i64 9, .int .i64 (-1), .int .i64 1] sl23 9 (sevp_cons rfl (sevp_cons rfl (sevp_cons rfl sevp_nil))) rfl rfl rfl rfl rfl rfl rfl rfl rfl) rfl ?_))
  rintro _ _ ⟨p23, C24, rfl, rfl, o24⟩
  obtain ⟨x25, e25, H0⟩ := bS H0
  refine oE (stpU_callM (fun i => bif Nat.beq i 0 then 0 else 10 + i) cf55 (fun w hw hb => c_s_l12Rd_num fl w m0 a0_0 x21.2 ([9, (-1), 1]) rfl (RO.passM hr0_0_0 hw hb) (by simp) (OwnC.passM (id := 9) rfl o24 hw hb ⟨rfl, trivial⟩) (hw.pass (js := [0]) ⟨0, [], rfl, rfl, trivial⟩ (by decide)) x25 e25) (yB rfl rfl) ⟨rfl, (fun _ _ hp => by obtain ⟨_, rfl⟩ := hp; exact ⟨_, rfl⟩), trivial⟩) rfl ?_
  rintro _ _ ⟨_, ⟨rfl, rfl⟩, rfl⟩
  refine oA 8 Tryz.underlying34 rfl ts3 rfl (oC9 7 ts3 rfl rfl (ow_nil (kw_bl_normal (kw_nx (sr (oB9 7 ts34 rfl (oC9 2 ts34 rfl rfl (nn (cw_ret ?_)))))))))
  obtain rfl := sI H0
  exact kr Tryz.results56 (rC9 2 ts34 rfl rfl) [0, 3, 4, 5, 6] ⟨_, _, _, _, _, _, _, _, _, _, _, _, _, _, _, _, rfl, rfl, rfl, o7, rfl, o11, rfl, o15, rfl, o19⟩
 have H0 := cond_f H0 h22
 refine sr (oQ rfl (oS rfl (nn (cw_cond rfl (fun h26 => ?_) (fun h26 => ?_)))))
 ·have H0 := cond_t H0 h26
  obtain ⟨x27, e27, H0⟩ := bS H0
  refine cw_region (oM rfl (oM rfl (oA 2 Tryz.underlying34 rfl ts29 rfl (oB2 7 ts29 rfl (oE (stpU_callM (fun i => bif Nat.beq i 0 then 0 else 11 + i) cf88 (fun w hw hb => c_s_l4Wrong fl w m0 a0_0 x21.2 x3.c rfl (RO.passM hr0_0_0 hw hb) rfl (OwnC.passM (id := 5) rfl o15 hw hb ⟨rfl, trivial⟩) (hw.pass (js := [0]) ⟨0, [], rfl, rfl, trivial⟩ (by decide)) x27 e27) (yB rfl rfl) ⟨rfl, (fun _ _ hp => by obtain ⟨_, _, _, _, _, rfl, _⟩ := hp; exact ⟨_, rfl⟩), trivial⟩) rfl ?_)))))
  rintro _ _ ⟨_, ⟨p28, _, c30, C31, rfl, rfl, rfl, o31⟩, rfl⟩
  obtain ⟨x32, e32, H0⟩ := bS H0
  refine oE (stpU_callM (fun i => bif Nat.beq i 0 then 0 else 13 + i) cf88 (fun w hw hb => c_s_l4Wrong fl w m0 a0_0 x27.2 x27.1 rfl (RO.passM hr0_0_0 hw hb) rfl (OwnC.passM (id := 12) rfl o31 hw hb ⟨rfl, trivial⟩) (hw.pass (js := [0]) ⟨0, [], rfl, rfl, trivial⟩ (by decide)) x32 e32) (yB rfl rfl) ⟨rfl, (fun _ _ hp => by obtain ⟨_, _, _, _, _, rfl, _⟩ := hp; exact ⟨_, rfl⟩), trivial⟩) rfl ?_
  rintro _ _ ⟨_, ⟨p33, _, c35, C36, rfl, rfl, rfl, o36⟩, rfl⟩
  refine oA 2 Tryz.underlying34 rfl ts29 rfl (oC9 7 ts29 rfl rfl (ow_nil (kw_bl_normal (kw_nx (sr (oB9 7 ts34 rfl (oC9 2 ts34 rfl rfl (nn (cw_ret ?_)))))))))
  obtain rfl := sI H0
  exact kr Tryz.results56 (rC9 2 ts34 rfl rfl) [0, 3, 4, 14, 6] ⟨_, _, _, _, _, _, _, _, _, _, _, _, _, _, _, _, rfl, rfl, rfl, o7, rfl, o11, rfl, o36, rfl, o19⟩
 have H0 := cond_f H0 h26
 refine sr (oQ rfl (oS rfl (nn (cw_cond rfl (fun h37 => ?_) (fun h37 => ?_)))))
 ·have H0 := cond_t H0 h37
  obtain ⟨x38, e38, H0⟩ := bS H0
  refine cw_region (oM rfl (oM rfl (oA 0 Tryz.underlying34 rfl ts26 rfl (oB2 7 ts26 rfl (oE (stpU_callM (fun i => bif Nat.beq i 0 then 0 else 15 + i) cf89 (fun w hw hb => c_s_l3Wrong fl w m0 a0_0 x21.2 x3.t rfl (RO.passM hr0_0_0 hw hb) rfl (OwnC.passM (id := 3) rfl o7 hw hb ⟨rfl, trivial⟩) rfl (OwnC.passM (id := 4) rfl o11 hw hb ⟨rfl, trivial⟩) (hw.pass (js := [0]) ⟨0, [], rfl, rfl, trivial⟩ (by decide)) x38 e38) (yB rfl rfl) ⟨rfl, (fun _ _ hp => by obtain ⟨_, _, _, _, _, _, _, _, _, rfl, _⟩ := hp; exact ⟨_, rfl⟩), trivial⟩) rfl ?_)))))
  rintro _ _ ⟨_, ⟨p39, _, c41, C42, p43, _, c45, C46, rfl, rfl, rfl, o42, rfl, o46⟩, rfl⟩
  obtain ⟨x47, e47, H0⟩ := bS H0
  refine oE (stpU_callM (fun i => bif Nat.beq i 0 then 0 else 18 + i) cf89 (fun w hw hb => c_s_l3Wrong fl w m0 a0_0 x38.2 x38.1 rfl (RO.passM hr0_0_0 hw hb) rfl (OwnC.passM (id := 16) rfl o42 hw hb ⟨rfl, trivial⟩) rfl (OwnC.passM (id := 17) rfl o46 hw hb ⟨rfl, trivial⟩) (hw.pass (js := [0]) ⟨0, [], rfl, rfl, trivial⟩ (by decide)) x47 e47) (yB rfl rfl) ⟨rfl, (fun _ _ hp => by obtain ⟨_, _, _, _, _, _, _, _, _, rfl, _⟩ := hp; exact ⟨_, rfl⟩), trivial⟩) rfl ?_
  rintro _ _ ⟨_, ⟨p48, _, c50, C51, p52, _, c54, C55, rfl, rfl, rfl, o51, rfl, o55⟩, rfl⟩
  refine oA 0 Tryz.underlying34 rfl ts26 rfl (oC9 7 ts26 rfl rfl (ow_nil (kw_bl_normal (kw_nx (sr (oB9 7 ts34 rfl (oC9 2 ts34 rfl rfl (nn (cw_ret ?_)))))))))
  obtain rfl := sI H0
  exact kr Tryz.results56 (rC9 2 ts34 rfl rfl) [0, 19, 20, 5, 6] ⟨_, _, _, _, _, _, _, _, _, _, _, _, _, _, _, _, rfl, rfl, rfl, o51, rfl, o55, rfl, o15, rfl, o19⟩
 have H0 := cond_f H0 h37
 refine sr (oQ rfl (oS rfl (nn (cw_cond rfl (fun h56 => ?_) (fun h56 => ?_)))))
 ·have H0 := cond_t H0 h56
  obtain ⟨x57, e57, H0⟩ := bS H0
  refine cw_region (oM rfl (oM rfl (oA 4 Tryz.underlying34 rfl ts32 rfl (oB4 7 ts32 rfl (oE (stpU_callM (fun i => bif Nat.beq i 0 then 0 else 21 + i) cf90 (fun w hw hb => c_s_l5Wrong fl w m0 a0_0 x21.2 x3.g rfl (RO.passM hr0_0_0 hw hb) rfl (OwnC.passM (id := 6) rfl o19 hw hb ⟨rfl, trivial⟩) (hw.pass (js := [0]) ⟨0, [], rfl, rfl, trivial⟩ (by decide)) x57 e57) (yB rfl rfl) ⟨rfl, (fun _ _ hp => by obtain ⟨_, _, _, _, _, rfl, _⟩ := hp; exact ⟨_, rfl⟩), trivial⟩) rfl ?_)))))
  rintro _ _ ⟨_, ⟨p58, _, c60, C61, rfl, rfl, rfl, o61⟩, rfl⟩
  obtain ⟨x62, e62, H0⟩ := bS H0
  refine oE (stpU_callM (fun i => bif Nat.beq i 0 then 0 else 23 + i) cf90 (fun w hw hb => c_s_l5Wrong fl w m0 a0_0 x57.2 x57.1 rfl (RO.passM hr0_0_0 hw hb) rfl (OwnC.passM (id := 22) rfl o61 hw hb ⟨rfl, trivial⟩) (hw.pass (js := [0]) ⟨0, [], rfl, rfl, trivial⟩ (by decide)) x62 e62) (yB rfl rfl) ⟨rfl, (fun _ _ hp => by obtain ⟨_, _, _, _, _, rfl, _⟩ := hp; exact ⟨_, rfl⟩), trivial⟩) rfl ?_
  rintro _ _ ⟨_, ⟨p63, _, c65, C66, rfl, rfl, rfl, o66⟩, rfl⟩
  refine oA 4 Tryz.underlying34 rfl ts32 rfl (oC9 7 ts32 rfl rfl (ow_nil (kw_bl_normal (kw_nx (sr (oB9 7 ts34 rfl (oC9 2 ts34 rfl rfl (nn (cw_ret ?_)))))))))
  obtain rfl := sI H0
  exact kr Tryz.results56 (rC9 2 ts34 rfl rfl) [0, 3, 4, 5, 24] ⟨_, _, _, _, _, _, _, _, _, _, _, _, _, _, _, _, rfl, rfl, rfl, o7, rfl, o11, rfl, o15, rfl, o66⟩
 have H0 := cond_f H0 h56
 refine cw_skip (kw_bl_normal (kw_nx (sr (oB9 7 ts34 rfl (oC9 2 ts34 rfl rfl (nn (cw_ret ?_)))))))
 obtain rfl := sI H0
 exact kr Tryz.results56 (rC9 2 ts34 rfl rfl) [0, 3, 4, 5, 6] ⟨_, _, _, _, _, _, _, _, _, _, _, _, _, _, _, _, rfl, rfl, rfl, o7, rfl, o11, rfl, o15, rfl, o19⟩

theorem c_s_l7Wrong (fl : Nat) (w : World) (m0 : Nat) (a0_0 : (List UInt8)) (a0_1 : Int) (a1 : Mm) (hn0_0_0 : n0_0_0 = (a0_0).length) (hr0_0_0 : RO w (hkeys [(0, [(m0, .cells #[.slice p0_0_0 n0_0_0 c0_0_0, .int .i64 a0_1] 91 (0, 0))])]) (RdL p0_0_0 c0_0_0 a0_0)) (hn1_0 : n1_0 = (a1.m.t.b).length) (hr1_0 : RO w (hkeys [(0, [(m0, .cells #[.slice p0_0_0 n0_0_0 c0_0_0, .int .i64 a0_1] 91 (0, 0))])]) (RdL p1_0 c1_0 a1.m.t.b)) (hn1_1 : n1_1 = (a1.m.t.f).length) (hr1_1 : RO w (hkeys [(0, [(m0, .cells #[.slice p0_0_0 n0_0_0 c0_0_0, .int .i64 a0_1] 91 (0, 0))])]) (RdL p1_1 c1_1 a1.m.t.f)) (hn1_2 : n1_2 = (a1.m.c.l).length) (hr1_2 : RO w (hkeys [(0, [(m0, .cells #[.slice p0_0_0 n0_0_0 c0_0_0, .int .i64 a0_1] 91 (0, 0))])]) (RdL p1_2 c1_2 a1.m.c.l)) (hn1_3 : n1_3 = (a1.m.g.o).length) (hr1_3 : RO w (hkeys [(0, [(m0, .cells #[.slice p0_0_0 n0_0_0 c0_0_0, .int .i64 a0_1] 91 (0, 0))])]) (RdL p1_3 c1_3 a1.m.g.o)) (hn1_4 : n1_4 = (a1.k).length) (hr1_4 : RO w (hkeys [(0, [(m0, .cells #[.slice p0_0_0 n0_0_0 c0_0_0, .int .i64 a0_1] 91 (0, 0))])]) (RdL p1_4 c1_4 a1.k)) (hM : Sat w (hkeys [(0, [(m0, .cells #[.slice p0_0_0 n0_0_0 c0_0_0, .int .i64 a0_1] 91 (0, 0))])]) w [(0, [(m0, .cells #[.slice p0_0_0 n0_0_0 c0_0_0, .int .i64 a0_1] 91 (0, 0))])]) (r : Mm × Int) (H0 : s_l7Wrong fl a0_0 a0_1 a1 = some r) :
  Ct Tryz.prog 30 [.pointer (some ⟨m0, 0, none⟩), .agg #[.slice p1_0 n1_0 c1_0, .slice p1_1 n1_1 c1_1, .slice p1_2 n1_2 c1_2, .int .i64 a1.m.c.h, .int .i64 a1.m.g.c, .int .i64 a1.m.g.n, .int .i64 a1.m.g.r, .slice p1_3 n1_3 c1_3, .int .i64 a1.m.s, .slice p1_4 n1_4 c1_4, .int .i64 a1.h]] w [(0, [(m0, .cells #[.slice p0_0_0 n0_0_0 c0_0_0, .int .i64 a0_1] 91 (0, 0))])] (fun rv h' => ∃ (x1 : Option Addr) (y1 z1 : Nat) (C1 : Res) (x2 : Option Addr) (y2 z2 : Nat) (C2 : Res) (x3 : Option Addr) (y3 z3 : Nat) (C3 : Res) (x4 : Option Addr) (y4 z4 : Nat) (C4 : Res) (x5 : Option Addr) (y5 z5 : Nat) (C5 : Res), rv = .agg #[.slice x1 y1 z1, .slice x2 y2 z2, .slice x3 y3 z3, .int .i64 r.1.m.c.h, .int .i64 r.1.m.g.c, .int .i64 r.1.m.g.n, .int .i64 r.1.m.g.r, .slice x4 y4 z4, .int .i64 r.1.m.s, .slice x5 y5 z5, .int .i64 r.1.h] ∧ h' = [(0, [(m0, .cells #[.slice p0_0_0 n0_0_0 c0_0_0, .int .i64 r.2] 91 (0, 0))]), (1, C1), (2, C2), (3, C3), (4, C4), (5, C5)] ∧ y1 = (r.1.m.t.b).length ∧ OwnC 3 x1 z1 r.1.m.t.b C1 ∧ y2 = (r.1.m.t.f).length ∧ OwnC 51 x2 z2 r.1.m.t.f C2 ∧ y3 = (r.1.m.c.l).length ∧ OwnC 47 x3 z3 r.1.m.c.l C3 ∧ y4 = (r.1.m.g.o).length ∧ OwnC 89 x4 z4 r.1.m.g.o C4 ∧ y5 = (r.1.k).length ∧ OwnC 4 x5 z5 r.1.k C5) := by
 subst hn0_0_0 hn1_0 hn1_1 hn1_2 hn1_3 hn1_4
 unfold s_l7Wrong at H0
 refine ct_of_cw Tryz.func30 rfl Tryz.ntmps30 rfl hM ?_
 refine sr (oE (stpU_box 1 rfl rfl) rfl ?_)
 rintro _ _ ⟨b1, rfl, rfl⟩
 refine oE (stpU_alloc 2 tz37 rfl) rfl ?_
 rintro _ _ ⟨b2, rfl, rfl⟩
 obtain ⟨x3, e3, H0⟩ := bS H0
 refine nn (sr (oB11 1 ts37 rfl (oE (stpU_call (fun i => 3 + i) cf18 (fun w hw => c_s_l7Copy fl w a1 rfl (RO.pass hr1_0 hw) rfl (RO.pass hr1_1 hw) rfl (RO.pass hr1_2 hw) rfl (RO.pass hr1_3 hw) rfl (RO.pass hr1_4 hw) x3 e3) (yA rfl)) rfl ?_)))
 rintro _ _ ⟨_, ⟨p4, _, c6, C7, p8, _, c10, C11, p12, _, c14, C15, p16, _, c18, C19, p20, _, c22, C23, rfl, rfl, rfl, o7, rfl, o11, rfl, o15, rfl, o19, rfl, o23⟩, rfl⟩
 refine oE (stpU_alloc 8 tz37 rfl) rfl ?_
 rintro _ _ ⟨b24, rfl, rfl⟩
 obtain ⟨x25, e25, H0⟩ := bS H0
 refine oC11 8 ts37 rfl rfl (nn (cw_seq (sr (oM rfl (oE (stpU_callM (fun i => bif Nat.beq i 0 then 0 else 9 + i) cf54 (fun w hw hb => c_s_l12Rd_pick fl w m0 a0_0 a0_1 20 rfl (RO.passM hr0_0_0 hw hb) (hw.pass (js := [0]) ⟨0, [], rfl, rfl, trivial⟩ (by decide)) x25 e25) (yB rfl rfl) ⟨rfl, (fun _ _ hp => by obtain ⟨_, rfl⟩ := hp; exact ⟨_, rfl⟩), trivial⟩) rfl ?_)))))
 rintro _ _ ⟨_, ⟨rfl, rfl⟩, rfl⟩
 refine nn (cw_block (sr (oQ rfl (oS rfl (nn (cw_cond rfl (fun h26 => ?_) (fun h26 => ?_)))))))
 ·have H0 := cond_t H0 h26
  refine cw_region (oM rfl (oE (stpU_lit (sz := 1) (l := [(-1), 16, 0]) [.int .i64 (-1), .int .i64 16, .int .i64 0] sl23 10 (sevp_cons rfl (sevp_cons rfl (sevp_cons rfl sevp_nil))) rfl rfl rfl rfl rfl rfl rfl rfl rfl) rfl ?_))
  rintro _ _ ⟨p27, C28, rfl, rfl, o28⟩
  obtain ⟨x29, e29, H0⟩ := bS H0
  refine oE (stpU_callM (fun i => bif Nat.beq i 0 then 0 else 11 + i) cf55 (fun w hw hb => c_s_l12Rd_num fl w m0 a0_0 x25.2 ([(-1), 16, 0]) rfl (RO.passM hr0_0_0 hw hb) (by simp) (OwnC.passM (id := 10) rfl o28 hw hb ⟨rfl, trivial⟩) (hw.pass (js := [0]) ⟨0, [], rfl, rfl, trivial⟩ (by decide)) x29 e29) (yB rfl rfl) ⟨rfl, (fun _ _ hp => by obtain ⟨_, rfl⟩ := hp; exact ⟨_, rfl⟩), trivial⟩) rfl ?_
  rintro _ _ ⟨_, ⟨rfl, rfl⟩, rfl⟩
  refine oA 10 Tryz.underlying37 rfl ts3 rfl (oC11 8 ts3 rfl rfl (ow_nil (kw_bl_normal (kw_nx (sr (oB11 8 ts37 rfl (oC11 2 ts37 rfl rfl (nn (cw_ret ?_)))))))))
  obtain rfl := sI H0
  exact kr Tryz.results30 (rC11 2 ts37 rfl rfl) [0, 3, 4, 5, 6, 7] ⟨_, _, _, _, _, _, _, _, _, _, _, _, _, _, _, _, _, _, _, _, rfl, rfl, rfl, o7, rfl, o11, rfl, o15, rfl, o19, rfl, o23⟩
 have H0 := cond_f H0 h26
 refine sr (oQ rfl (oS rfl (nn (cw_cond rfl (fun h30 => ?_) (fun h30 => ?_)))))
 ·have H0 := cond_t H0 h30
  refine cw_region (oA 9 Tryz.underlying37 rfl ts35 rfl (oL 8 ts35 rfl (oE (stpU_lit (sz := 1) (l := [true]) [.bool true] sl35 12 (sevp_cons rfl sevp_nil) rfl rfl rfl rfl rfl rfl rfl rfl rfl) rfl ?_)))
  rintro _ _ ⟨p31, C32, rfl, rfl, o32⟩
  obtain ⟨x33, e33, H0⟩ := bS H0
  refine oE (stpU_append sl35 rfl (id := 7) rfl rfl rfl (by simp) rfl o23 (Rdb.own (id := 12) rfl o32) e33) rfl ?_
  rintro _ _ ⟨p34, c35, C36, rfl, rfl, o36⟩
  refine oA 9 Tryz.underlying37 rfl ts35 rfl (oC11 8 ts35 rfl rfl (ow_nil (kw_bl_normal (kw_nx (sr (oB11 8 ts37 rfl (oC11 2 ts37 rfl rfl (nn (cw_ret ?_)))))))))
  obtain rfl := sI H0
  exact kr Tryz.results30 (rC11 2 ts37 rfl rfl) [0, 3, 4, 5, 6, 7] ⟨_, _, _, _, _, _, _, _, _, _, _, _, _, _, _, _, _, _, _, _, rfl, rfl, rfl, o7, rfl, o11, rfl, o15, rfl, o19, rfl, o36⟩
 have H0 := cond_f H0 h30
 refine sr (oQ rfl (oS rfl (nn (cw_cond rfl (fun h37 => ?_) (fun h37 => ?_)))))
 ·have H0 := cond_t H0 h37
  obtain ⟨x38, e38, H0⟩ := bS H0
  refine cw_region (oM rfl (oM rfl (oM rfl (oA 0 Tryz.underlying37 rfl ts34 rfl (oB9 8 ts34 rfl (oE (stpU_callM (fun i => bif Nat.beq i 0 then 0 else 13 + i) cf56 (fun w hw hb => c_s_l6Wrong fl w m0 a0_0 x25.2 x3.m rfl (RO.passM hr0_0_0 hw hb) rfl (OwnC.passM (id := 3) rfl o7 hw hb ⟨rfl, trivial⟩) rfl (OwnC.passM (id := 4) rfl o11 hw hb ⟨rfl, trivial⟩) rfl (OwnC.passM (id := 5) rfl o15 hw hb ⟨rfl, trivial⟩) rfl (OwnC.passM (id := 6) rfl o19 hw hb ⟨rfl, trivial⟩) (hw.pass (js := [0]) ⟨0, [], rfl, rfl, trivial⟩ (by decide)) x38 e38) (yB rfl rfl) ⟨rfl, (fun _ _ hp => by obtain ⟨_, _, _, _, _, _, _, _, _, _, _, _, _, _, _, _, _, rfl, _⟩ := hp; exact ⟨_, rfl⟩), trivial⟩) rfl ?_))))))
  rintro _ _ ⟨_, ⟨p39, _, c41, C42, p43, _, c45, C46, p47, _, c49, C50, p51, _, c53, C54, rfl, rfl, rfl, o42, rfl, o46, rfl, o50, rfl, o54⟩, rfl⟩
  obtain ⟨x55, e55, H0⟩ := bS H0
  refine oE (stpU_callM (fun i => bif Nat.beq i 0 then 0 else 18 + i) cf56 (fun w hw hb => c_s_l6Wrong fl w m0 a0_0 x38.2 x38.1 rfl (RO.passM hr0_0_0 hw hb) rfl (OwnC.passM (id := 14) rfl o42 hw hb ⟨rfl, trivial⟩) rfl (OwnC.passM (id := 15) rfl o46 hw hb ⟨rfl, trivial⟩) rfl (OwnC.passM (id := 16) rfl o50 hw hb ⟨rfl, trivial⟩) rfl (OwnC.passM (id := 17) rfl o54 hw hb ⟨rfl, trivial⟩) (hw.pass (js := [0]) ⟨0, [], rfl, rfl, trivial⟩ (by decide)) x55 e55) (yB rfl rfl) ⟨rfl, (fun _ _ hp => by obtain ⟨_, _, _, _, _, _, _, _, _, _, _, _, _, _, _, _, _, rfl, _⟩ := hp; exact ⟨_, rfl⟩), trivial⟩) rfl ?_
  rintro _ _ ⟨_, ⟨p56, _, c58, C59, p60, _, c62, C63, p64, _, c66, C67, p68, _, c70, C71, rfl, rfl, rfl, o59, rfl, o63, rfl, o67, rfl, o71⟩, rfl⟩
  obtain ⟨x72, e72, H0⟩ := bS H0
  refine oE (stpU_callM (fun i => bif Nat.beq i 0 then 0 else 23 + i) cf56 (fun w hw hb => c_s_l6Wrong fl w m0 a0_0 x55.2 x55.1 rfl (RO.passM hr0_0_0 hw hb) rfl (OwnC.passM (id := 19) rfl o59 hw hb ⟨rfl, trivial⟩) rfl (OwnC.passM (id := 20) rfl o63 hw hb ⟨rfl, trivial⟩) rfl (OwnC.passM (id := 21) rfl o67 hw hb ⟨rfl, trivial⟩) rfl (OwnC.passM (id := 22) rfl o71 hw hb ⟨rfl, trivial⟩) (hw.pass (js := [0]) ⟨0, [], rfl, rfl, trivial⟩ (by decide)) x72 e72) (yB rfl rfl) ⟨rfl, (fun _ _ hp => by obtain ⟨_, _, _, _, _, _, _, _, _, _, _, _, _, _, _, _, _, rfl, _⟩ := hp; exact ⟨_, rfl⟩), trivial⟩) rfl ?_
  rintro _ _ ⟨_, ⟨p73, _, c75, C76, p77, _, c79, C80, p81, _, c83, C84, p85, _, c87, C88, rfl, rfl, rfl, o76, rfl, o80, rfl, o84, rfl, o88⟩, rfl⟩
  refine oA 0 Tryz.underlying37 rfl ts34 rfl (oC11 8 ts34 rfl rfl (ow_nil (kw_bl_normal (kw_nx (sr (oB11 8 ts37 rfl (oC11 2 ts37 rfl rfl (nn (cw_ret ?_)))))))))
  obtain rfl := sI H0
  exact kr Tryz.results30 (rC11 2 ts37 rfl rfl) [0, 24, 25, 26, 27, 7] ⟨_, _, _, _, _, _, _, _, _, _, _, _, _, _, _, _, _, _, _, _, rfl, rfl, rfl, o76, rfl, o80, rfl, o84, rfl, o88, rfl, o23⟩
 have H0 := cond_f H0 h37
 refine sr (oQ rfl (oS rfl (nn (cw_cond rfl (fun h89 => ?_) (fun h89 => ?_)))))
 ·have H0 := cond_t H0 h89
  obtain ⟨x90, e90, H0⟩ := bS H0
  refine sr (oM rfl (oA 9 Tryz.underlying37 rfl ts35 rfl (oL 8 ts35 rfl (oD (stp_len Tryz.underlying35 rfl) rfl (oE (stpU_callM (fun i => bif Nat.beq i 0 then 0 else 28 + i) cf54 (fun w hw hb => c_s_l12Rd_pick fl w m0 a0_0 x25.2 ((x3.k).length : Int) rfl (RO.passM hr0_0_0 hw hb) (hw.pass (js := [0]) ⟨0, [], rfl, rfl, trivial⟩ (by decide)) x90 e90) (yB rfl rfl) ⟨rfl, (fun _ _ hp => by obtain ⟨_, rfl⟩ := hp; exact ⟨_, rfl⟩), trivial⟩) rfl ?_)))))
  rintro _ _ ⟨_, ⟨rfl, rfl⟩, rfl⟩
  obtain ⟨x91, e91, H0⟩ := bS H0
  refine oS rfl (nn (rdt g_mixed (rn 0 11) ⟨[[],[8],[],[],[8],[],[7],[7],[],[7],[7]], [[],[],[],[],[],[],[],[],[],[],[7]], [10]⟩ (dA 9 rfl Tryz.underlying37 rfl ts35 rfl (dL 8 ts35 rfl (dM rfl (dA 9 rfl Tryz.underlying37 rfl ts35 rfl (dL 8 ts35 rfl (dM rfl (dD rfl (stp_indexAddr Tryz.underlying35 ts4 (by decide) rfl rfl rfl (Rdb.own (id := 7) rfl o23) e91) (dD rfl (stp_load1 ts4 rfl (Cells.el (Rdb.own (id := 7) rfl o23) (by decide) e91 0 1 rfl)) (dK rfl (dD rfl (stp_indexAddr Tryz.underlying35 ts4 (by decide) rfl rfl rfl (Rdb.own (id := 7) rfl o23) e91) (dF rfl (fun hh => stpU_storeEl (id := 7) (i := 0) (!x91) (by decide) ts4 rfl rfl (hh _ _ rfl) o23 e91 rfl rfl rfl rfl) ?_)))))))))))))
  rintro _ _ ⟨C92, rfl, o92⟩
  refine dk rfl (dn (kw_bl_normal (kw_nx (sr (oB11 8 ts37 rfl (oC11 2 ts37 rfl rfl (nn (cw_ret ?_))))))))
  obtain rfl := sI H0
  exact kr Tryz.results30 (rC11 2 ts37 rfl rfl) [0, 3, 4, 5, 6, 7] ⟨_, _, _, _, _, _, _, _, _, _, _, _, _, _, _, _, _, _, _, _, rfl, rfl, rfl, o7, rfl, o11, rfl, o15, rfl, o19, (by simp), o92⟩
 have H0 := cond_f H0 h89
 refine cw_skip (kw_bl_normal (kw_nx (sr (oB11 8 ts37 rfl (oC11 2 ts37 rfl rfl (nn (cw_ret ?_)))))))
 obtain rfl := sI H0
 exact kr Tryz.results30 (rC11 2 ts37 rfl rfl) [0, 3, 4, 5, 6, 7] ⟨_, _, _, _, _, _, _, _, _, _, _, _, _, _, _, _, _, _, _, _, rfl, rfl, rfl, o7, rfl, o11, rfl, o15, rfl, o19, rfl, o23⟩

theorem c_s_l7Case (fl : Nat) (w : World) (a0 : (List UInt8)) (hn0_0 : n0_0 = (a0).length) (hr0_0 : RO w (hkeys []) (RdL p0_0 c0_0 a0)) (r : Mm) (H0 : s_l7Case fl a0 = some r) :
  Ct Tryz.prog 16 [.slice p0_0 n0_0 c0_0] w [] (fun rv h' => ∃ (x0 : Option Addr) (y0 z0 : Nat) (C0 : Res) (x1 : Option Addr) (y1 z1 : Nat) (C1 : Res) (x2 : Option Addr) (y2 z2 : Nat) (C2 : Res) (x3 : Option Addr) (y3 z3 : Nat) (C3 : Res) (x4 : Option Addr) (y4 z4 : Nat) (C4 : Res), rv = .agg #[.slice x0 y0 z0, .slice x1 y1 z1, .slice x2 y2 z2, .int .i64 r.m.c.h, .int .i64 r.m.g.c, .int .i64 r.m.g.n, .int .i64 r.m.g.r, .slice x3 y3 z3, .int .i64 r.m.s, .slice x4 y4 z4, .int .i64 r.h] ∧ h' = [(0, C0), (1, C1), (2, C2), (3, C3), (4, C4)] ∧ y0 = (r.m.t.b).length ∧ OwnC 3 x0 z0 r.m.t.b C0 ∧ y1 = (r.m.t.f).length ∧ OwnC 51 x1 z1 r.m.t.f C1 ∧ y2 = (r.m.c.l).length ∧ OwnC 47 x2 z2 r.m.c.l C2 ∧ y3 = (r.m.g.o).length ∧ OwnC 89 x3 z3 r.m.g.o C3 ∧ y4 = (r.k).length ∧ OwnC 4 x4 z4 r.k C4) := by
 subst hn0_0
 unfold s_l7Case at H0
 refine ct_of_cw Tryz.func16 rfl Tryz.ntmps16 rfl (Sat.refl _ _) ?_
 refine sr (oE (stpU_alloc 0 tz37 rfl) rfl ?_)
 rintro _ _ ⟨b1, rfl, rfl⟩
 refine nn (sr (oM rfl (oE (stpU_call (fun i => 1 + i) cf29 (fun w hw => c_open29 w a0 p0_0 ((a0).length) c0_0 rfl (RO.cap hr0_0).1) (yA rfl)) rfl ?_)))
 rintro _ _ ⟨_, ⟨b2, rfl, rfl⟩, rfl⟩
 obtain ⟨x3, e3, H0⟩ := bS H0
 refine oS rfl (nn (sr (oM rfl (oM rfl (oE (stpU_callM (fun i => bif Nat.beq i 0 then 1 else 2 + i) cf31 (fun w hw hb => c_s_l7Draw fl w b2 (a0.take 2000) 0 rfl (RO.passM (RO.takeN 2000 hr0_0) hw hb) (hw.pass (js := [1]) ⟨1, [], rfl, rfl, trivial⟩ (by decide)) x3 e3) (yA rfl) ⟨rfl, (fun _ _ hp => by obtain ⟨_, _, _, _, _, _, _, _, _, _, _, _, _, _, _, _, _, _, _, _, _, rfl, _⟩ := hp; exact ⟨_, rfl⟩), trivial⟩) rfl ?_)))))
 rintro _ _ ⟨_, ⟨p4, _, c6, C7, p8, _, c10, C11, p12, _, c14, C15, p16, _, c18, C19, p20, _, c22, C23, rfl, rfl, rfl, o7, rfl, o11, rfl, o15, rfl, o19, rfl, o23⟩, rfl⟩
 obtain ⟨x24, e24, H0⟩ := bS H0
 refine oE (stpU_callM (fun i => bif Nat.beq i 0 then 1 else 8 + i) cf30 (fun w hw hb => c_s_l7Wrong fl w b2 (a0.take 2000) x3.2 x3.1 rfl (RO.passM (RO.takeN 2000 hr0_0) hw hb) rfl (OwnC.passM (id := 3) rfl o7 hw hb ⟨rfl, trivial⟩) rfl (OwnC.passM (id := 4) rfl o11 hw hb ⟨rfl, trivial⟩) rfl (OwnC.passM (id := 5) rfl o15 hw hb ⟨rfl, trivial⟩) rfl (OwnC.passM (id := 6) rfl o19 hw hb ⟨rfl, trivial⟩) rfl (OwnC.passM (id := 7) rfl o23 hw hb ⟨rfl, trivial⟩) (hw.pass (js := [1]) ⟨1, [], rfl, rfl, trivial⟩ (by decide)) x24 e24) (yB rfl rfl) ⟨rfl, (fun _ _ hp => by obtain ⟨_, _, _, _, _, _, _, _, _, _, _, _, _, _, _, _, _, _, _, _, _, rfl, _⟩ := hp; exact ⟨_, rfl⟩), trivial⟩) rfl ?_
 rintro _ _ ⟨_, ⟨p25, _, c27, C28, p29, _, c31, C32, p33, _, c35, C36, p37, _, c39, C40, p41, _, c43, C44, rfl, rfl, rfl, o28, rfl, o32, rfl, o36, rfl, o40, rfl, o44⟩, rfl⟩
 refine oC11 0 ts37 rfl rfl (nn (cw_ret ?_))
 obtain rfl := sI H0
 exact kr Tryz.results16 (rC11 0 ts37 rfl rfl) [9, 10, 11, 12, 13] ⟨_, _, _, _, _, _, _, _, _, _, _, _, _, _, _, _, _, _, _, _, rfl, rfl, rfl, o28, rfl, o32, rfl, o36, rfl, o40, rfl, o44⟩

theorem c_i_TableValid (fl : Nat) (w : World) (a0 : T) (hn0_0 : n0_0 = (a0.b).length) (hr0_0 : RO w (hkeys []) (RdL p0_0 c0_0 a0.b)) (hn0_1 : n0_1 = (a0.f).length) (hr0_1 : RO w (hkeys []) (RdL p0_1 c0_1 a0.f)) (hg : RO w (hkeys []) (fun w' => w'.rangeAt 0 0 [.bool false, .int .i64 0, .int .i64 0, .int .i64 0, .int .i64 (-1)])) (r : Bool) (H0 : i_TableValid fl a0 = some r) :
    Ct Tryz.prog 36 [.agg #[.slice p0_0 n0_0 c0_0, .slice p0_1 n0_1 c0_1]] w [] (fun rv h' => rv = .bool r ∧ h' = []) := by
  obtain rfl := hn0_0
  obtain rfl := hn0_1
  unfold i_TableValid at H0
  obtain rfl := Option.some.inj H0
  exact ct_of_calls (tableValid_c _ a0 w ⟨_, _, rfl, (hr0_0 w (Fr.refl _ _)).rd, (hr0_1 w (Fr.refl _ _)).rd⟩ (freeG_of (hg w (Fr.refl _ _))))

theorem c_i_within (fl : Nat) (w : World) (a0 : Int) (a1 : Int) (r : Bool) (H0 : i_within fl a0 a1 = some r) :
  Ct Tryz.prog 21 [.int .i64 a0, .int .i64 a1] w [] (fun rv h' => rv = .bool r ∧ h' = []) := by
 unfold i_within at H0
 refine ct_of_cw Tryz.func21 rfl Tryz.ntmps21 rfl (Sat.refl _ _) ?_
 obtain ⟨y1, ey1, H0⟩ := bS H0
 refine sr (oS rfl (nn (sr (oM rfl (oI rfl (oM rfl (ow_cutY 4 11 y1 ?_ ?_)))))))
 ·rcases Bool.eq_false_or_eq_true (decide (0 ≤ a0)) with hy1 | hy1
  ·have ey1 := cond_t ey1 hy1
   refine oG rfl hy1 (mv rfl) rfl (oG rfl hy1 (mv rfl) rfl (oG rfl hy1 (stp_lss rfl rfl) rfl (oD (stp_pick_t rfl hy1 rfl) rfl ?_)))
   obtain rfl := sI ey1
   exact ow_nil (jy 4 0)
  have ey1 := cond_f ey1 hy1
  refine oO rfl hy1 rfl (oO rfl hy1 rfl (oO rfl hy1 rfl (oD (stp_pick_f rfl hy1 rfl) rfl ?_)))
  obtain rfl := sI ey1
  exact ow_nil (jy 4 0)
 refine oS rfl (nn (cw_ret ?_))
 obtain rfl := sI H0
 exact kr Tryz.results21 (rT rfl) [] ⟨rfl, rfl⟩

theorem c_i_tagValid (fl : Nat) (w : World) (a0 : Int) (r : Bool) (H0 : i_tagValid fl a0 = some r) :
  Ct Tryz.prog 98 [.int .i64 a0] w [] (fun rv h' => rv = .bool r ∧ h' = []) := by
 unfold i_tagValid at H0
 refine ct_of_cw Tryz.func98 rfl Tryz.ntmps98 rfl (Sat.refl _ _) ?_
 obtain ⟨y1, ey1, H0⟩ := bS H0
 refine sr (oS rfl (nn (sr (oM rfl (oI rfl (oM rfl (ow_cutY 3 8 y1 ?_ ?_)))))))
 ·rcases Bool.eq_false_or_eq_true (decide ((-1) ≤ a0)) with hy1 | hy1
  ·have ey1 := cond_t ey1 hy1
   refine oG rfl hy1 (mv rfl) rfl (oG rfl hy1 (stp_lss rfl rfl) rfl (oD (stp_pick_t rfl hy1 rfl) rfl ?_))
   obtain rfl := sI ey1
   exact ow_nil (jy 3 0)
  have ey1 := cond_f ey1 hy1
  refine oO rfl hy1 rfl (oO rfl hy1 rfl (oD (stp_pick_f rfl hy1 rfl) rfl ?_))
  obtain rfl := sI ey1
  exact ow_nil (jy 3 0)
 refine oS rfl (nn (cw_ret ?_))
 obtain rfl := sI H0
 exact kr Tryz.results98 (rT rfl) [] ⟨rfl, rfl⟩

theorem c_i_RightsValid (fl : Nat) (w : World) (a0 : Int) (r : Bool) (H0 : i_RightsValid fl a0 = some r) :
  Ct Tryz.prog 71 [.int .i64 a0] w [] (fun rv h' => rv = .bool r ∧ h' = []) := by
 unfold i_RightsValid at H0
 refine ct_of_cw Tryz.func71 rfl Tryz.ntmps71 rfl (Sat.refl _ _) ?_
 obtain ⟨x1, e1, H0⟩ := bS H0
 refine sr (oS rfl (nn (sr (oM rfl (oE (stpU_call (fun i => 0 + i) cf21 (fun w hw => c_i_within fl w a0 8 x1 e1) (yB rfl rfl)) rfl ?_)))))
 rintro _ _ ⟨_, ⟨rfl, rfl⟩, rfl⟩
 refine oS rfl (nn (cw_ret ?_))
 obtain rfl := sI H0
 exact kr Tryz.results71 (rT rfl) [] ⟨rfl, rfl⟩

theorem c_i_lineValid (fl : Nat) (w : World) (a0 : Ln) (r : Bool) (H0 : i_lineValid fl a0 = some r) :
  Ct Tryz.prog 73 [.agg #[.bool a0.va, .int .i64 a0.tg, .int .i64 a0.pg, .int .i64 a0.fr, .int .i64 a0.ri, .bool a0.wi]] w [] (fun rv h' => rv = .bool r ∧ h' = []) := by
 unfold i_lineValid at H0
 refine ct_of_cw Tryz.func73 rfl Tryz.ntmps73 rfl (Sat.refl _ _) ?_
 refine sr (oE (stpU_box 0 rfl rfl) rfl ?_)
 rintro _ _ ⟨b1, rfl, rfl⟩
 refine oS rfl (nn (cw_seq (sr (oA 0 Tryz.underlying47 rfl ts4 rfl (oL 0 ts4 rfl (oK rfl (nn (cw_cond rfl (fun h2 => ?_) (fun h2 => ?_)))))))))
 ·have H0 := cond_t H0 h2
  refine sr (oB6 0 ts47 rfl (oD (stp_build (cs := #[.bool false, .int .i64 0, .int .i64 0, .int .i64 0, .int .i64 0, .bool false]) sevp_nil bt47_11) rfl (oD (stp_eqlS te47 a0 (⟨false, 0, 0, 0, 0, false⟩ : Ln) rfl rfl) rfl (oS rfl (nn (cw_ret (kw_nx_ret ?_)))))))
  obtain rfl := sI H0
  exact kr Tryz.results73 (rT rfl) [] ⟨rfl, rfl⟩
 have H0 := cond_f H0 h2
 obtain ⟨x3, e3, H0⟩ := bS H0
 refine cw_skip (kw_nx (sr (oA 1 Tryz.underlying47 rfl ts3 rfl (oL 0 ts3 rfl (oE (stpU_call (fun i => 1 + i) cf98 (fun w hw => c_i_tagValid fl w a0.tg x3 e3) (yA rfl)) rfl ?_)))))
 rintro _ _ ⟨_, ⟨rfl, rfl⟩, rfl⟩
 obtain ⟨y4, ey4, H0⟩ := bS H0
 refine oM rfl (ow_cutY 4 16 y4 ?_ ?_)
 ·rcases Bool.eq_false_or_eq_true x3 with hy4 | hy4
  ·have ey4 := cond_t ey4 hy4
   obtain ⟨x5, e5, ey4⟩ := bS ey4
   refine oG rfl hy4 (fA 2 Tryz.underlying47 rfl ts3 rfl rfl rfl) rfl (oG rfl hy4 (lB 0 ts3 rfl rfl rfl) rfl (ow_eff (.some rfl hy4) (stpU_call (fun i => 1 + i) cf21 (fun w hw => c_i_within fl w a0.pg 256 x5 e5) (yB rfl rfl)) rfl ?_))
   rintro _ _ ⟨_, ⟨rfl, rfl⟩, rfl⟩
   refine oD (stp_pick_t rfl hy4 rfl) rfl ?_
   obtain rfl := sI ey4
   exact ow_nil (jy 4 0)
  have ey4 := cond_f ey4 hy4
  refine oO rfl hy4 rfl (oO rfl hy4 rfl (oO rfl hy4 rfl (oD (stp_pick_f rfl hy4 rfl) rfl ?_)))
  obtain rfl := sI ey4
  exact ow_nil (jy 4 0)
 obtain ⟨y6, ey6, H0⟩ := bS H0
 refine oM rfl (ow_cutY 4 21 y6 ?_ ?_)
 ·rcases Bool.eq_false_or_eq_true y4 with hy6 | hy6
  ·have ey6 := cond_t ey6 hy6
   obtain ⟨x7, e7, ey6⟩ := bS ey6
   refine oG rfl hy6 (fA 3 Tryz.underlying47 rfl ts3 rfl rfl rfl) rfl (oG rfl hy6 (lB 0 ts3 rfl rfl rfl) rfl (ow_eff (.some rfl hy6) (stpU_call (fun i => 1 + i) cf21 (fun w hw => c_i_within fl w a0.fr 16 x7 e7) (yB rfl rfl)) rfl ?_))
   rintro _ _ ⟨_, ⟨rfl, rfl⟩, rfl⟩
   refine oD (stp_pick_t rfl hy6 rfl) rfl ?_
   obtain rfl := sI ey6
   exact ow_nil (jy 4 0)
  have ey6 := cond_f ey6 hy6
  refine oO rfl hy6 rfl (oO rfl hy6 rfl (oO rfl hy6 rfl (oD (stp_pick_f rfl hy6 rfl) rfl ?_)))
  obtain rfl := sI ey6
  exact ow_nil (jy 4 0)
 obtain ⟨y8, ey8, H0⟩ := bS H0
 refine oM rfl (ow_cutY 4 26 y8 ?_ ?_)
 ·rcases Bool.eq_false_or_eq_true y6 with hy8 | hy8
  ·have ey8 := cond_t ey8 hy8
   obtain ⟨x9, e9, ey8⟩ := bS ey8
   refine oG rfl hy8 (fA 4 Tryz.underlying47 rfl ts3 rfl rfl rfl) rfl (oG rfl hy8 (lB 0 ts3 rfl rfl rfl) rfl (ow_eff (.some rfl hy8) (stpU_call (fun i => 1 + i) cf71 (fun w hw => c_i_RightsValid fl w a0.ri x9 e9) (yA rfl)) rfl ?_))
   rintro _ _ ⟨_, ⟨rfl, rfl⟩, rfl⟩
   refine oD (stp_pick_t rfl hy8 rfl) rfl ?_
   obtain rfl := sI ey8
   exact ow_nil (jy 4 0)
  have ey8 := cond_f ey8 hy8
  refine oO rfl hy8 rfl (oO rfl hy8 rfl (oO rfl hy8 rfl (oD (stp_pick_f rfl hy8 rfl) rfl ?_)))
  obtain rfl := sI ey8
  exact ow_nil (jy 4 0)
 refine oS rfl (nn (cw_ret ?_))
 obtain rfl := sI H0
 exact kr Tryz.results73 (rT rfl) [] ⟨rfl, rfl⟩

theorem c_i_clash (fl : Nat) (w : World) (a0 : Ln) (a1 : Ln) (r : Bool) (H0 : i_clash fl a0 a1 = some r) :
  Ct Tryz.prog 74 [.agg #[.bool a0.va, .int .i64 a0.tg, .int .i64 a0.pg, .int .i64 a0.fr, .int .i64 a0.ri, .bool a0.wi], .agg #[.bool a1.va, .int .i64 a1.tg, .int .i64 a1.pg, .int .i64 a1.fr, .int .i64 a1.ri, .bool a1.wi]] w [] (fun rv h' => rv = .bool r ∧ h' = []) := by
 unfold i_clash at H0
 refine ct_of_cw Tryz.func74 rfl Tryz.ntmps74 rfl (Sat.refl _ _) ?_
 refine sr (oE (stpU_box 0 rfl rfl) rfl ?_)
 rintro _ _ ⟨b1, rfl, rfl⟩
 refine oE (stpU_box 1 rfl rfl) rfl ?_
 rintro _ _ ⟨b2, rfl, rfl⟩
 obtain ⟨y3, ey3, H0⟩ := bS H0
 refine oS rfl (nn (sr (oA 0 Tryz.underlying47 rfl ts4 rfl (oL 0 ts4 rfl (oM rfl (ow_cutY 3 10 y3 ?_ ?_))))))
 ·rcases Bool.eq_false_or_eq_true a0.va with hy3 | hy3
  ·have ey3 := cond_t ey3 hy3
   refine oG rfl hy3 (fA 0 Tryz.underlying47 rfl ts4 rfl rfl rfl) rfl (oG rfl hy3 (lB 1 ts4 rfl rfl rfl) rfl (oD (stp_pick_t rfl hy3 rfl) rfl ?_))
   obtain rfl := sI ey3
   exact ow_nil (jy 3 0)
  have ey3 := cond_f ey3 hy3
  refine oO rfl hy3 rfl (oO rfl hy3 rfl (oD (stp_pick_f rfl hy3 rfl) rfl ?_))
  obtain rfl := sI ey3
  exact ow_nil (jy 3 0)
 obtain ⟨y4, ey4, H0⟩ := bS H0
 refine oM rfl (ow_cutY 6 17 y4 ?_ ?_)
 ·rcases Bool.eq_false_or_eq_true y3 with hy4 | hy4
  ·have ey4 := cond_t ey4 hy4
   refine oG rfl hy4 (fA 2 Tryz.underlying47 rfl ts3 rfl rfl rfl) rfl (oG rfl hy4 (lB 0 ts3 rfl rfl rfl) rfl (oG rfl hy4 (fA 2 Tryz.underlying47 rfl ts3 rfl rfl rfl) rfl (oG rfl hy4 (lB 1 ts3 rfl rfl rfl) rfl (oG rfl hy4 (stp_eql rfl rfl) rfl (oD (stp_pick_t rfl hy4 rfl) rfl ?_)))))
   obtain rfl := sI ey4
   exact ow_nil (jy 6 0)
  have ey4 := cond_f ey4 hy4
  refine oO rfl hy4 rfl (oO rfl hy4 rfl (oO rfl hy4 rfl (oO rfl hy4 rfl (oO rfl hy4 rfl (oD (stp_pick_f rfl hy4 rfl) rfl ?_)))))
  obtain rfl := sI ey4
  exact ow_nil (jy 6 0)
 obtain ⟨y5, ey5, H0⟩ := bS H0
 refine oM rfl (ow_cutY 16 34 y5 ?_ ?_)
 ·rcases Bool.eq_false_or_eq_true y4 with hy5 | hy5
  ·have ey5 := cond_t ey5 hy5
   obtain ⟨y6, ey6, ey5⟩ := bS ey5
   refine oG rfl hy5 (fA 1 Tryz.underlying47 rfl ts3 rfl rfl rfl) rfl (oG rfl hy5 (lB 0 ts3 rfl rfl rfl) rfl (oG rfl hy5 (fA 1 Tryz.underlying47 rfl ts3 rfl rfl rfl) rfl (oG rfl hy5 (lB 1 ts3 rfl rfl rfl) rfl (oG rfl hy5 (stp_eql rfl rfl) rfl (oG rfl hy5 (mv rfl) rfl (ow_cutY 4 28 y6 ?_ ?_))))))
   ·rcases Bool.eq_false_or_eq_true (a0.tg == a1.tg) with hy6 | hy6
    ·have ey6 := cond_t ey6 hy6
     refine oO rfl hy6 rfl (oO rfl hy6 rfl (oO rfl hy6 rfl (oG rfl hy5 (stp_pick_t rfl hy6 rfl) rfl ?_)))
     obtain rfl := sI ey6
     exact ow_nil (jy 4 0)
    have ey6 := cond_f ey6 hy6
    refine oG rfl hy6 (fA 1 Tryz.underlying47 rfl ts3 rfl rfl rfl) rfl (oG rfl hy6 (lB 0 ts3 rfl rfl rfl) rfl (oG rfl hy6 (stp_eql rfl rfl) rfl (oG rfl hy5 (stp_pick_f rfl hy6 rfl) rfl ?_)))
    obtain rfl := sI ey6
    exact ow_nil (jy 4 0)
   obtain ⟨y7, ey7, ey5⟩ := bS ey5
   refine oG rfl hy5 (mv rfl) rfl (ow_cutY 4 33 y7 ?_ ?_)
   ·rcases Bool.eq_false_or_eq_true y6 with hy7 | hy7
    ·have ey7 := cond_t ey7 hy7
     refine oO rfl hy7 rfl (oO rfl hy7 rfl (oO rfl hy7 rfl (oG rfl hy5 (stp_pick_t rfl hy7 rfl) rfl ?_)))
     obtain rfl := sI ey7
     exact ow_nil (jy 4 0)
    have ey7 := cond_f ey7 hy7
    refine oG rfl hy7 (fA 1 Tryz.underlying47 rfl ts3 rfl rfl rfl) rfl (oG rfl hy7 (lB 1 ts3 rfl rfl rfl) rfl (oG rfl hy7 (stp_eql rfl rfl) rfl (oG rfl hy5 (stp_pick_f rfl hy7 rfl) rfl ?_)))
    obtain rfl := sI ey7
    exact ow_nil (jy 4 0)
   refine oD (stp_pick_t rfl hy5 rfl) rfl ?_
   obtain rfl := sI ey5
   exact ow_nil (jy 10 0)
  have ey5 := cond_f ey5 hy5
  refine oO rfl hy5 rfl (oO rfl hy5 rfl (oO rfl hy5 rfl (oO rfl hy5 rfl (oO rfl hy5 rfl (oO rfl hy5 rfl (oX rfl rfl rfl (oX rfl rfl rfl (oX rfl rfl rfl (oO rfl hy5 rfl (oO rfl hy5 rfl (oX rfl rfl rfl (oX rfl rfl rfl (oX rfl rfl rfl ?_)))))))))))))
  refine oO rfl hy5 rfl (oD (stp_pick_f rfl hy5 rfl) rfl ?_)
  obtain rfl := sI ey5
  exact ow_nil (jy 16 0)
 refine oS rfl (nn (cw_ret ?_))
 obtain rfl := sI H0
 exact kr Tryz.results74 (rT rfl) [] ⟨rfl, rfl⟩

theorem c_i_CacheValid (fl : Nat) (w : World) (a0 : Ca) (hn0_0 : n0_0 = (a0.l).length) (hr0_0 : RO w (hkeys []) (RdL p0_0 c0_0 a0.l)) (r : Bool) (H0 : i_CacheValid fl a0 = some r) :
  Ct Tryz.prog 37 [.agg #[.slice p0_0 n0_0 c0_0, .int .i64 a0.h]] w [] (fun rv h' => rv = .bool r ∧ h' = []) := by
 subst hn0_0
 unfold i_CacheValid at H0
 refine ct_of_cw Tryz.func37 rfl Tryz.ntmps37 rfl (Sat.refl _ _) ?_
 refine sr (oE (stpU_box 0 rfl rfl) rfl ?_)
 rintro _ _ ⟨b1, rfl, rfl⟩
 obtain ⟨y2, ey2, H0⟩ := bS H0
 refine oS rfl (nn (sr (oA 0 Tryz.underlying29 rfl ts27 rfl (oL 0 ts27 rfl (oD (stp_len Tryz.underlying27 rfl) rfl (oS rfl (nn (cw_seq (sr (oM rfl (oW rfl (oM rfl (ow_cutY 3 17 y2 ?_ ?_)))))))))))))
 ·rcases Bool.eq_false_or_eq_true (decide (((a0.l).length : Int) < 1)) with hy2 | hy2
  ·have ey2 := cond_t ey2 hy2
   refine oO rfl hy2 rfl (oO rfl hy2 rfl (oD (stp_pick_t rfl hy2 rfl) rfl ?_))
   obtain rfl := sI ey2
   exact ow_nil (jy 3 0)
  have ey2 := cond_f ey2 hy2
  refine oG rfl hy2 (mv rfl) rfl (oG rfl hy2 (stp_gtr rfl rfl) rfl (oD (stp_pick_f rfl hy2 rfl) rfl ?_))
  obtain rfl := sI ey2
  exact ow_nil (jy 3 0)
 obtain ⟨y3, ey3, H0⟩ := bS H0
 refine oM rfl (ow_cutY 6 24 y3 ?_ ?_)
 ·rcases Bool.eq_false_or_eq_true y2 with hy3 | hy3
  ·have ey3 := cond_t ey3 hy3
   refine oO rfl hy3 rfl (oO rfl hy3 rfl (oO rfl hy3 rfl (oO rfl hy3 rfl (oO rfl hy3 rfl (oD (stp_pick_t rfl hy3 rfl) rfl ?_)))))
   obtain rfl := sI ey3
   exact ow_nil (jy 6 0)
  have ey3 := cond_f ey3 hy3
  obtain ⟨x4, e4, ey3⟩ := bS ey3
  refine oG rfl hy3 (fA 1 Tryz.underlying29 rfl ts3 rfl rfl rfl) rfl (oG rfl hy3 (lB 0 ts3 rfl rfl rfl) rfl (oG rfl hy3 (mv rfl) rfl (ow_eff (.some rfl hy3) (stpU_call (fun i => 1 + i) cf21 (fun w hw => c_i_within fl w a0.h ((a0.l).length : Int) x4 e4) (yB rfl rfl)) rfl ?_)))
  rintro _ _ ⟨_, ⟨rfl, rfl⟩, rfl⟩
  refine oG rfl hy3 (stp_not rfl) rfl (oD (stp_pick_f rfl hy3 rfl) rfl ?_)
  obtain rfl := sI ey3
  exact ow_nil (jy 6 0)
 refine ow_nil (kw_nx (cw_cond rfl (fun h5 => ?_) (fun h5 => ?_)))
 ·have H0 := cond_t H0 h5
  refine sr (oS rfl (nn (cw_ret (kw_nx_ret ?_))))
  obtain rfl := sI H0
  exact kr Tryz.results37 (rT rfl) [] ⟨rfl, rfl⟩
 have H0 := cond_f H0 h5
 obtain ⟨o0_0, eo0_0, H0⟩ := bS H0
 refine cw_skip (kw_nx (sr (oS rfl (nn (cw_seq (sr (oA 0 Tryz.underlying29 rfl ts27 rfl (oL 0 ts27 rfl (oD (stp_len Tryz.underlying27 rfl) rfl (oM rfl (nn (cw_join (ι := Int × Bool) (fun | (v6, v7) => o0_0 = .out (v6, v7)) (fun | (v6, v7) => [(1, .pointer (some ⟨b1, 0, none⟩)), (4, .bool v7), (26, .slice p0_0 ((a0.l).length) c0_0), (27, .int .i64 ((a0.l).length : Int)), (28, .int .i64 v6)]) (fun | (v6, v7) => [(0, [(b1, .cells #[.slice p0_0 ((a0.l).length) c0_0, .int .i64 a0.h] 29 (0, 0))])]) ?_ ?_))))))))))))
 ·refine cw_block (cw_loopS (ι := Nat × Int × Bool) (js := [0]) (fun x => x.1) (fun | (fuel, v6, v7) => i_CacheValid_L0 fl a0 fuel v6 v7 = some o0_0) (fun | (_, v6, v7) => [(1, .pointer (some ⟨b1, 0, none⟩)), (4, .bool v7), (26, .slice p0_0 ((a0.l).length) c0_0), (27, .int .i64 ((a0.l).length : Int)), (28, .int .i64 v6)]) (fun | (_, v6, v7) => [(0, [(b1, .cells #[.slice p0_0 ((a0.l).length) c0_0, .int .i64 a0.h] 29 (0, 0))])]) (fl, 0, false) eo0_0 ⟨rfl, rfl, rfl, rfl, rfl, trivial⟩ ⟨0, [], rfl, rfl, trivial⟩ (by decide) ?_)
  rintro ⟨fuel, v6, v7⟩ H1
  have H1 : i_CacheValid_L0 fl a0 fuel v6 v7 = some o0_0 := H1
  rcases fuel with _ | fuel
  ·rw [i_CacheValid_L0.eq_1] at H1; cases H1
  rw [i_CacheValid_L0.eq_2] at H1
  dsimp only
  refine sr (oW rfl (nn (cw_seq (cw_cond rfl (fun h8 => ?_) (fun h8 => ?_)))))
  ·have H1 := cond_t H1 h8
   obtain ⟨x9, e9, H1⟩ := bS H1
   refine cw_skip (kw_nx (cw_seq (cw_block (sr (oM rfl (oD (stp_indexAddr Tryz.underlying27 ts47 (by decide) rfl rfl rfl (Rdb.ro hr0_0) e9) rfl (oD (stp_loadN (us := [_, _, _, _, _, _]) ts47 rfl (Cells.el (Rdb.ro hr0_0) (by decide) e9 0 6 rfl)) rfl (oE (stpU_alloc 1 tz47 rfl) rfl ?_))))))))
   rintro _ _ ⟨b10, rfl, rfl⟩
   obtain ⟨x11, e11, H1⟩ := bS H1
   refine oS rfl (oC6 1 ts47 rfl rfl (nn (cw_seq (sr (oB6 1 ts47 rfl (oE (stpU_call (fun i => 2 + i) cf73 (fun w hw => c_i_lineValid fl w x9 x11 e11) (yA rfl)) rfl ?_))))))
   rintro _ _ ⟨_, ⟨rfl, rfl⟩, rfl⟩
   refine oK rfl (nn (cw_cond rfl (fun h12 => ?_) (fun h12 => ?_)))
   ·have H1 := cond_t H1 h12
    refine sr (oS rfl (nn (cw_ret (kw_nx_ret (kw_bl_ret (kw_nx_ret (kw_lq_ret (kw_bl_ret (kw_join_ret (kw_nx_ret ?_))))))))))
    obtain rfl := sI H1
    obtain rfl := sI H0
    exact kr Tryz.results37 (rT rfl) [] ⟨rfl, rfl⟩
   have H1 := cond_f H1 h12
   obtain ⟨x13, e13, H1⟩ := bS H1
   obtain ⟨o1_1, eo1_1, H1⟩ := bS H1
   refine cw_skip (kw_nx (cw_seq (sr (oA 0 Tryz.underlying29 rfl ts27 rfl (oL 0 ts27 rfl (oM rfl (oD (stp_take Tryz.underlying27 ts47 rfl rfl rfl (Rdb.ro hr0_0) e13) rfl (oD (stp_len Tryz.underlying27 rfl) rfl (oM rfl (nn (cw_join (ι := Int) (fun | v14 => o1_1 = .out v14) (fun | v14 => [(1, .pointer (some ⟨b1, 0, none⟩)), (4, .bool v7), (6, .pointer (some ⟨b10, 0, none⟩)), (26, .slice p0_0 ((a0.l).length) c0_0), (27, .int .i64 ((a0.l).length : Int)), (28, .int .i64 v6), (39, .slice p0_0 ((x13).length) c0_0), (40, .int .i64 ((x13).length : Int)), (41, .int .i64 v14)]) (fun | v14 => [(0, [(b1, .cells #[.slice p0_0 ((a0.l).length) c0_0, .int .i64 a0.h] 29 (0, 0))]), (1, [(b10, .cells #[.bool x9.va, .int .i64 x9.tg, .int .i64 x9.pg, .int .i64 x9.fr, .int .i64 x9.ri, .bool x9.wi] 47 (0, 0))])]) ?_ ?_)))))))))))
   ·refine cw_block (cw_loopS (ι := Nat × Int) (js := [0, 1]) (fun x => x.1) (fun | (fuel, v14) => i_CacheValid_L1 fl x9 x13 fuel v14 = some o1_1) (fun | (_, v14) => [(1, .pointer (some ⟨b1, 0, none⟩)), (4, .bool v7), (6, .pointer (some ⟨b10, 0, none⟩)), (26, .slice p0_0 ((a0.l).length) c0_0), (27, .int .i64 ((a0.l).length : Int)), (28, .int .i64 v6), (39, .slice p0_0 ((x13).length) c0_0), (40, .int .i64 ((x13).length : Int)), (41, .int .i64 v14)]) (fun | (_, v14) => [(0, [(b1, .cells #[.slice p0_0 ((a0.l).length) c0_0, .int .i64 a0.h] 29 (0, 0))]), (1, [(b10, .cells #[.bool x9.va, .int .i64 x9.tg, .int .i64 x9.pg, .int .i64 x9.fr, .int .i64 x9.ri, .bool x9.wi] 47 (0, 0))])]) (fl, 0) eo1_1 ⟨rfl, rfl, rfl, rfl, rfl, rfl, rfl, rfl, rfl, trivial⟩ ⟨0, [1], rfl, rfl, 1, [], rfl, rfl, trivial⟩ (by decide) ?_)
    rintro ⟨fuel, v14⟩ H2
    have H2 : i_CacheValid_L1 fl x9 x13 fuel v14 = some o1_1 := H2
    rcases fuel with _ | fuel
    ·rw [i_CacheValid_L1.eq_1] at H2; cases H2
    rw [i_CacheValid_L1.eq_2] at H2
    dsimp only
    refine sr (oW rfl (nn (cw_seq (cw_cond rfl (fun h15 => ?_) (fun h15 => ?_)))))
    ·have H2 := cond_t H2 h15
     obtain ⟨x16, e16, H2⟩ := bS H2
     refine cw_skip (kw_nx (cw_seq (cw_block (sr (oD (stp_indexAddr Tryz.underlying27 ts47 (by decide) rfl rfl rfl (Rdb.ro (RO.take hr0_0 e13)) e16) rfl (oD (stp_loadN (us := [_, _, _, _, _, _]) ts47 rfl (Cells.el (Rdb.ro (RO.take hr0_0 e13)) (by decide) e16 0 6 rfl)) rfl (oE (stpU_alloc 2 tz47 rfl) rfl ?_)))))))
     rintro _ _ ⟨b17, rfl, rfl⟩
     obtain ⟨x18, e18, H2⟩ := bS H2
     refine oC6 2 ts47 rfl rfl (nn (sr (oB6 1 ts47 rfl (oB6 2 ts47 rfl (oE (stpU_call (fun i => 3 + i) cf74 (fun w hw => c_i_clash fl w x9 x16 x18 e18) (yB rfl rfl)) rfl ?_)))))
     rintro _ _ ⟨_, ⟨rfl, rfl⟩, rfl⟩
     refine nn (cw_cond rfl (fun h19 => ?_) (fun h19 => ?_))
     ·have H2 := cond_t H2 h19
      refine sr (oS rfl (nn (cw_ret (kw_bl_ret (kw_nx_ret (kw_lq_ret (kw_bl_ret (kw_join_ret (kw_nx_ret (kw_bl_ret (kw_nx_ret (kw_lq_ret (kw_bl_ret ?_)))))))))))))
      refine kw_join_ret (kw_nx_ret ?_)
      obtain rfl := sI H2
      obtain rfl := sI H1
      obtain rfl := sI H0
      exact kr Tryz.results37 (rT rfl) [] ⟨rfl, rfl⟩
     have H2 := cond_f H2 h19
     obtain ⟨x20, e20, H2⟩ := bS H2
     exact cw_skip (kw_bl_normal (kw_nx (cw_region (oP e20 rfl (oM rfl (ow_nil (kw_lqS (js := [0, 1]) (fuel, x20) H2 (Nat.lt_succ_self _) ⟨rfl, rfl, rfl, rfl, rfl, rfl, rfl, rfl, rfl, trivial⟩ ⟨0, [1], rfl, rfl, 1, [], rfl, rfl, trivial⟩ (by decide))))))))
    have H2 := cond_f H2 h15
    refine cw_exit (kw_nx_exit (kw_lq_exit (kw_bl ?_)))
    obtain rfl := sI H2
    exact kw_joinS (js := [0, 1]) v14 rfl ⟨rfl, rfl, rfl, rfl, rfl, rfl, rfl, rfl, rfl, trivial⟩ ⟨0, [1], rfl, rfl, 1, [], rfl, rfl, trivial⟩ (by decide)
   rintro v14 rfl
   dsimp only
   obtain ⟨y21, ey21, H1⟩ := bS H1
   refine kw_nx (cw_region (oM rfl (oM rfl (ow_cutY 4 54 y21 ?_ ?_))))
   ·rcases Bool.eq_false_or_eq_true v7 with hy21 | hy21
    ·have ey21 := cond_t ey21 hy21
     refine oO rfl hy21 rfl (oO rfl hy21 rfl (oO rfl hy21 rfl (oD (stp_pick_t rfl hy21 rfl) rfl ?_)))
     obtain rfl := sI ey21
     exact ow_nil (jy 4 0)
    have ey21 := cond_f ey21 hy21
    refine oG rfl hy21 (fA 5 Tryz.underlying47 rfl ts4 rfl rfl rfl) rfl (oG rfl hy21 (lB 1 ts4 rfl rfl rfl) rfl (oG rfl hy21 (stp_not rfl) rfl (oD (stp_pick_f rfl hy21 rfl) rfl ?_)))
    obtain rfl := sI ey21
    exact ow_nil (jy 4 0)
   obtain ⟨x22, e22, H1⟩ := bS H1
   exact oS rfl (ow_nil (kw_bl_normal (kw_nx (cw_region (oP e22 rfl (oM rfl (ow_nil (kw_lqS (js := [0]) (fuel, x22, y21) H1 (Nat.lt_succ_self _) ⟨rfl, rfl, rfl, rfl, rfl, trivial⟩ ⟨0, [], rfl, rfl, trivial⟩ (by decide)))))))))
  have H1 := cond_f H1 h8
  refine cw_exit (kw_nx_exit (kw_lq_exit (kw_bl ?_)))
  obtain rfl := sI H1
  exact kw_joinS (js := [0]) (v6, v7) rfl ⟨rfl, rfl, rfl, rfl, rfl, trivial⟩ ⟨0, [], rfl, rfl, trivial⟩ (by decide)
 rintro ⟨v6, v7⟩ rfl
 dsimp only
 refine kw_nx (sr (oM rfl (oS rfl (nn (cw_ret ?_)))))
 obtain rfl := sI H0
 exact kr Tryz.results37 (rT rfl) [] ⟨rfl, rfl⟩

theorem c_i_TagsValid (fl : Nat) (w : World) (a0 : Tg) (hn0_0 : n0_0 = (a0.o).length) (hr0_0 : RO w (hkeys []) (RdL p0_0 c0_0 a0.o)) (r : Bool) (H0 : i_TagsValid fl a0 = some r) :
  Ct Tryz.prog 38 [.agg #[.int .i64 a0.c, .int .i64 a0.n, .int .i64 a0.r, .slice p0_0 n0_0 c0_0]] w [] (fun rv h' => rv = .bool r ∧ h' = []) := by
 subst hn0_0
 unfold i_TagsValid at H0
 refine ct_of_cw Tryz.func38 rfl Tryz.ntmps38 rfl (Sat.refl _ _) ?_
 refine sr (oE (stpU_box 0 rfl rfl) rfl ?_)
 rintro _ _ ⟨b1, rfl, rfl⟩
 obtain ⟨y2, ey2, H0⟩ := bS H0
 refine oS rfl (nn (cw_seq (sr (oA 0 Tryz.underlying32 rfl ts3 rfl (oL 0 ts3 rfl (oW rfl (oM rfl (ow_cutY 4 14 y2 ?_ ?_))))))))
 ·rcases Bool.eq_false_or_eq_true (decide (a0.c < 1)) with hy2 | hy2
  ·have ey2 := cond_t ey2 hy2
   refine oO rfl hy2 rfl (oO rfl hy2 rfl (oO rfl hy2 rfl (oD (stp_pick_t rfl hy2 rfl) rfl ?_)))
   obtain rfl := sI ey2
   exact ow_nil (jy 4 0)
  have ey2 := cond_f ey2 hy2
  refine oG rfl hy2 (fA 0 Tryz.underlying32 rfl ts3 rfl rfl rfl) rfl (oG rfl hy2 (lB 0 ts3 rfl rfl rfl) rfl (oG rfl hy2 (stp_gtr rfl rfl) rfl (oD (stp_pick_f rfl hy2 rfl) rfl ?_)))
  obtain rfl := sI ey2
  exact ow_nil (jy 4 0)
 obtain ⟨y3, ey3, H0⟩ := bS H0
 refine oM rfl (ow_cutY 4 19 y3 ?_ ?_)
 ·rcases Bool.eq_false_or_eq_true y2 with hy3 | hy3
  ·have ey3 := cond_t ey3 hy3
   refine oO rfl hy3 rfl (oO rfl hy3 rfl (oO rfl hy3 rfl (oD (stp_pick_t rfl hy3 rfl) rfl ?_)))
   obtain rfl := sI ey3
   exact ow_nil (jy 4 0)
  have ey3 := cond_f ey3 hy3
  refine oG rfl hy3 (fA 1 Tryz.underlying32 rfl ts3 rfl rfl rfl) rfl (oG rfl hy3 (lB 0 ts3 rfl rfl rfl) rfl (oG rfl hy3 (stp_lss rfl rfl) rfl (oD (stp_pick_f rfl hy3 rfl) rfl ?_)))
  obtain rfl := sI ey3
  exact ow_nil (jy 4 0)
 obtain ⟨y4, ey4, H0⟩ := bS H0
 refine oM rfl (ow_cutY 6 26 y4 ?_ ?_)
 ·rcases Bool.eq_false_or_eq_true y3 with hy4 | hy4
  ·have ey4 := cond_t ey4 hy4
   refine oO rfl hy4 rfl (oO rfl hy4 rfl (oO rfl hy4 rfl (oO rfl hy4 rfl (oO rfl hy4 rfl (oD (stp_pick_t rfl hy4 rfl) rfl ?_)))))
   obtain rfl := sI ey4
   exact ow_nil (jy 6 0)
  have ey4 := cond_f ey4 hy4
  refine oG rfl hy4 (fA 1 Tryz.underlying32 rfl ts3 rfl rfl rfl) rfl (oG rfl hy4 (lB 0 ts3 rfl rfl rfl) rfl (oG rfl hy4 (fA 0 Tryz.underlying32 rfl ts3 rfl rfl rfl) rfl (oG rfl hy4 (lB 0 ts3 rfl rfl rfl) rfl (oG rfl hy4 (stp_gtr rfl rfl) rfl (oD (stp_pick_f rfl hy4 rfl) rfl ?_)))))
  obtain rfl := sI ey4
  exact ow_nil (jy 6 0)
 obtain ⟨y5, ey5, H0⟩ := bS H0
 refine oM rfl (ow_cutY 4 31 y5 ?_ ?_)
 ·rcases Bool.eq_false_or_eq_true y4 with hy5 | hy5
  ·have ey5 := cond_t ey5 hy5
   refine oO rfl hy5 rfl (oO rfl hy5 rfl (oO rfl hy5 rfl (oD (stp_pick_t rfl hy5 rfl) rfl ?_)))
   obtain rfl := sI ey5
   exact ow_nil (jy 4 0)
  have ey5 := cond_f ey5 hy5
  refine oG rfl hy5 (fA 2 Tryz.underlying32 rfl ts3 rfl rfl rfl) rfl (oG rfl hy5 (lB 0 ts3 rfl rfl rfl) rfl (oG rfl hy5 (stp_lss rfl rfl) rfl (oD (stp_pick_f rfl hy5 rfl) rfl ?_)))
  obtain rfl := sI ey5
  exact ow_nil (jy 4 0)
 obtain ⟨y6, ey6, H0⟩ := bS H0
 refine oM rfl (ow_cutY 4 36 y6 ?_ ?_)
 ·rcases Bool.eq_false_or_eq_true y5 with hy6 | hy6
  ·have ey6 := cond_t ey6 hy6
   refine oO rfl hy6 rfl (oO rfl hy6 rfl (oO rfl hy6 rfl (oD (stp_pick_t rfl hy6 rfl) rfl ?_)))
   obtain rfl := sI ey6
   exact ow_nil (jy 4 0)
  have ey6 := cond_f ey6 hy6
  refine oG rfl hy6 (fA 2 Tryz.underlying32 rfl ts3 rfl rfl rfl) rfl (oG rfl hy6 (lB 0 ts3 rfl rfl rfl) rfl (oG rfl hy6 (stp_gtr rfl rfl) rfl (oD (stp_pick_f rfl hy6 rfl) rfl ?_)))
  obtain rfl := sI ey6
  exact ow_nil (jy 4 0)
 refine ow_nil (kw_nx (cw_cond rfl (fun h7 => ?_) (fun h7 => ?_)))
 ·have H0 := cond_t H0 h7
  refine sr (oS rfl (nn (cw_ret (kw_nx_ret ?_))))
  obtain rfl := sI H0
  exact kr Tryz.results38 (rT rfl) [] ⟨rfl, rfl⟩
 have H0 := cond_f H0 h7
 refine cw_skip (kw_nx (sr (oE (stpU_makeMap 1 3) rfl ?_)))
 rintro _ _ ⟨b8, C9, rfl, rfl, o9⟩
 obtain ⟨o0_0, eo0_0, H0⟩ := bS H0
 refine oS rfl (nn (sr (oS rfl (nn (cw_seq (sr (oA 3 Tryz.underlying32 rfl ts30 rfl (oL 0 ts30 rfl (oD (stp_len Tryz.underlying30 rfl) rfl (oM rfl (nn (cw_join (ι := (List Int) × Int × Int × Res) (fun | (v10, v12, v13, C11) => o0_0 = .out (v10, v12, v13) ∧ True ∧ OwnM Tryz.prog 3 b8 v10 C11) (fun | (v10, v12, v13, C11) => [(1, .pointer (some ⟨b1, 0, none⟩)), (3, .map (some b8)), (4, .int .i64 v12), (39, .slice p0_0 ((a0.o).length) c0_0), (40, .int .i64 ((a0.o).length : Int)), (41, .int .i64 v13)]) (fun | (v10, v12, v13, C11) => [(0, [(b1, .cells #[.int .i64 a0.c, .int .i64 a0.n, .int .i64 a0.r, .slice p0_0 ((a0.o).length) c0_0] 32 (0, 0))]), (1, C11)]) ?_ ?_))))))))))))
 ·refine cw_block (cw_loopS (ι := Nat × (List Int) × Int × Int × Res) (js := [0, 1]) (fun x => x.1) (fun | (fuel, v10, v12, v13, C11) => i_TagsValid_L0 fl a0 fuel v10 v12 v13 = some o0_0 ∧ True ∧ OwnM Tryz.prog 3 b8 v10 C11) (fun | (_, v10, v12, v13, C11) => [(1, .pointer (some ⟨b1, 0, none⟩)), (3, .map (some b8)), (4, .int .i64 v12), (39, .slice p0_0 ((a0.o).length) c0_0), (40, .int .i64 ((a0.o).length : Int)), (41, .int .i64 v13)]) (fun | (_, v10, v12, v13, C11) => [(0, [(b1, .cells #[.int .i64 a0.c, .int .i64 a0.n, .int .i64 a0.r, .slice p0_0 ((a0.o).length) c0_0] 32 (0, 0))]), (1, C11)]) (fl, ([] : List Int), (-1), 0, C9) ⟨eo0_0, trivial, o9⟩ ⟨rfl, rfl, rfl, rfl, rfl, rfl, trivial⟩ ⟨0, [1], rfl, rfl, 1, [], rfl, rfl, trivial⟩ (by decide) ?_)
  rintro ⟨fuel, v10, v12, v13, C11⟩ ⟨H1, hl11, o11⟩
  have H1 : i_TagsValid_L0 fl a0 fuel v10 v12 v13 = some o0_0 := H1
  rcases fuel with _ | fuel
  ·rw [i_TagsValid_L0.eq_1] at H1; cases H1
  rw [i_TagsValid_L0.eq_2] at H1
  dsimp only
  refine sr (oW rfl (nn (cw_seq (cw_cond rfl (fun h14 => ?_) (fun h14 => ?_)))))
  ·have H1 := cond_t H1 h14
   obtain ⟨x15, e15, H1⟩ := bS H1
   refine cw_skip (kw_nx (cw_seq (cw_block (sr (oD (stp_indexAddr Tryz.underlying30 ts89 (by decide) rfl rfl rfl (Rdb.ro hr0_0) e15) rfl (oD (stp_loadN (us := [_, _]) ts89 rfl (Cells.el (Rdb.ro hr0_0) (by decide) e15 0 2 rfl)) rfl (oE (stpU_alloc 2 tz89 rfl) rfl ?_)))))))
   rintro _ _ ⟨b16, rfl, rfl⟩
   obtain ⟨y17, ey17, H1⟩ := bS H1
   refine oC2 2 ts89 rfl rfl (nn (cw_seq (sr (oA 1 Tryz.underlying89 rfl ts3 rfl (oL 2 ts3 rfl (oM rfl (oV rfl (oM rfl (ow_cutY 6 55 y17 ?_ ?_)))))))))
   ·rcases Bool.eq_false_or_eq_true (decide (x15.tg ≤ v12)) with hy17 | hy17
    ·have ey17 := cond_t ey17 hy17
     refine oO rfl hy17 rfl (oO rfl hy17 rfl (oO rfl hy17 rfl (oO rfl hy17 rfl (oO rfl hy17 rfl (oD (stp_pick_t rfl hy17 rfl) rfl ?_)))))
     obtain rfl := sI ey17
     exact ow_nil (jy 6 0)
    have ey17 := cond_f ey17 hy17
    refine oG rfl hy17 (fA 1 Tryz.underlying89 rfl ts3 rfl rfl rfl) rfl (oG rfl hy17 (lB 2 ts3 rfl rfl rfl) rfl (oG rfl hy17 (fA 1 Tryz.underlying32 rfl ts3 rfl rfl rfl) rfl (oG rfl hy17 (lB 0 ts3 rfl rfl rfl) rfl (oG rfl hy17 (stp_geq rfl rfl) rfl (oD (stp_pick_f rfl hy17 rfl) rfl ?_)))))
    obtain rfl := sI ey17
    exact ow_nil (jy 6 0)
   obtain ⟨y18, ey18, H1⟩ := bS H1
   refine oM rfl (ow_cutY 5 61 y18 ?_ ?_)
   ·rcases Bool.eq_false_or_eq_true y17 with hy18 | hy18
    ·have ey18 := cond_t ey18 hy18
     refine oO rfl hy18 rfl (oO rfl hy18 rfl (oO rfl hy18 rfl (oO rfl hy18 rfl (oD (stp_pick_t rfl hy18 rfl) rfl ?_))))
     obtain rfl := sI ey18
     exact ow_nil (jy 5 0)
    have ey18 := cond_f ey18 hy18
    obtain ⟨x19, e19, ey18⟩ := bS ey18
    refine oG rfl hy18 (fA 0 Tryz.underlying89 rfl ts3 rfl rfl rfl) rfl (oG rfl hy18 (lB 2 ts3 rfl rfl rfl) rfl (ow_eff (.some rfl hy18) (stpU_call (fun i => 3 + i) cf21 (fun w hw => c_i_within fl w x15.sp 16 x19 e19) (yB rfl rfl)) rfl ?_))
    rintro _ _ ⟨_, ⟨rfl, rfl⟩, rfl⟩
    refine oG rfl hy18 (stp_not rfl) rfl (oD (stp_pick_f rfl hy18 rfl) rfl ?_)
    obtain rfl := sI ey18
    exact ow_nil (jy 5 0)
   obtain ⟨y20, ey20, H1⟩ := bS H1
   refine oM rfl (ow_cutY 5 67 y20 ?_ ?_)
   ·rcases Bool.eq_false_or_eq_true y18 with hy20 | hy20
    ·have ey20 := cond_t ey20 hy20
     refine oO rfl hy20 rfl (oO rfl hy20 rfl (oO rfl hy20 rfl (oO rfl hy20 rfl (oD (stp_pick_t rfl hy20 rfl) rfl ?_))))
     obtain rfl := sI ey20
     exact ow_nil (jy 5 0)
    have ey20 := cond_f ey20 hy20
    obtain ⟨x21, e21, ey20⟩ := bS ey20
    refine oG rfl hy20 (mv rfl) rfl (oG rfl hy20 (fA 0 Tryz.underlying89 rfl ts3 rfl rfl rfl) rfl (oG rfl hy20 (lB 2 ts3 rfl rfl rfl) rfl (oG rfl hy20 (stp_has (id := 1) keyInt isKeyInt Tryz.underlying108 tz4 rfl rfl rfl o11 e21) rfl (oD (stp_pick_f rfl hy20 rfl) rfl ?_))))
    obtain rfl := sI ey20
    exact ow_nil (jy 5 0)
   refine ow_nil (kw_nx (cw_cond rfl (fun h22 => ?_) (fun h22 => ?_)))
   ·have H1 := cond_t H1 h22
    refine sr (oS rfl (nn (cw_ret (kw_nx_ret (kw_bl_ret (kw_nx_ret (kw_lq_ret (kw_bl_ret (kw_join_ret (kw_nx_ret ?_))))))))))
    obtain rfl := sI H1
    obtain rfl := sI H0
    exact kr Tryz.results38 (rT rfl) [] ⟨rfl, rfl⟩
   have H1 := cond_f H1 h22
   obtain ⟨x23, e23, H1⟩ := bS H1
   refine cw_skip (kw_nx (sr (oA 1 Tryz.underlying89 rfl ts3 rfl (oL 2 ts3 rfl (oS rfl (nn (cw_region (oM rfl (oA 0 Tryz.underlying89 rfl ts3 rfl (oL 2 ts3 rfl (oF (stpU_add (id := 1) keyInt isKeyInt Tryz.underlying108 rfl rfl rfl rfl o11 e23) ?_)))))))))))
   rintro _ _ ⟨C24, rfl, o24⟩
   obtain ⟨x25, e25, H1⟩ := bS H1
   exact ow_nil (kw_bl_normal (kw_nx (cw_region (oP e25 rfl (oM rfl (ow_nil (kw_lqS (js := [0, 1]) (fuel, x23, x15.tg, x25, C24) ⟨H1, trivial, o24⟩ (Nat.lt_succ_self _) ⟨rfl, rfl, rfl, rfl, rfl, rfl, trivial⟩ ⟨0, [1], rfl, rfl, 1, [], rfl, rfl, trivial⟩ (by decide))))))))
  have H1 := cond_f H1 h14
  refine cw_exit (kw_nx_exit (kw_lq_exit (kw_bl ?_)))
  obtain rfl := sI H1
  exact kw_joinS (js := [0, 1]) (v10, v12, v13, C11) ⟨rfl, trivial, o11⟩ ⟨rfl, rfl, rfl, rfl, rfl, rfl, trivial⟩ ⟨0, [1], rfl, rfl, 1, [], rfl, rfl, trivial⟩ (by decide)
 rintro ⟨v10, v12, v13, C11⟩ ⟨rfl, hl11, o11⟩
 dsimp only
 refine kw_nx (sr (oS rfl (nn (cw_ret ?_))))
 obtain rfl := sI H0
 exact kr Tryz.results38 (rT rfl) [] ⟨rfl, rfl⟩

theorem c_i_Tags_own_1 (fl : Nat) (w : World) (a0 : Ow) (qc0 : Nat) (ac0 : Int) (hbac0 : RO w (hkeys []) (fun w' => w'.rangeAt qc0 0 [.int .i64 ac0])) (r : Bool) (H0 : i_Tags_own_1 fl a0 ac0 = some r) :
  Ct Tryz.prog 76 [.agg #[.int .i64 a0.sp, .int .i64 a0.tg], .pointer (some ⟨qc0, 0, none⟩)] w [] (fun rv h' => rv = .bool r ∧ h' = []) := by
 unfold i_Tags_own_1 at H0
 refine ct_of_cw Tryz.func76 rfl Tryz.ntmps76 rfl (Sat.refl _ _) ?_
 refine sr (oE (stpU_box 0 rfl rfl) rfl ?_)
 rintro _ _ ⟨b1, rfl, rfl⟩
 refine oS rfl (nn (sr (oA 0 Tryz.underlying89 rfl ts3 rfl (oL 0 ts3 rfl (oD (stp_load1 ts3 rfl (Cells.ofRO hbac0 1 rfl)) rfl (oQ rfl (oS rfl (nn (cw_ret ?_)))))))))
 obtain rfl := sI H0
 exact kr Tryz.results76 (rT rfl) [] ⟨rfl, rfl⟩

theorem c_slices_IndexFunc_Own_of_i_Tags_own_1 (fl : Nat) (w : World) (a0 : (List Ow)) (q1_0 : Nat) (a1_0 : Int) (hn0_0 : n0_0 = (a0).length) (hr0_0 : RO w (hkeys []) (RdL p0_0 c0_0 a0)) (hba1_0 : RO w (hkeys []) (fun w' => w'.rangeAt q1_0 0 [.int .i64 a1_0])) (r : Int) (H0 : slices_IndexFunc_Own_of_i_Tags_own_1 fl a0 a1_0 = some r) :
  Ct Tryz.prog 75 [.slice p0_0 n0_0 c0_0, .func (.func 76) #[] #[.pointer (some ⟨q1_0, 0, none⟩)]] w [] (fun rv h' => rv = .int .i64 r ∧ h' = []) := by
 subst hn0_0
 unfold slices_IndexFunc_Own_of_i_Tags_own_1 at H0
 refine ct_of_cw Tryz.func75 rfl Tryz.ntmps75 rfl (Sat.refl _ _) ?_
 obtain ⟨o0_0, eo0_0, H0⟩ := bS H0
 refine sr (oS rfl (nn (cw_seq (sr (oM rfl (oD (stp_len Tryz.underlying30 rfl) rfl (oM rfl (nn (cw_join (ι := Int) (fun | v1 => o0_0 = .out v1) (fun | v1 => [(0, .slice p0_0 ((a0).length) c0_0), (1, .func (.func 76) #[] #[.pointer (some ⟨q1_0, 0, none⟩)]), (7, .int .i64 ((a0).length : Int)), (8, .int .i64 v1)]) (fun | v1 => []) ?_ ?_)))))))))
 ·refine cw_block (cw_loopS (ι := Nat × Int) (js := []) (fun x => x.1) (fun | (fuel, v1) => slices_IndexFunc_Own_of_i_Tags_own_1_L0 fl a0 a1_0 fuel v1 = some o0_0) (fun | (_, v1) => [(0, .slice p0_0 ((a0).length) c0_0), (1, .func (.func 76) #[] #[.pointer (some ⟨q1_0, 0, none⟩)]), (7, .int .i64 ((a0).length : Int)), (8, .int .i64 v1)]) (fun | (_, v1) => []) (fl, 0) eo0_0 ⟨rfl, rfl, rfl, rfl, trivial⟩ trivial (by decide) ?_)
  rintro ⟨fuel, v1⟩ H1
  have H1 : slices_IndexFunc_Own_of_i_Tags_own_1_L0 fl a0 a1_0 fuel v1 = some o0_0 := H1
  rcases fuel with _ | fuel
  ·rw [slices_IndexFunc_Own_of_i_Tags_own_1_L0.eq_1] at H1; cases H1
  rw [slices_IndexFunc_Own_of_i_Tags_own_1_L0.eq_2] at H1
  dsimp only
  refine sr (oW rfl (nn (cw_seq (cw_cond rfl (fun h2 => ?_) (fun h2 => ?_)))))
  ·have H1 := cond_t H1 h2
   obtain ⟨x3, e3, H1⟩ := bS H1
   refine cw_skip (kw_nx (cw_seq (cw_block (sr (oM rfl (oS rfl (nn (sr (oM rfl (oM rfl (oM rfl (oD (stp_indexAddr Tryz.underlying30 ts89 (by decide) rfl rfl rfl (Rdb.ro hr0_0) e3) rfl (oD (stp_loadN (us := [_, _]) ts89 rfl (Cells.el (Rdb.ro hr0_0) (by decide) e3 0 2 rfl)) rfl ?_)))))))))))))
   obtain ⟨x4, e4, H1⟩ := bS H1
   refine oE (stpU_callF (vals := [_]) (ca := [_]) (fun i => 0 + i) cf76 (fun w hw => c_i_Tags_own_1 fl w x3 q1_0 a1_0 (RO.pass hba1_0 hw) x4 e4) rfl (yA rfl)) rfl ?_
   rintro _ _ ⟨_, ⟨rfl, rfl⟩, rfl⟩
   refine nn (cw_cond rfl (fun h5 => ?_) (fun h5 => ?_))
   ·have H1 := cond_t H1 h5
    refine sr (oM rfl (oS rfl (nn (cw_ret (kw_bl_ret (kw_nx_ret (kw_lq_ret (kw_bl_ret (kw_join_ret (kw_nx_ret ?_))))))))))
    obtain rfl := sI H1
    obtain rfl := sI H0
    exact kr Tryz.results75 (rT rfl) [] ⟨rfl, rfl⟩
   have H1 := cond_f H1 h5
   obtain ⟨x6, e6, H1⟩ := bS H1
   exact cw_skip (kw_bl_normal (kw_nx (cw_region (oP e6 rfl (oM rfl (ow_nil (kw_lqS (js := []) (fuel, x6) H1 (Nat.lt_succ_self _) ⟨rfl, rfl, rfl, rfl, trivial⟩ trivial (by decide))))))))
  have H1 := cond_f H1 h2
  refine cw_exit (kw_nx_exit (kw_lq_exit (kw_bl ?_)))
  obtain rfl := sI H1
  exact kw_joinS (js := []) v1 rfl ⟨rfl, rfl, rfl, rfl, trivial⟩ trivial (by decide)
 rintro v1 rfl
 dsimp only
 refine kw_nx (sr (oS rfl (nn (cw_ret ?_))))
 obtain rfl := sI H0
 exact kr Tryz.results75 (rT rfl) [] ⟨rfl, rfl⟩

theorem c_i_Tags_own (fl : Nat) (w : World) (a0 : Tg) (a1 : Int) (hn0_0 : n0_0 = (a0.o).length) (hr0_0 : RO w (hkeys []) (RdL p0_0 c0_0 a0.o)) (r : Int) (H0 : i_Tags_own fl a0 a1 = some r) :
  Ct Tryz.prog 39 [.agg #[.int .i64 a0.c, .int .i64 a0.n, .int .i64 a0.r, .slice p0_0 n0_0 c0_0], .int .i64 a1] w [] (fun rv h' => rv = .int .i64 r ∧ h' = []) := by
 subst hn0_0
 unfold i_Tags_own at H0
 refine ct_of_cw Tryz.func39 rfl Tryz.ntmps39 rfl (Sat.refl _ _) ?_
 refine sr (oE (stpU_box 0 rfl rfl) rfl ?_)
 rintro _ _ ⟨b1, rfl, rfl⟩
 refine oE (stpU_box 1 rfl rfl) rfl ?_
 rintro _ _ ⟨b2, rfl, rfl⟩
 obtain ⟨x3, e3, H0⟩ := bS H0
 refine oS rfl (nn (sr (oA 3 Tryz.underlying32 rfl ts30 rfl (oL 0 ts30 rfl (oD (stp_makeFunc (yA rfl)) rfl (oE (stpU_call (fun i => 2 + i) cf75 (fun w hw => c_slices_IndexFunc_Own_of_i_Tags_own_1 fl w a0.o b2 a1 rfl (RO.pass hr0_0 hw) (box_pass (id := 1) rfl hw) x3 e3) (yB rfl rfl)) rfl ?_))))))
 rintro _ _ ⟨_, ⟨rfl, rfl⟩, rfl⟩
 refine oS rfl (nn (cw_ret ?_))
 obtain rfl := sI H0
 exact kr Tryz.results39 (rT rfl) [] ⟨rfl, rfl⟩

theorem c_i_SpaceOf (fl : Nat) (w : World) (a0 : Tg) (a1 : Int) (hn0_0 : n0_0 = (a0.o).length) (hr0_0 : RO w (hkeys []) (RdL p0_0 c0_0 a0.o)) (r : Int × Bool) (H0 : i_SpaceOf fl a0 a1 = some r) :
  Ct Tryz.prog 40 [.agg #[.int .i64 a0.c, .int .i64 a0.n, .int .i64 a0.r, .slice p0_0 n0_0 c0_0], .int .i64 a1] w [] (fun rv h' => rv = .tuple #[.int .i64 r.1, .bool r.2] ∧ h' = []) := by
 subst hn0_0
 unfold i_SpaceOf at H0
 refine ct_of_cw Tryz.func40 rfl Tryz.ntmps40 rfl (Sat.refl _ _) ?_
 refine sr (oE (stpU_box 0 rfl rfl) rfl ?_)
 rintro _ _ ⟨b1, rfl, rfl⟩
 obtain ⟨x2, e2, H0⟩ := bS H0
 refine oS rfl (oS rfl (nn (cw_seq (sr (oB4 0 ts32 rfl (oE (stpU_call (fun i => 1 + i) cf38 (fun w hw => c_i_TagsValid fl w a0 rfl (RO.pass hr0_0 hw) x2 e2) (yA rfl)) rfl ?_))))))
 rintro _ _ ⟨_, ⟨rfl, rfl⟩, rfl⟩
 refine oK rfl (nn (cw_cond rfl (fun h3 => ?_) (fun h3 => ?_)))
 ·have H0 := cond_t H0 h3
  refine sr (oS rfl (oS rfl (nn (cw_ret (kw_nx_ret ?_)))))
  obtain rfl := sI H0
  exact kr Tryz.results40 (.cons (.tmp rfl) (rT rfl)) [] ⟨rfl, rfl⟩
 have H0 := cond_f H0 h3
 obtain ⟨o0_0, eo0_0, H0⟩ := bS H0
 refine cw_skip (kw_nx (cw_seq (sr (oA 3 Tryz.underlying32 rfl ts30 rfl (oL 0 ts30 rfl (oD (stp_len Tryz.underlying30 rfl) rfl (oM rfl (nn (cw_join (ι := Int) (fun | v4 => o0_0 = .out v4) (fun | v4 => [(1, .int .i64 a1), (12, .slice p0_0 ((a0.o).length) c0_0), (13, .int .i64 ((a0.o).length : Int)), (14, .int .i64 v4)]) (fun | v4 => []) ?_ ?_)))))))))
 ·refine cw_block (cw_loopS (ι := Nat × Int) (js := []) (fun x => x.1) (fun | (fuel, v4) => i_SpaceOf_L0 fl a0 a1 fuel v4 = some o0_0) (fun | (_, v4) => [(1, .int .i64 a1), (12, .slice p0_0 ((a0.o).length) c0_0), (13, .int .i64 ((a0.o).length : Int)), (14, .int .i64 v4)]) (fun | (_, v4) => []) (fl, 0) eo0_0 ⟨rfl, rfl, rfl, rfl, trivial⟩ trivial (by decide) ?_)
  rintro ⟨fuel, v4⟩ H1
  have H1 : i_SpaceOf_L0 fl a0 a1 fuel v4 = some o0_0 := H1
  rcases fuel with _ | fuel
  ·rw [i_SpaceOf_L0.eq_1] at H1; cases H1
  rw [i_SpaceOf_L0.eq_2] at H1
  dsimp only
  refine sr (oW rfl (nn (cw_seq (cw_cond rfl (fun h5 => ?_) (fun h5 => ?_)))))
  ·have H1 := cond_t H1 h5
   obtain ⟨x6, e6, H1⟩ := bS H1
   refine cw_skip (kw_nx (cw_seq (cw_block (sr (oD (stp_indexAddr Tryz.underlying30 ts89 (by decide) rfl rfl rfl (Rdb.ro hr0_0) e6) rfl (oD (stp_loadN (us := [_, _]) ts89 rfl (Cells.el (Rdb.ro hr0_0) (by decide) e6 0 2 rfl)) rfl (oE (stpU_alloc 1 tz89 rfl) rfl ?_)))))))
   rintro _ _ ⟨b7, rfl, rfl⟩
   refine oC2 1 ts89 rfl rfl (nn (sr (oA 1 Tryz.underlying89 rfl ts3 rfl (oL 1 ts3 rfl (oM rfl (oQ rfl (nn (cw_cond rfl (fun h8 => ?_) (fun h8 => ?_)))))))))
   ·have H1 := cond_t H1 h8
    refine sr (oA 0 Tryz.underlying89 rfl ts3 rfl (oL 1 ts3 rfl (oS rfl (oS rfl (nn (cw_ret (kw_bl_ret (kw_nx_ret (kw_lq_ret (kw_bl_ret (kw_join_ret (kw_nx_ret ?_))))))))))))
    obtain rfl := sI H1
    obtain rfl := sI H0
    exact kr Tryz.results40 (.cons (.tmp rfl) (rT rfl)) [] ⟨rfl, rfl⟩
   have H1 := cond_f H1 h8
   obtain ⟨x9, e9, H1⟩ := bS H1
   exact cw_skip (kw_bl_normal (kw_nx (cw_region (oP e9 rfl (oM rfl (ow_nil (kw_lqS (js := []) (fuel, x9) H1 (Nat.lt_succ_self _) ⟨rfl, rfl, rfl, rfl, trivial⟩ trivial (by decide))))))))
  have H1 := cond_f H1 h5
  refine cw_exit (kw_nx_exit (kw_lq_exit (kw_bl ?_)))
  obtain rfl := sI H1
  exact kw_joinS (js := []) v4 rfl ⟨rfl, rfl, rfl, rfl, trivial⟩ trivial (by decide)
 rintro v4 rfl
 dsimp only
 refine kw_nx (sr (oS rfl (oS rfl (nn (cw_ret ?_)))))
 obtain rfl := sI H0
 exact kr Tryz.results40 (.cons (.tmp rfl) (rT rfl)) [] ⟨rfl, rfl⟩

theorem c_i_KeyFor (fl : Nat) (w : World) (a0 : Int) (a1 : Int) (r : K) (H0 : i_KeyFor fl a0 a1 = some r) :
  Ct Tryz.prog 42 [.int .i64 a0, .int .i64 a1] w [] (fun rv h' => rv = .agg #[.int .i64 r.s, .int .i64 r.p] ∧ h' = []) := by
 unfold i_KeyFor at H0
 refine ct_of_cw Tryz.func42 rfl Tryz.ntmps42 rfl (Sat.refl _ _) ?_
 refine sr (oE (stpU_alloc 0 tz49 rfl) rfl ?_)
 rintro _ _ ⟨b1, rfl, rfl⟩
 refine nn (cw_seq (sr (oM rfl (oI rfl (nn (cw_cond rfl (fun h2 => ?_) (fun h2 => ?_)))))))
 ·have H0 := cond_t H0 h2
  refine cw_region (oS rfl (nn (sr (oM rfl (oM rfl (oD (stp_build (cs := #[.int .i64 0, .int .i64 a1]) (sevp_cons rfl (sevp_cons rfl sevp_nil)) bt49_13) rfl (oC2 0 ts49 rfl rfl (nn (cw_ret ?_)))))))))
  obtain rfl := sI H0
  exact kr Tryz.results42 (rC2 0 ts49 rfl rfl) [] ⟨rfl, rfl⟩
 have H0 := cond_f H0 h2
 refine cw_skip (kw_nx (sr (oM rfl (oM rfl (oD (stp_build (cs := #[.int .i64 a0, .int .i64 a1]) (sevp_cons rfl (sevp_cons rfl sevp_nil)) bt49_13) rfl (oC2 0 ts49 rfl rfl (nn (cw_ret ?_))))))))
 obtain rfl := sI H0
 exact kr Tryz.results42 (rC2 0 ts49 rfl rfl) [] ⟨rfl, rfl⟩

theorem c_i_Table_find_1 (fl : Nat) (w : World) (a0 : F) (qc0 : Nat) (ac0 : K) (hbac0 : RO w (hkeys []) (fun w' => w'.rangeAt qc0 0 [.int .i64 ac0.s, .int .i64 ac0.p])) (r : Bool) (H0 : i_Table_find_1 fl a0 ac0 = some r) :
  Ct Tryz.prog 78 [.agg #[.bool a0.u, .int .i64 a0.k.s, .int .i64 a0.k.p, .int .i64 a0.r, .int .i64 a0.nx], .pointer (some ⟨qc0, 0, none⟩)] w [] (fun rv h' => rv = .bool r ∧ h' = []) := by
 unfold i_Table_find_1 at H0
 refine ct_of_cw Tryz.func78 rfl Tryz.ntmps78 rfl (Sat.refl _ _) ?_
 refine sr (oE (stpU_box 0 rfl rfl) rfl ?_)
 rintro _ _ ⟨b1, rfl, rfl⟩
 obtain ⟨y2, ey2, H0⟩ := bS H0
 refine oS rfl (nn (sr (oA 0 Tryz.underlying51 rfl ts4 rfl (oL 0 ts4 rfl (oM rfl (ow_cutY 5 11 y2 ?_ ?_))))))
 ·rcases Bool.eq_false_or_eq_true a0.u with hy2 | hy2
  ·have ey2 := cond_t ey2 hy2
   refine oG rfl hy2 (fA 1 Tryz.underlying51 rfl ts49 rfl rfl rfl) rfl (oG rfl hy2 (stp_loadN (us := [_, _]) ts49 rfl (Cells.box (id := 0) rfl 2 rfl)) rfl (oG rfl hy2 (stp_loadN (us := [_, _]) ts49 rfl (Cells.ofRO hbac0 2 rfl)) rfl (oG rfl hy2 (stp_eqlS te49 a0.k ac0 rfl rfl) rfl (oD (stp_pick_t rfl hy2 rfl) rfl ?_))))
   obtain rfl := sI ey2
   exact ow_nil (jy 5 0)
  have ey2 := cond_f ey2 hy2
  refine oO rfl hy2 rfl (oO rfl hy2 rfl (oO rfl hy2 rfl (oO rfl hy2 rfl (oD (stp_pick_f rfl hy2 rfl) rfl ?_))))
  obtain rfl := sI ey2
  exact ow_nil (jy 5 0)
 refine oS rfl (nn (cw_ret ?_))
 obtain rfl := sI H0
 exact kr Tryz.results78 (rT rfl) [] ⟨rfl, rfl⟩

theorem c_slices_IndexFunc_Frame_of_i_Table_find_1 (fl : Nat) (w : World) (a0 : (List F)) (q1_0 : Nat) (a1_0 : K) (hn0_0 : n0_0 = (a0).length) (hr0_0 : RO w (hkeys []) (RdL p0_0 c0_0 a0)) (hba1_0 : RO w (hkeys []) (fun w' => w'.rangeAt q1_0 0 [.int .i64 a1_0.s, .int .i64 a1_0.p])) (r : Int) (H0 : slices_IndexFunc_Frame_of_i_Table_find_1 fl a0 a1_0 = some r) :
  Ct Tryz.prog 77 [.slice p0_0 n0_0 c0_0, .func (.func 78) #[] #[.pointer (some ⟨q1_0, 0, none⟩)]] w [] (fun rv h' => rv = .int .i64 r ∧ h' = []) := by
 subst hn0_0
 unfold slices_IndexFunc_Frame_of_i_Table_find_1 at H0
 refine ct_of_cw Tryz.func77 rfl Tryz.ntmps77 rfl (Sat.refl _ _) ?_
 obtain ⟨o0_0, eo0_0, H0⟩ := bS H0
 refine sr (oS rfl (nn (cw_seq (sr (oM rfl (oD (stp_len Tryz.underlying24 rfl) rfl (oM rfl (nn (cw_join (ι := Int) (fun | v1 => o0_0 = .out v1) (fun | v1 => [(0, .slice p0_0 ((a0).length) c0_0), (1, .func (.func 78) #[] #[.pointer (some ⟨q1_0, 0, none⟩)]), (7, .int .i64 ((a0).length : Int)), (8, .int .i64 v1)]) (fun | v1 => []) ?_ ?_)))))))))
 ·refine cw_block (cw_loopS (ι := Nat × Int) (js := []) (fun x => x.1) (fun | (fuel, v1) => slices_IndexFunc_Frame_of_i_Table_find_1_L0 fl a0 a1_0 fuel v1 = some o0_0) (fun | (_, v1) => [(0, .slice p0_0 ((a0).length) c0_0), (1, .func (.func 78) #[] #[.pointer (some ⟨q1_0, 0, none⟩)]), (7, .int .i64 ((a0).length : Int)), (8, .int .i64 v1)]) (fun | (_, v1) => []) (fl, 0) eo0_0 ⟨rfl, rfl, rfl, rfl, trivial⟩ trivial (by decide) ?_)
  rintro ⟨fuel, v1⟩ H1
  have H1 : slices_IndexFunc_Frame_of_i_Table_find_1_L0 fl a0 a1_0 fuel v1 = some o0_0 := H1
  rcases fuel with _ | fuel
  ·rw [slices_IndexFunc_Frame_of_i_Table_find_1_L0.eq_1] at H1; cases H1
  rw [slices_IndexFunc_Frame_of_i_Table_find_1_L0.eq_2] at H1
  dsimp only
  refine sr (oW rfl (nn (cw_seq (cw_cond rfl (fun h2 => ?_) (fun h2 => ?_)))))
  ·have H1 := cond_t H1 h2
   obtain ⟨x3, e3, H1⟩ := bS H1
   refine cw_skip (kw_nx (cw_seq (cw_block (sr (oM rfl (oS rfl (nn (sr (oM rfl (oM rfl (oM rfl (oD (stp_indexAddr Tryz.underlying24 ts51 (by decide) rfl rfl rfl (Rdb.ro hr0_0) e3) rfl (oD (stp_loadN (us := [_, _, _, _, _]) ts51 rfl (Cells.el (Rdb.ro hr0_0) (by decide) e3 0 5 rfl)) rfl ?_)))))))))))))
   obtain ⟨x4, e4, H1⟩ := bS H1
   refine oE (stpU_callF (vals := [_]) (ca := [_]) (fun i => 0 + i) cf78 (fun w hw => c_i_Table_find_1 fl w x3 q1_0 a1_0 (RO.pass hba1_0 hw) x4 e4) rfl (yA rfl)) rfl ?_
   rintro _ _ ⟨_, ⟨rfl, rfl⟩, rfl⟩
   refine nn (cw_cond rfl (fun h5 => ?_) (fun h5 => ?_))
   ·have H1 := cond_t H1 h5
    refine sr (oM rfl (oS rfl (nn (cw_ret (kw_bl_ret (kw_nx_ret (kw_lq_ret (kw_bl_ret (kw_join_ret (kw_nx_ret ?_))))))))))
    obtain rfl := sI H1
    obtain rfl := sI H0
    exact kr Tryz.results77 (rT rfl) [] ⟨rfl, rfl⟩
   have H1 := cond_f H1 h5
   obtain ⟨x6, e6, H1⟩ := bS H1
   exact cw_skip (kw_bl_normal (kw_nx (cw_region (oP e6 rfl (oM rfl (ow_nil (kw_lqS (js := []) (fuel, x6) H1 (Nat.lt_succ_self _) ⟨rfl, rfl, rfl, rfl, trivial⟩ trivial (by decide))))))))
  have H1 := cond_f H1 h2
  refine cw_exit (kw_nx_exit (kw_lq_exit (kw_bl ?_)))
  obtain rfl := sI H1
  exact kw_joinS (js := []) v1 rfl ⟨rfl, rfl, rfl, rfl, trivial⟩ trivial (by decide)
 rintro v1 rfl
 dsimp only
 refine kw_nx (sr (oS rfl (nn (cw_ret ?_))))
 obtain rfl := sI H0
 exact kr Tryz.results77 (rT rfl) [] ⟨rfl, rfl⟩

theorem c_i_Table_find (fl : Nat) (w : World) (a0 : T) (a1 : K) (hn0_0 : n0_0 = (a0.b).length) (hr0_0 : RO w (hkeys []) (RdL p0_0 c0_0 a0.b)) (hn0_1 : n0_1 = (a0.f).length) (hr0_1 : RO w (hkeys []) (RdL p0_1 c0_1 a0.f)) (r : Int) (H0 : i_Table_find fl a0 a1 = some r) :
  Ct Tryz.prog 41 [.agg #[.slice p0_0 n0_0 c0_0, .slice p0_1 n0_1 c0_1], .agg #[.int .i64 a1.s, .int .i64 a1.p]] w [] (fun rv h' => rv = .int .i64 r ∧ h' = []) := by
 subst hn0_0 hn0_1
 unfold i_Table_find at H0
 refine ct_of_cw Tryz.func41 rfl Tryz.ntmps41 rfl (Sat.refl _ _) ?_
 refine sr (oE (stpU_box 0 rfl rfl) rfl ?_)
 rintro _ _ ⟨b1, rfl, rfl⟩
 refine oE (stpU_box 1 rfl rfl) rfl ?_
 rintro _ _ ⟨b2, rfl, rfl⟩
 obtain ⟨x3, e3, H0⟩ := bS H0
 refine oS rfl (nn (sr (oA 1 Tryz.underlying26 rfl ts24 rfl (oL 0 ts24 rfl (oD (stp_makeFunc (yA rfl)) rfl (oE (stpU_call (fun i => 2 + i) cf77 (fun w hw => c_slices_IndexFunc_Frame_of_i_Table_find_1 fl w a0.f b2 a1 rfl (RO.pass hr0_1 hw) (box_pass (id := 1) rfl hw) x3 e3) (yB rfl rfl)) rfl ?_))))))
 rintro _ _ ⟨_, ⟨rfl, rfl⟩, rfl⟩
 refine oS rfl (nn (cw_ret ?_))
 obtain rfl := sI H0
 exact kr Tryz.results41 (rT rfl) [] ⟨rfl, rfl⟩

theorem c_i_MachineValid (fl : Nat) (w : World) (a0 : Mc) (hn0_0 : n0_0 = (a0.t.b).length) (hr0_0 : RO w (hkeys []) (RdL p0_0 c0_0 a0.t.b)) (hn0_1 : n0_1 = (a0.t.f).length) (hr0_1 : RO w (hkeys []) (RdL p0_1 c0_1 a0.t.f)) (hn0_2 : n0_2 = (a0.c.l).length) (hr0_2 : RO w (hkeys []) (RdL p0_2 c0_2 a0.c.l)) (hn0_3 : n0_3 = (a0.g.o).length) (hr0_3 : RO w (hkeys []) (RdL p0_3 c0_3 a0.g.o)) (hg : RO w (hkeys []) (fun w' => w'.rangeAt 0 0 [.bool false, .int .i64 0, .int .i64 0, .int .i64 0, .int .i64 (-1)])) (r : Bool) (H0 : i_MachineValid fl a0 = some r) :
  Ct Tryz.prog 20 [.agg #[.slice p0_0 n0_0 c0_0, .slice p0_1 n0_1 c0_1, .slice p0_2 n0_2 c0_2, .int .i64 a0.c.h, .int .i64 a0.g.c, .int .i64 a0.g.n, .int .i64 a0.g.r, .slice p0_3 n0_3 c0_3, .int .i64 a0.s]] w [] (fun rv h' => rv = .bool r ∧ h' = []) := by
 subst hn0_0 hn0_1 hn0_2 hn0_3
 unfold i_MachineValid at H0
 refine ct_of_cw Tryz.func20 rfl Tryz.ntmps20 rfl (Sat.refl _ _) ?_
 refine sr (oE (stpU_box 0 rfl rfl) rfl ?_)
 rintro _ _ ⟨b1, rfl, rfl⟩
 obtain ⟨x2, e2, H0⟩ := bS H0
 refine oS rfl (nn (cw_seq (sr (oA 0 Tryz.underlying34 rfl ts26 rfl (oB2 0 ts26 rfl (oE (stpU_call (fun i => 1 + i) cf36 (fun w hw => c_i_TableValid fl w a0.t rfl (RO.pass hr0_0 hw) rfl (RO.pass hr0_1 hw) (RO.pass hg hw) x2 e2) (yA rfl)) rfl ?_))))))
 rintro _ _ ⟨_, ⟨rfl, rfl⟩, rfl⟩
 obtain ⟨y3, ey3, H0⟩ := bS H0
 refine oK rfl (oM rfl (ow_cutY 5 21 y3 ?_ ?_))
 ·rcases Bool.eq_false_or_eq_true (!x2) with hy3 | hy3
  ·have ey3 := cond_t ey3 hy3
   refine oO rfl hy3 rfl (oO rfl hy3 rfl (oO rfl hy3 rfl (oO rfl hy3 rfl (oD (stp_pick_t rfl hy3 rfl) rfl ?_))))
   obtain rfl := sI ey3
   exact ow_nil (jy 5 0)
  have ey3 := cond_f ey3 hy3
  obtain ⟨x4, e4, ey3⟩ := bS ey3
  refine oG rfl hy3 (fA 2 Tryz.underlying34 rfl ts29 rfl rfl rfl) rfl (oG rfl hy3 (stp_loadN (us := [_, _]) ts29 rfl (Cells.box (id := 0) rfl 2 rfl)) rfl (ow_eff (.some rfl hy3) (stpU_call (fun i => 1 + i) cf37 (fun w hw => c_i_CacheValid fl w a0.c rfl (RO.pass hr0_2 hw) x4 e4) (yA rfl)) rfl ?_))
  rintro _ _ ⟨_, ⟨rfl, rfl⟩, rfl⟩
  refine oG rfl hy3 (stp_not rfl) rfl (oD (stp_pick_f rfl hy3 rfl) rfl ?_)
  obtain rfl := sI ey3
  exact ow_nil (jy 5 0)
 obtain ⟨y5, ey5, H0⟩ := bS H0
 refine oM rfl (ow_cutY 5 27 y5 ?_ ?_)
 ·rcases Bool.eq_false_or_eq_true y3 with hy5 | hy5
  ·have ey5 := cond_t ey5 hy5
   refine oO rfl hy5 rfl (oO rfl hy5 rfl (oO rfl hy5 rfl (oO rfl hy5 rfl (oD (stp_pick_t rfl hy5 rfl) rfl ?_))))
   obtain rfl := sI ey5
   exact ow_nil (jy 5 0)
  have ey5 := cond_f ey5 hy5
  obtain ⟨x6, e6, ey5⟩ := bS ey5
  refine oG rfl hy5 (fA 4 Tryz.underlying34 rfl ts32 rfl rfl rfl) rfl (oG rfl hy5 (stp_loadN (us := [_, _, _, _]) ts32 rfl (Cells.box (id := 0) rfl 4 rfl)) rfl (ow_eff (.some rfl hy5) (stpU_call (fun i => 1 + i) cf38 (fun w hw => c_i_TagsValid fl w a0.g rfl (RO.pass hr0_3 hw) x6 e6) (yA rfl)) rfl ?_))
  rintro _ _ ⟨_, ⟨rfl, rfl⟩, rfl⟩
  refine oG rfl hy5 (stp_not rfl) rfl (oD (stp_pick_f rfl hy5 rfl) rfl ?_)
  obtain rfl := sI ey5
  exact ow_nil (jy 5 0)
 obtain ⟨y7, ey7, H0⟩ := bS H0
 refine oM rfl (ow_cutY 7 35 y7 ?_ ?_)
 ·rcases Bool.eq_false_or_eq_true y5 with hy7 | hy7
  ·have ey7 := cond_t ey7 hy7
   refine oO rfl hy7 rfl (oO rfl hy7 rfl (oO rfl hy7 rfl (oO rfl hy7 rfl (oO rfl hy7 rfl (oO rfl hy7 rfl (oD (stp_pick_t rfl hy7 rfl) rfl ?_))))))
   obtain rfl := sI ey7
   exact ow_nil (jy 7 0)
  have ey7 := cond_f ey7 hy7
  obtain ⟨x8, e8, ey7⟩ := bS ey7
  refine oG rfl hy7 (fA 4 Tryz.underlying34 rfl ts32 rfl rfl rfl) rfl (oG rfl hy7 (stp_loadN (us := [_, _, _, _]) ts32 rfl (Cells.box (id := 0) rfl 4 rfl)) rfl (oG rfl hy7 (fA 8 Tryz.underlying34 rfl ts3 rfl rfl rfl) rfl (oG rfl hy7 (lB 0 ts3 rfl rfl rfl) rfl (ow_eff (.some rfl hy7) (stpU_call (fun i => 1 + i) cf39 (fun w hw => c_i_Tags_own fl w a0.g a0.s rfl (RO.pass hr0_3 hw) x8 e8) (yB rfl rfl)) rfl ?_))))
  rintro _ _ ⟨_, ⟨rfl, rfl⟩, rfl⟩
  refine oG rfl hy7 (stp_lss rfl rfl) rfl (oD (stp_pick_f rfl hy7 rfl) rfl ?_)
  obtain rfl := sI ey7
  exact ow_nil (jy 7 0)
 refine ow_nil (kw_nx (cw_cond rfl (fun h9 => ?_) (fun h9 => ?_)))
 ·have H0 := cond_t H0 h9
  refine sr (oS rfl (nn (cw_ret (kw_nx_ret ?_))))
  obtain rfl := sI H0
  exact kr Tryz.results20 (rT rfl) [] ⟨rfl, rfl⟩
 have H0 := cond_f H0 h9
 obtain ⟨o0_0, eo0_0, H0⟩ := bS H0
 refine cw_skip (kw_nx (cw_seq (sr (oA 0 Tryz.underlying34 rfl ts26 rfl (oA 1 Tryz.underlying26 rfl ts24 rfl (oL 0 ts24 rfl (oD (stp_len Tryz.underlying24 rfl) rfl (oM rfl (nn (cw_join (ι := Int) (fun | v10 => o0_0 = .out v10) (fun | v10 => [(1, .pointer (some ⟨b1, 0, none⟩)), (38, .slice p0_1 ((a0.t.f).length) c0_1), (39, .int .i64 ((a0.t.f).length : Int)), (40, .int .i64 v10)]) (fun | v10 => [(0, [(b1, .cells #[.slice p0_0 ((a0.t.b).length) c0_0, .slice p0_1 ((a0.t.f).length) c0_1, .slice p0_2 ((a0.c.l).length) c0_2, .int .i64 a0.c.h, .int .i64 a0.g.c, .int .i64 a0.g.n, .int .i64 a0.g.r, .slice p0_3 ((a0.g.o).length) c0_3, .int .i64 a0.s] 34 (0, 0))])]) ?_ ?_))))))))))
 ·refine cw_block (cw_loopS (ι := Nat × Int) (js := [0]) (fun x => x.1) (fun | (fuel, v10) => i_MachineValid_L0 fl a0 fuel v10 = some o0_0) (fun | (_, v10) => [(1, .pointer (some ⟨b1, 0, none⟩)), (38, .slice p0_1 ((a0.t.f).length) c0_1), (39, .int .i64 ((a0.t.f).length : Int)), (40, .int .i64 v10)]) (fun | (_, v10) => [(0, [(b1, .cells #[.slice p0_0 ((a0.t.b).length) c0_0, .slice p0_1 ((a0.t.f).length) c0_1, .slice p0_2 ((a0.c.l).length) c0_2, .int .i64 a0.c.h, .int .i64 a0.g.c, .int .i64 a0.g.n, .int .i64 a0.g.r, .slice p0_3 ((a0.g.o).length) c0_3, .int .i64 a0.s] 34 (0, 0))])]) (fl, 0) eo0_0 ⟨rfl, rfl, rfl, rfl, trivial⟩ ⟨0, [], rfl, rfl, trivial⟩ (by decide) ?_)
  rintro ⟨fuel, v10⟩ H1
  have H1 : i_MachineValid_L0 fl a0 fuel v10 = some o0_0 := H1
  rcases fuel with _ | fuel
  ·rw [i_MachineValid_L0.eq_1] at H1; cases H1
  rw [i_MachineValid_L0.eq_2] at H1
  dsimp only
  refine sr (oW rfl (nn (cw_seq (cw_cond rfl (fun h11 => ?_) (fun h11 => ?_)))))
  ·have H1 := cond_t H1 h11
   obtain ⟨x12, e12, H1⟩ := bS H1
   refine cw_skip (kw_nx (cw_seq (cw_block (sr (oD (stp_indexAddr Tryz.underlying24 ts51 (by decide) rfl rfl rfl (Rdb.ro hr0_1) e12) rfl (oD (stp_loadN (us := [_, _, _, _, _]) ts51 rfl (Cells.el (Rdb.ro hr0_1) (by decide) e12 0 5 rfl)) rfl (oE (stpU_alloc 1 tz51 rfl) rfl ?_)))))))
   rintro _ _ ⟨b13, rfl, rfl⟩
   obtain ⟨y14, ey14, H1⟩ := bS H1
   refine oC5 1 ts51 rfl rfl (nn (sr (oA 0 Tryz.underlying51 rfl ts4 rfl (oL 1 ts4 rfl (oM rfl (ow_cutY 5 51 y14 ?_ ?_))))))
   ·rcases Bool.eq_false_or_eq_true x12.u with hy14 | hy14
    ·have ey14 := cond_t ey14 hy14
     refine oG rfl hy14 (fA 1 Tryz.underlying51 rfl ts49 rfl rfl rfl) rfl (oG rfl hy14 (fA 1 Tryz.underlying49 rfl ts3 rfl rfl rfl) rfl (oG rfl hy14 (lB 1 ts3 rfl rfl rfl) rfl (oG rfl hy14 (stp_geq rfl rfl) rfl (oD (stp_pick_t rfl hy14 rfl) rfl ?_))))
     obtain rfl := sI ey14
     exact ow_nil (jy 5 0)
    have ey14 := cond_f ey14 hy14
    refine oO rfl hy14 rfl (oO rfl hy14 rfl (oO rfl hy14 rfl (oO rfl hy14 rfl (oD (stp_pick_f rfl hy14 rfl) rfl ?_))))
    obtain rfl := sI ey14
    exact ow_nil (jy 5 0)
   obtain ⟨y15, ey15, H1⟩ := bS H1
   refine oM rfl (ow_cutY 5 57 y15 ?_ ?_)
   ·rcases Bool.eq_false_or_eq_true y14 with hy15 | hy15
    ·have ey15 := cond_t ey15 hy15
     refine oG rfl hy15 (fA 1 Tryz.underlying51 rfl ts49 rfl rfl rfl) rfl (oG rfl hy15 (fA 0 Tryz.underlying49 rfl ts3 rfl rfl rfl) rfl (oG rfl hy15 (lB 1 ts3 rfl rfl rfl) rfl (oG rfl hy15 (stp_neq rfl rfl) rfl (oD (stp_pick_t rfl hy15 rfl) rfl ?_))))
     obtain rfl := sI ey15
     exact ow_nil (jy 5 0)
    have ey15 := cond_f ey15 hy15
    refine oO rfl hy15 rfl (oO rfl hy15 rfl (oO rfl hy15 rfl (oO rfl hy15 rfl (oD (stp_pick_f rfl hy15 rfl) rfl ?_))))
    obtain rfl := sI ey15
    exact ow_nil (jy 5 0)
   refine ow_nil (kw_nx (cw_cond rfl (fun h16 => ?_) (fun h16 => ?_)))
   ·have H1 := cond_t H1 h16
    refine sr (oS rfl (nn (cw_ret (kw_bl_ret (kw_nx_ret (kw_lq_ret (kw_bl_ret (kw_join_ret (kw_nx_ret ?_)))))))))
    obtain rfl := sI H1
    obtain rfl := sI H0
    exact kr Tryz.results20 (rT rfl) [] ⟨rfl, rfl⟩
   have H1 := cond_f H1 h16
   obtain ⟨x17, e17, H1⟩ := bS H1
   exact cw_skip (kw_bl_normal (kw_nx (cw_region (oP e17 rfl (oM rfl (ow_nil (kw_lqS (js := [0]) (fuel, x17) H1 (Nat.lt_succ_self _) ⟨rfl, rfl, rfl, rfl, trivial⟩ ⟨0, [], rfl, rfl, trivial⟩ (by decide))))))))
  have H1 := cond_f H1 h11
  refine cw_exit (kw_nx_exit (kw_lq_exit (kw_bl ?_)))
  obtain rfl := sI H1
  exact kw_joinS (js := [0]) v10 rfl ⟨rfl, rfl, rfl, rfl, trivial⟩ ⟨0, [], rfl, rfl, trivial⟩ (by decide)
 rintro v10 rfl
 dsimp only
 obtain ⟨o0_1, eo0_1, H0⟩ := bS H0
 refine kw_nx (cw_seq (sr (oA 2 Tryz.underlying34 rfl ts29 rfl (oA 0 Tryz.underlying29 rfl ts27 rfl (oL 0 ts27 rfl (oD (stp_len Tryz.underlying27 rfl) rfl (oM rfl (nn (cw_join (ι := Int) (fun | v18 => o0_1 = .out v18) (fun | v18 => [(1, .pointer (some ⟨b1, 0, none⟩)), (61, .slice p0_2 ((a0.c.l).length) c0_2), (62, .int .i64 ((a0.c.l).length : Int)), (63, .int .i64 v18)]) (fun | v18 => [(0, [(b1, .cells #[.slice p0_0 ((a0.t.b).length) c0_0, .slice p0_1 ((a0.t.f).length) c0_1, .slice p0_2 ((a0.c.l).length) c0_2, .int .i64 a0.c.h, .int .i64 a0.g.c, .int .i64 a0.g.n, .int .i64 a0.g.r, .slice p0_3 ((a0.g.o).length) c0_3, .int .i64 a0.s] 34 (0, 0))])]) ?_ ?_)))))))))
 ·refine cw_block (cw_loopS (ι := Nat × Int) (js := [0]) (fun x => x.1) (fun | (fuel, v18) => i_MachineValid_L1 fl a0 fuel v18 = some o0_1) (fun | (_, v18) => [(1, .pointer (some ⟨b1, 0, none⟩)), (61, .slice p0_2 ((a0.c.l).length) c0_2), (62, .int .i64 ((a0.c.l).length : Int)), (63, .int .i64 v18)]) (fun | (_, v18) => [(0, [(b1, .cells #[.slice p0_0 ((a0.t.b).length) c0_0, .slice p0_1 ((a0.t.f).length) c0_1, .slice p0_2 ((a0.c.l).length) c0_2, .int .i64 a0.c.h, .int .i64 a0.g.c, .int .i64 a0.g.n, .int .i64 a0.g.r, .slice p0_3 ((a0.g.o).length) c0_3, .int .i64 a0.s] 34 (0, 0))])]) (fl, 0) eo0_1 ⟨rfl, rfl, rfl, rfl, trivial⟩ ⟨0, [], rfl, rfl, trivial⟩ (by decide) ?_)
  rintro ⟨fuel, v18⟩ H1
  have H1 : i_MachineValid_L1 fl a0 fuel v18 = some o0_1 := H1
  rcases fuel with _ | fuel
  ·rw [i_MachineValid_L1.eq_1] at H1; cases H1
  rw [i_MachineValid_L1.eq_2] at H1
  dsimp only
  refine sr (oW rfl (nn (cw_seq (cw_cond rfl (fun h19 => ?_) (fun h19 => ?_)))))
  ·have H1 := cond_t H1 h19
   obtain ⟨x20, e20, H1⟩ := bS H1
   refine cw_skip (kw_nx (cw_seq (cw_block (sr (oD (stp_indexAddr Tryz.underlying27 ts47 (by decide) rfl rfl rfl (Rdb.ro hr0_2) e20) rfl (oD (stp_loadN (us := [_, _, _, _, _, _]) ts47 rfl (Cells.el (Rdb.ro hr0_2) (by decide) e20 0 6 rfl)) rfl (oE (stpU_alloc 2 tz47 rfl) rfl ?_)))))))
   rintro _ _ ⟨b21, rfl, rfl⟩
   refine oC6 2 ts47 rfl rfl (nn (cw_seq (sr (oA 0 Tryz.underlying47 rfl ts4 rfl (oL 2 ts4 rfl (oK rfl (nn (cw_cond rfl (fun h22 => ?_) (fun h22 => ?_)))))))))
   ·have H1 := cond_t H1 h22
    obtain ⟨x23, e23, H1⟩ := bS H1
    exact cw_exit (kw_nx_exit (kw_bl (kw_nx (cw_region (oP e23 rfl (oM rfl (ow_nil (kw_lqS (js := [0]) (fuel, x23) H1 (Nat.lt_succ_self _) ⟨rfl, rfl, rfl, rfl, trivial⟩ ⟨0, [], rfl, rfl, trivial⟩ (by decide)))))))))
   have H1 := cond_f H1 h22
   refine cw_skip (kw_nx (sr (oA 2 Tryz.underlying47 rfl ts3 rfl (oL 2 ts3 rfl (oI rfl (oS rfl (nn (cw_seq (sr (oM rfl (oA 1 Tryz.underlying47 rfl ts3 rfl (oL 2 ts3 rfl (oQ rfl ?_)))))))))))))
   obtain ⟨y24, ey24, H1⟩ := bS H1
   refine oD (stp_neqB Tryz.underlying4 rfl rfl) rfl (oM rfl (ow_cutY 7 85 y24 ?_ ?_))
   ·rcases Bool.eq_false_or_eq_true ((decide (128 ≤ x20.pg)) != (x20.tg == (-1))) with hy24 | hy24
    ·have ey24 := cond_t ey24 hy24
     refine oO rfl hy24 rfl (oO rfl hy24 rfl (oO rfl hy24 rfl (oX rfl rfl rfl (oX rfl rfl rfl (oO rfl hy24 rfl (oD (stp_pick_t rfl hy24 rfl) rfl ?_))))))
     obtain rfl := sI ey24
     exact ow_nil (jy 7 0)
    have ey24 := cond_f ey24 hy24
    obtain ⟨y25, ey25, ey24⟩ := bS ey24
    refine oG rfl hy24 (fA 5 Tryz.underlying47 rfl ts4 rfl rfl rfl) rfl (oG rfl hy24 (lB 2 ts4 rfl rfl rfl) rfl (oG rfl hy24 (mv rfl) rfl (ow_cutY 3 84 y25 ?_ ?_)))
    ·rcases Bool.eq_false_or_eq_true x20.wi with hy25 | hy25
     ·have ey25 := cond_t ey25 hy25
      refine oG rfl hy25 (mv rfl) rfl (oG rfl hy25 (stp_not rfl) rfl (oG rfl hy24 (stp_pick_t rfl hy25 rfl) rfl ?_))
      obtain rfl := sI ey25
      exact ow_nil (jy 3 0)
     have ey25 := cond_f ey25 hy25
     refine oO rfl hy25 rfl (oO rfl hy25 rfl (oG rfl hy24 (stp_pick_f rfl hy25 rfl) rfl ?_))
     obtain rfl := sI ey25
     exact ow_nil (jy 3 0)
    refine oD (stp_pick_f rfl hy24 rfl) rfl ?_
    obtain rfl := sI ey24
    exact ow_nil (jy 5 0)
   refine ow_nil (kw_nx (cw_cond rfl (fun h26 => ?_) (fun h26 => ?_)))
   ·have H1 := cond_t H1 h26
    refine sr (oS rfl (nn (cw_ret (kw_nx_ret (kw_bl_ret (kw_nx_ret (kw_lq_ret (kw_bl_ret (kw_join_ret (kw_nx_ret ?_))))))))))
    obtain rfl := sI H1
    obtain rfl := sI H0
    exact kr Tryz.results20 (rT rfl) [] ⟨rfl, rfl⟩
   have H1 := cond_f H1 h26
   refine cw_skip (kw_nx (sr (oS rfl (nn (cw_seq (sr (oM rfl (oK rfl (nn (cw_cond rfl (fun h27 => ?_) (fun h27 => ?_)))))))))))
   ·have H1 := cond_t H1 h27
    obtain ⟨x28, e28, H1⟩ := bS H1
    refine sr (oA 4 Tryz.underlying34 rfl ts32 rfl (oB4 0 ts32 rfl (oA 1 Tryz.underlying47 rfl ts3 rfl (oL 2 ts3 rfl (oE (stpU_call (fun i => 3 + i) cf40 (fun w hw => c_i_SpaceOf fl w a0.g x20.tg rfl (RO.pass hr0_3 hw) x28 e28) (yB rfl rfl)) rfl ?_)))))
    rintro _ _ ⟨_, ⟨rfl, rfl⟩, rfl⟩
    refine oM rfl (oT rfl (oT rfl (oS rfl (oS rfl (nn (cw_seq (sr (oM rfl (oK rfl (nn (cw_cond rfl (fun h29 => ?_) (fun h29 => ?_))))))))))))
    ·have H1 := cond_t H1 h29
     refine sr (oS rfl (nn (cw_ret (kw_nx_ret (kw_nx_ret (kw_bl_ret (kw_nx_ret (kw_lq_ret (kw_bl_ret (kw_join_ret (kw_nx_ret ?_)))))))))))
     obtain rfl := sI H1
     obtain rfl := sI H0
     exact kr Tryz.results20 (rT rfl) [] ⟨rfl, rfl⟩
    have H1 := cond_f H1 h29
    obtain ⟨x30, e30, H1⟩ := bS H1
    refine cw_skip (kw_nx (cw_region (oM rfl (oS rfl (nn (cw_seq (rdt g_mixed (rn 0 8) ⟨[[],[0],[],[],[2]], [], []⟩ (dA 0 rfl Tryz.underlying34 rfl ts26 rfl (dB2 0 ts26 rfl (dM rfl (dA 2 rfl Tryz.underlying47 rfl ts3 rfl (dL 2 ts3 rfl (dV rfl (fun hh => stpU_call (fun i => 3 + i) cf42 (fun w hw => c_i_KeyFor fl w x28.1 x20.pg x30 e30) (yB rfl rfl)) rfl ?_)))))))))))))
    obtain ⟨x31, e31, H1⟩ := bS H1
    obtain ⟨y32, ey32, H1⟩ := bS H1
    refine dV rfl (fun hh => stpU_call (fun i => 3 + i) cf41 (fun w hw => c_i_Table_find fl w a0.t x30 rfl (RO.pass hr0_0 hw) rfl (RO.pass hr0_1 hw) x31 e31) (yB rfl rfl)) rfl (dS rfl (dn (kw_nx (cw_seq (rdt g_mixed (rn 0 20) ⟨[[],[],[],[],[],[2],[],[],[],[],[],[0],[],[],[],[],[],[2]], [], []⟩ (dM rfl (dW rfl (dM rfl (dcY 5 113 y32 ?_ ?_)))))))))
    ·rcases Bool.eq_false_or_eq_true (decide (x31 < 0)) with hy32 | hy32
     ·have ey32 := cond_t ey32 hy32
      refine dO rfl hy32 (dO rfl hy32 (dO rfl hy32 (dO rfl hy32 (dD rfl (stp_pick_t rfl hy32 rfl) ?_))))
      obtain rfl := sI ey32
      exact dy 5 0
     have ey32 := cond_f ey32 hy32
     refine dG rfl hy32 (mv rfl) (dG rfl hy32 (fA 3 Tryz.underlying47 rfl ts3 rfl rfl rfl) (dG rfl hy32 (lB 2 ts3 rfl rfl rfl) (dG rfl hy32 (stp_neq rfl rfl) (dD rfl (stp_pick_f rfl hy32 rfl) ?_))))
     obtain rfl := sI ey32
     exact dy 5 0
    obtain ⟨y33, ey33, H1⟩ := bS H1
    refine dM rfl (dcY 11 125 y33 ?_ ?_)
    ·rcases Bool.eq_false_or_eq_true y32 with hy33 | hy33
     ·have ey33 := cond_t ey33 hy33
      refine dO rfl hy33 (dO rfl hy33 (dO rfl hy33 (dO rfl hy33 (dO rfl hy33 (dO rfl hy33 (dO rfl hy33 (dO rfl hy33 (dO rfl hy33 (dO rfl hy33 (dD rfl (stp_pick_t rfl hy33 rfl) ?_))))))))))
      obtain rfl := sI ey33
      exact dy 11 0
     have ey33 := cond_f ey33 hy33
     obtain ⟨x34, e34, ey33⟩ := bS ey33
     refine dG rfl hy33 (fA 0 Tryz.underlying34 rfl ts26 rfl rfl rfl) (dG rfl hy33 (fA 1 Tryz.underlying26 rfl ts24 rfl rfl rfl) (dG rfl hy33 (lB 0 ts24 rfl rfl rfl) (dG rfl hy33 (mv rfl) (dG rfl hy33 (stp_indexAddr Tryz.underlying24 ts51 (by decide) rfl rfl rfl (Rdb.ro hr0_1) e34) (dG rfl hy33 (fA 3 Tryz.underlying51 rfl ts3 rfl rfl rfl) (dG rfl hy33 (stp_load1 ts3 rfl (Cells.el (Rdb.ro hr0_1) (by decide) e34 3 1 rfl)) (dG rfl hy33 (fA 4 Tryz.underlying47 rfl ts3 rfl rfl rfl) (dG rfl hy33 (lB 2 ts3 rfl rfl rfl) (dG rfl hy33 (stp_neq rfl rfl) (dD rfl (stp_pick_f rfl hy33 rfl) ?_))))))))))
     obtain rfl := sI ey33
     exact dy 11 0
    refine dn (kw_nx (cw_cond rfl (fun h35 => ?_) (fun h35 => ?_)))
    ·have H1 := cond_t H1 h35
     refine sr (oS rfl (nn (cw_ret (kw_bl_ret (kw_nx_ret (kw_lq_ret (kw_bl_ret (kw_join_ret (kw_nx_ret ?_)))))))))
     obtain rfl := sI H1
     obtain rfl := sI H0
     exact kr Tryz.results20 (rT rfl) [] ⟨rfl, rfl⟩
    have H1 := cond_f H1 h35
    obtain ⟨x36, e36, H1⟩ := bS H1
    exact cw_skip (kw_bl_normal (kw_nx (cw_region (oP e36 rfl (oM rfl (ow_nil (kw_lqS (js := [0]) (fuel, x36) H1 (Nat.lt_succ_self _) ⟨rfl, rfl, rfl, rfl, trivial⟩ ⟨0, [], rfl, rfl, trivial⟩ (by decide))))))))
   have H1 := cond_f H1 h27
   obtain ⟨x37, e37, H1⟩ := bS H1
   obtain ⟨x38, e38, H1⟩ := bS H1
   refine cw_skip (kw_nx (cw_seq (rdt g_mixed (rn 0 8) ⟨[[],[0],[],[],[2]], [], []⟩ (dA 0 rfl Tryz.underlying34 rfl ts26 rfl (dB2 0 ts26 rfl (dM rfl (dA 2 rfl Tryz.underlying47 rfl ts3 rfl (dL 2 ts3 rfl (dV rfl (fun hh => stpU_call (fun i => 3 + i) cf42 (fun w hw => c_i_KeyFor fl w 0 x20.pg x37 e37) (yB rfl rfl)) rfl (dV rfl (fun hh => stpU_call (fun i => 3 + i) cf41 (fun w hw => c_i_Table_find fl w a0.t x37 rfl (RO.pass hr0_0 hw) rfl (RO.pass hr0_1 hw) x38 e38) (yB rfl rfl)) rfl (dS rfl (dn (kw_nx ?_)))))))))))))
   obtain ⟨y39, ey39, H1⟩ := bS H1
   refine cw_seq (rdt g_mixed (rn 0 20) ⟨[[],[],[],[],[],[2],[],[],[],[],[],[0],[],[],[],[],[],[2]], [], []⟩ (dM rfl (dW rfl (dM rfl (dcY 5 113 y39 ?_ ?_)))))
   ·rcases Bool.eq_false_or_eq_true (decide (x38 < 0)) with hy39 | hy39
    ·have ey39 := cond_t ey39 hy39
     refine dO rfl hy39 (dO rfl hy39 (dO rfl hy39 (dO rfl hy39 (dD rfl (stp_pick_t rfl hy39 rfl) ?_))))
     obtain rfl := sI ey39
     exact dy 5 0
    have ey39 := cond_f ey39 hy39
    refine dG rfl hy39 (mv rfl) (dG rfl hy39 (fA 3 Tryz.underlying47 rfl ts3 rfl rfl rfl) (dG rfl hy39 (lB 2 ts3 rfl rfl rfl) (dG rfl hy39 (stp_neq rfl rfl) (dD rfl (stp_pick_f rfl hy39 rfl) ?_))))
    obtain rfl := sI ey39
    exact dy 5 0
   obtain ⟨y40, ey40, H1⟩ := bS H1
   refine dM rfl (dcY 11 125 y40 ?_ ?_)
   ·rcases Bool.eq_false_or_eq_true y39 with hy40 | hy40
    ·have ey40 := cond_t ey40 hy40
     refine dO rfl hy40 (dO rfl hy40 (dO rfl hy40 (dO rfl hy40 (dO rfl hy40 (dO rfl hy40 (dO rfl hy40 (dO rfl hy40 (dO rfl hy40 (dO rfl hy40 (dD rfl (stp_pick_t rfl hy40 rfl) ?_))))))))))
     obtain rfl := sI ey40
     exact dy 11 0
    have ey40 := cond_f ey40 hy40
    obtain ⟨x41, e41, ey40⟩ := bS ey40
    refine dG rfl hy40 (fA 0 Tryz.underlying34 rfl ts26 rfl rfl rfl) (dG rfl hy40 (fA 1 Tryz.underlying26 rfl ts24 rfl rfl rfl) (dG rfl hy40 (lB 0 ts24 rfl rfl rfl) (dG rfl hy40 (mv rfl) (dG rfl hy40 (stp_indexAddr Tryz.underlying24 ts51 (by decide) rfl rfl rfl (Rdb.ro hr0_1) e41) (dG rfl hy40 (fA 3 Tryz.underlying51 rfl ts3 rfl rfl rfl) (dG rfl hy40 (stp_load1 ts3 rfl (Cells.el (Rdb.ro hr0_1) (by decide) e41 3 1 rfl)) (dG rfl hy40 (fA 4 Tryz.underlying47 rfl ts3 rfl rfl rfl) (dG rfl hy40 (lB 2 ts3 rfl rfl rfl) (dG rfl hy40 (stp_neq rfl rfl) (dD rfl (stp_pick_f rfl hy40 rfl) ?_))))))))))
    obtain rfl := sI ey40
    exact dy 11 0
   refine dn (kw_nx (cw_cond rfl (fun h42 => ?_) (fun h42 => ?_)))
   ·have H1 := cond_t H1 h42
    refine sr (oS rfl (nn (cw_ret (kw_bl_ret (kw_nx_ret (kw_lq_ret (kw_bl_ret (kw_join_ret (kw_nx_ret ?_)))))))))
    obtain rfl := sI H1
    obtain rfl := sI H0
    exact kr Tryz.results20 (rT rfl) [] ⟨rfl, rfl⟩
   have H1 := cond_f H1 h42
   obtain ⟨x43, e43, H1⟩ := bS H1
   exact cw_skip (kw_bl_normal (kw_nx (cw_region (oP e43 rfl (oM rfl (ow_nil (kw_lqS (js := [0]) (fuel, x43) H1 (Nat.lt_succ_self _) ⟨rfl, rfl, rfl, rfl, trivial⟩ ⟨0, [], rfl, rfl, trivial⟩ (by decide))))))))
  have H1 := cond_f H1 h19
  refine cw_exit (kw_nx_exit (kw_lq_exit (kw_bl ?_)))
  obtain rfl := sI H1
  exact kw_joinS (js := [0]) v18 rfl ⟨rfl, rfl, rfl, rfl, trivial⟩ ⟨0, [], rfl, rfl, trivial⟩ (by decide)
 rintro v18 rfl
 dsimp only
 refine kw_nx (sr (oS rfl (nn (cw_ret ?_))))
 obtain rfl := sI H0
 exact kr Tryz.results20 (rT rfl) [] ⟨rfl, rfl⟩

theorem c_i_MemoryValid (fl : Nat) (w : World) (a0 : Mm) (hn0_0 : n0_0 = (a0.m.t.b).length) (hr0_0 : RO w (hkeys []) (RdL p0_0 c0_0 a0.m.t.b)) (hn0_1 : n0_1 = (a0.m.t.f).length) (hr0_1 : RO w (hkeys []) (RdL p0_1 c0_1 a0.m.t.f)) (hn0_2 : n0_2 = (a0.m.c.l).length) (hr0_2 : RO w (hkeys []) (RdL p0_2 c0_2 a0.m.c.l)) (hn0_3 : n0_3 = (a0.m.g.o).length) (hr0_3 : RO w (hkeys []) (RdL p0_3 c0_3 a0.m.g.o)) (hn0_4 : n0_4 = (a0.k).length) (hr0_4 : RO w (hkeys []) (RdL p0_4 c0_4 a0.k)) (hg : RO w (hkeys []) (fun w' => w'.rangeAt 0 0 [.bool false, .int .i64 0, .int .i64 0, .int .i64 0, .int .i64 (-1)])) (r : Bool) (H0 : i_MemoryValid fl a0 = some r) :
  Ct Tryz.prog 10 [.agg #[.slice p0_0 n0_0 c0_0, .slice p0_1 n0_1 c0_1, .slice p0_2 n0_2 c0_2, .int .i64 a0.m.c.h, .int .i64 a0.m.g.c, .int .i64 a0.m.g.n, .int .i64 a0.m.g.r, .slice p0_3 n0_3 c0_3, .int .i64 a0.m.s, .slice p0_4 n0_4 c0_4, .int .i64 a0.h]] w [] (fun rv h' => rv = .bool r ∧ h' = []) := by
 subst hn0_0 hn0_1 hn0_2 hn0_3 hn0_4
 unfold i_MemoryValid at H0
 refine ct_of_cw Tryz.func10 rfl Tryz.ntmps10 rfl (Sat.refl _ _) ?_
 refine sr (oE (stpU_box 0 rfl rfl) rfl ?_)
 rintro _ _ ⟨b1, rfl, rfl⟩
 obtain ⟨x2, e2, H0⟩ := bS H0
 refine oS rfl (nn (sr (oA 0 Tryz.underlying37 rfl ts34 rfl (oA 0 Tryz.underlying34 rfl ts26 rfl (oA 1 Tryz.underlying26 rfl ts24 rfl (oL 0 ts24 rfl (oS rfl (nn (cw_seq (sr (oA 0 Tryz.underlying37 rfl ts34 rfl (oB9 0 ts34 rfl (oE (stpU_call (fun i => 1 + i) cf20 (fun w hw => c_i_MachineValid fl w a0.m rfl (RO.pass hr0_0 hw) rfl (RO.pass hr0_1 hw) rfl (RO.pass hr0_2 hw) rfl (RO.pass hr0_3 hw) (RO.pass hg hw) x2 e2) (yA rfl)) rfl ?_)))))))))))))
 rintro _ _ ⟨_, ⟨rfl, rfl⟩, rfl⟩
 obtain ⟨y3, ey3, H0⟩ := bS H0
 refine oK rfl (oM rfl (ow_cutY 7 21 y3 ?_ ?_))
 ·rcases Bool.eq_false_or_eq_true (!x2) with hy3 | hy3
  ·have ey3 := cond_t ey3 hy3
   refine oO rfl hy3 rfl (oO rfl hy3 rfl (oO rfl hy3 rfl (oO rfl hy3 rfl (oO rfl hy3 rfl (oO rfl hy3 rfl (oD (stp_pick_t rfl hy3 rfl) rfl ?_))))))
   obtain rfl := sI ey3
   exact ow_nil (jy 7 0)
  have ey3 := cond_f ey3 hy3
  refine oG rfl hy3 (fA 9 Tryz.underlying37 rfl ts35 rfl rfl rfl) rfl (oG rfl hy3 (lB 0 ts35 rfl rfl rfl) rfl (oG rfl hy3 (stp_len Tryz.underlying35 rfl) rfl (oG rfl hy3 (mv rfl) rfl (oG rfl hy3 (stp_len Tryz.underlying24 rfl) rfl (oG rfl hy3 (stp_neq rfl rfl) rfl (oD (stp_pick_f rfl hy3 rfl) rfl ?_))))))
  obtain rfl := sI ey3
  exact ow_nil (jy 7 0)
 obtain ⟨y4, ey4, H0⟩ := bS H0
 refine oM rfl (ow_cutY 7 29 y4 ?_ ?_)
 ·rcases Bool.eq_false_or_eq_true y3 with hy4 | hy4
  ·have ey4 := cond_t ey4 hy4
   refine oO rfl hy4 rfl (oO rfl hy4 rfl (oO rfl hy4 rfl (oO rfl hy4 rfl (oO rfl hy4 rfl (oO rfl hy4 rfl (oD (stp_pick_t rfl hy4 rfl) rfl ?_))))))
   obtain rfl := sI ey4
   exact ow_nil (jy 7 0)
  have ey4 := cond_f ey4 hy4
  obtain ⟨x5, e5, ey4⟩ := bS ey4
  refine oG rfl hy4 (fA 10 Tryz.underlying37 rfl ts3 rfl rfl rfl) rfl (oG rfl hy4 (lB 0 ts3 rfl rfl rfl) rfl (oG rfl hy4 (mv rfl) rfl (oG rfl hy4 (stp_len Tryz.underlying24 rfl) rfl (ow_eff (.some rfl hy4) (stpU_call (fun i => 1 + i) cf21 (fun w hw => c_i_within fl w a0.h ((a0.m.t.f).length : Int) x5 e5) (yB rfl rfl)) rfl ?_))))
  rintro _ _ ⟨_, ⟨rfl, rfl⟩, rfl⟩
  refine oG rfl hy4 (stp_not rfl) rfl (oD (stp_pick_f rfl hy4 rfl) rfl ?_)
  obtain rfl := sI ey4
  exact ow_nil (jy 7 0)
 refine ow_nil (kw_nx (cw_cond rfl (fun h6 => ?_) (fun h6 => ?_)))
 ·have H0 := cond_t H0 h6
  refine sr (oS rfl (nn (cw_ret (kw_nx_ret ?_))))
  obtain rfl := sI H0
  exact kr Tryz.results10 (rT rfl) [] ⟨rfl, rfl⟩
 have H0 := cond_f H0 h6
 obtain ⟨o0_0, eo0_0, H0⟩ := bS H0
 refine cw_skip (kw_nx (cw_seq (sr (oA 9 Tryz.underlying37 rfl ts35 rfl (oL 0 ts35 rfl (oD (stp_len Tryz.underlying35 rfl) rfl (oM rfl (nn (cw_join (ι := Int) (fun | v7 => o0_0 = .out v7) (fun | v7 => [(3, .slice p0_1 ((a0.m.t.f).length) c0_1), (31, .slice p0_4 ((a0.k).length) c0_4), (32, .int .i64 ((a0.k).length : Int)), (33, .int .i64 v7)]) (fun | v7 => []) ?_ ?_)))))))))
 ·refine cw_block (cw_loopS (ι := Nat × Int) (js := []) (fun x => x.1) (fun | (fuel, v7) => i_MemoryValid_L0 fl a0 fuel v7 = some o0_0) (fun | (_, v7) => [(3, .slice p0_1 ((a0.m.t.f).length) c0_1), (31, .slice p0_4 ((a0.k).length) c0_4), (32, .int .i64 ((a0.k).length : Int)), (33, .int .i64 v7)]) (fun | (_, v7) => []) (fl, 0) eo0_0 ⟨rfl, rfl, rfl, rfl, trivial⟩ trivial (by decide) ?_)
  rintro ⟨fuel, v7⟩ H1
  have H1 : i_MemoryValid_L0 fl a0 fuel v7 = some o0_0 := H1
  rcases fuel with _ | fuel
  ·rw [i_MemoryValid_L0.eq_1] at H1; cases H1
  rw [i_MemoryValid_L0.eq_2] at H1
  dsimp only
  refine sr (oW rfl (nn (cw_seq (cw_cond rfl (fun h8 => ?_) (fun h8 => ?_)))))
  ·have H1 := cond_t H1 h8
   obtain ⟨x9, e9, H1⟩ := bS H1
   refine cw_skip (kw_nx (cw_seq (cw_block (sr (oM rfl (oD (stp_indexAddr Tryz.underlying35 ts4 (by decide) rfl rfl rfl (Rdb.ro hr0_4) e9) rfl (oD (stp_load1 ts4 rfl (Cells.el (Rdb.ro hr0_4) (by decide) e9 0 1 rfl)) rfl (oS rfl (oS rfl (nn (sr (oM rfl (oM rfl ?_)))))))))))))
   obtain ⟨y10, ey10, H1⟩ := bS H1
   refine ow_cutY 7 46 y10 ?_ ?_
   ·rcases Bool.eq_false_or_eq_true x9 with hy10 | hy10
    ·have ey10 := cond_t ey10 hy10
     obtain ⟨x11, e11, ey10⟩ := bS ey10
     refine oG rfl hy10 (mv rfl) rfl (oG rfl hy10 (mv rfl) rfl (oG rfl hy10 (stp_indexAddr Tryz.underlying24 ts51 (by decide) rfl rfl rfl (Rdb.ro hr0_1) e11) rfl (oG rfl hy10 (fA 0 Tryz.underlying51 rfl ts4 rfl rfl rfl) rfl (oG rfl hy10 (stp_load1 ts4 rfl (Cells.el (Rdb.ro hr0_1) (by decide) e11 0 1 rfl)) rfl (oG rfl hy10 (stp_not rfl) rfl (oD (stp_pick_t rfl hy10 rfl) rfl ?_))))))
     obtain rfl := sI ey10
     exact ow_nil (jy 7 0)
    have ey10 := cond_f ey10 hy10
    refine oO rfl hy10 rfl (oO rfl hy10 rfl (oO rfl hy10 rfl (oO rfl hy10 rfl (oO rfl hy10 rfl (oO rfl hy10 rfl (oD (stp_pick_f rfl hy10 rfl) rfl ?_))))))
    obtain rfl := sI ey10
    exact ow_nil (jy 7 0)
   refine ow_nil (kw_nx (cw_cond rfl (fun h12 => ?_) (fun h12 => ?_)))
   ·have H1 := cond_t H1 h12
    refine sr (oS rfl (nn (cw_ret (kw_bl_ret (kw_nx_ret (kw_lq_ret (kw_bl_ret (kw_join_ret (kw_nx_ret ?_)))))))))
    obtain rfl := sI H1
    obtain rfl := sI H0
    exact kr Tryz.results10 (rT rfl) [] ⟨rfl, rfl⟩
   have H1 := cond_f H1 h12
   obtain ⟨x13, e13, H1⟩ := bS H1
   exact cw_skip (kw_bl_normal (kw_nx (cw_region (oP e13 rfl (oM rfl (ow_nil (kw_lqS (js := []) (fuel, x13) H1 (Nat.lt_succ_self _) ⟨rfl, rfl, rfl, rfl, trivial⟩ trivial (by decide))))))))
  have H1 := cond_f H1 h8
  refine cw_exit (kw_nx_exit (kw_lq_exit (kw_bl ?_)))
  obtain rfl := sI H1
  exact kw_joinS (js := []) v7 rfl ⟨rfl, rfl, rfl, rfl, trivial⟩ trivial (by decide)
 rintro v7 rfl
 dsimp only
 refine kw_nx (sr (oS rfl (nn (cw_ret ?_))))
 obtain rfl := sI H0
 exact kr Tryz.results10 (rT rfl) [] ⟨rfl, rfl⟩

theorem c_slices_Clone_Int (fl : Nat) (w : World) (a0 : (List Int)) (hn0_0 : n0_0 = (a0).length) (hr0_0 : RO w (hkeys []) (RdL p0_0 c0_0 a0)) (r : (List Int)) (H0 : slices_Clone_Int fl a0 = some r) :
  Ct Tryz.prog 95 [.slice p0_0 n0_0 c0_0] w [] (fun rv h' => ∃ (x0 : Option Addr) (y0 z0 : Nat) (C0 : Res), rv = .slice x0 y0 z0 ∧ h' = [(0, C0)] ∧ y0 = (r).length ∧ OwnC 3 x0 z0 r C0) := by
 subst hn0_0
 unfold slices_Clone_Int at H0
 refine ct_of_cw Tryz.func95 rfl Tryz.ntmps95 rfl (Sat.refl _ _) ?_
 refine sr (oS rfl (nn (cw_seq (sr (oM rfl (oD (stp_eqlNil Tryz.underlying23 rfl) rfl (nn (cw_cond rfl (fun h1 => ?_) (fun h1 => ?_)))))))))
 ·have := True.intro
  obtain rfl : p0_0 = none := by simpa using h1
  obtain rfl : a0 = [] := nil_of_none hr0_0
  obtain rfl : r = [] := (cnt_some H0).1
  exact sr (oS rfl (nn (cw_ret (kw_nx_ret (kw_addNil 0 (kw_ret Tryz.results95 (rT rfl) [(0, [])] [0] ⟨0, [], rfl, rfl, trivial⟩ (by decide) ⟨none, 0, 0, [], rfl, rfl, rfl, (OwnC.nil _ _)⟩))))))
 have := True.intro
 refine cw_skip (kw_nx (sr (oE (stpU_lit0 sl23 1) rfl ?_)))
 rintro _ _ ⟨p2, C3, rfl, rfl, o3⟩
 refine oM rfl ?_
 have e4 : cnt (([] : List Int) ++ a0) = some r := H0
 refine oE (stpU_append sl23 rfl (id := 1) rfl (by simp) rfl rfl rfl o3 (Rdb.ro hr0_0) e4) rfl ?_
 rintro _ _ ⟨p5, c6, C7, rfl, rfl, o7⟩
 exact oS rfl (nn (cw_ret (kw_ret Tryz.results95 (rT rfl) [(0, C7)] [1] ⟨1, [], rfl, rfl, trivial⟩ (by decide) ⟨p5, ((r).length), c6, C7, rfl, rfl, rfl, o7⟩)))

theorem c_slices_Clone_Frame (fl : Nat) (w : World) (a0 : (List F)) (hn0_0 : n0_0 = (a0).length) (hr0_0 : RO w (hkeys []) (RdL p0_0 c0_0 a0)) (r : (List F)) (H0 : slices_Clone_Frame fl a0 = some r) :
  Ct Tryz.prog 97 [.slice p0_0 n0_0 c0_0] w [] (fun rv h' => ∃ (x0 : Option Addr) (y0 z0 : Nat) (C0 : Res), rv = .slice x0 y0 z0 ∧ h' = [(0, C0)] ∧ y0 = (r).length ∧ OwnC 51 x0 z0 r C0) := by
 subst hn0_0
 unfold slices_Clone_Frame at H0
 refine ct_of_cw Tryz.func97 rfl Tryz.ntmps97 rfl (Sat.refl _ _) ?_
 refine sr (oS rfl (nn (cw_seq (sr (oM rfl (oD (stp_eqlNil Tryz.underlying24 rfl) rfl (nn (cw_cond rfl (fun h1 => ?_) (fun h1 => ?_)))))))))
 ·have := True.intro
  obtain rfl : p0_0 = none := by simpa using h1
  obtain rfl : a0 = [] := nil_of_none hr0_0
  obtain rfl : r = [] := (cnt_some H0).1
  exact sr (oS rfl (nn (cw_ret (kw_nx_ret (kw_addNil 0 (kw_ret Tryz.results97 (rT rfl) [(0, [])] [0] ⟨0, [], rfl, rfl, trivial⟩ (by decide) ⟨none, 0, 0, [], rfl, rfl, rfl, (OwnC.nil _ _)⟩))))))
 have := True.intro
 refine cw_skip (kw_nx (sr (oE (stpU_lit0 sl24 1) rfl ?_)))
 rintro _ _ ⟨p2, C3, rfl, rfl, o3⟩
 refine oM rfl ?_
 have e4 : cnt (([] : List F) ++ a0) = some r := H0
 refine oE (stpU_append sl24 rfl (id := 1) rfl (by simp) rfl rfl rfl o3 (Rdb.ro hr0_0) e4) rfl ?_
 rintro _ _ ⟨p5, c6, C7, rfl, rfl, o7⟩
 exact oS rfl (nn (cw_ret (kw_ret Tryz.results97 (rT rfl) [(0, C7)] [1] ⟨1, [], rfl, rfl, trivial⟩ (by decide) ⟨p5, ((r).length), c6, C7, rfl, rfl, rfl, o7⟩)))

theorem c_i_Table_clone (fl : Nat) (w : World) (a0 : T) (hn0_0 : n0_0 = (a0.b).length) (hr0_0 : RO w (hkeys []) (RdL p0_0 c0_0 a0.b)) (hn0_1 : n0_1 = (a0.f).length) (hr0_1 : RO w (hkeys []) (RdL p0_1 c0_1 a0.f)) (r : T) (H0 : i_Table_clone fl a0 = some r) :
  Ct Tryz.prog 61 [.agg #[.slice p0_0 n0_0 c0_0, .slice p0_1 n0_1 c0_1]] w [] (fun rv h' => ∃ (x0 : Option Addr) (y0 z0 : Nat) (C0 : Res) (x1 : Option Addr) (y1 z1 : Nat) (C1 : Res), rv = .agg #[.slice x0 y0 z0, .slice x1 y1 z1] ∧ h' = [(0, C0), (1, C1)] ∧ y0 = (r.b).length ∧ OwnC 3 x0 z0 r.b C0 ∧ y1 = (r.f).length ∧ OwnC 51 x1 z1 r.f C1) := by
 subst hn0_0 hn0_1
 unfold i_Table_clone at H0
 refine ct_of_cw Tryz.func61 rfl Tryz.ntmps61 rfl (Sat.refl _ _) ?_
 refine sr (oE (stpU_box 0 rfl rfl) rfl ?_)
 rintro _ _ ⟨b1, rfl, rfl⟩
 refine oE (stpU_alloc 1 tz26 rfl) rfl ?_
 rintro _ _ ⟨b2, rfl, rfl⟩
 obtain ⟨x3, e3, H0⟩ := bS H0
 refine nn (cw_seq (rdt g_mixed [.n 0, .n 1, .n 4, .n 5, .n 2, .n 3, .n 6, .n 7, .n 8, .n 9] ⟨[[],[0],[],[],[],[0],[],[],[],[1]], [[],[],[2],[],[],[],[3],[],[],[1]], [2,6]⟩ (dA 0 rfl Tryz.underlying26 rfl ts23 rfl (dL 0 ts23 rfl (dA 1 rfl Tryz.underlying26 rfl ts24 rfl (dL 0 ts24 rfl (dE rfl (fun hh => stpU_call (fun i => 2 + i) cf95 (fun w hw => c_slices_Clone_Int fl w a0.b rfl (RO.pass hr0_0 hw) x3 e3) (yA rfl)) ?_)))))))
 rintro _ _ ⟨_, ⟨p4, _, c6, C7, rfl, rfl, rfl, o7⟩, rfl⟩
 obtain ⟨x8, e8, H0⟩ := bS H0
 refine dk rfl (dV rfl (fun hh => stpU_call (fun i => i) cf94 (fun w hw => c_clip94 w p4 ((x3).length) c6 (OwnC.len o7).1) (yA rfl)) rfl (dE rfl (fun hh => stpU_call (fun i => 3 + i) cf97 (fun w hw => c_slices_Clone_Frame fl w a0.f rfl (RO.pass hr0_1 hw) x8 e8) (yA rfl)) ?_))
 rintro _ _ ⟨_, ⟨p9, _, c11, C12, rfl, rfl, rfl, o12⟩, rfl⟩
 refine dk rfl (dV rfl (fun hh => stpU_call (fun i => i) cf96 (fun w hw => c_clip96 w p9 ((x8).length) c11 (OwnC.len o12).1) (yA rfl)) rfl (dD rfl (stp_build (cs := #[.slice p4 ((x3).length) ((x3).length), .slice p9 ((x8).length) ((x8).length)]) (sevp_cons rfl (sevp_cons rfl sevp_nil)) bt26_14) (dC2 1 ts26 rfl rfl rfl (dn (kw_nx (cw_ret ?_))))))
 obtain rfl := sI H0
 exact kr Tryz.results61 (rC2 1 ts26 rfl rfl) [2, 3] ⟨_, _, _, _, _, _, _, _, rfl, rfl, rfl, (OwnC.clip o7), rfl, (OwnC.clip o12)⟩

theorem c_slices_Clone_Line (fl : Nat) (w : World) (a0 : (List Ln)) (hn0_0 : n0_0 = (a0).length) (hr0_0 : RO w (hkeys []) (RdL p0_0 c0_0 a0)) (r : (List Ln)) (H0 : slices_Clone_Line fl a0 = some r) :
  Ct Tryz.prog 63 [.slice p0_0 n0_0 c0_0] w [] (fun rv h' => ∃ (x0 : Option Addr) (y0 z0 : Nat) (C0 : Res), rv = .slice x0 y0 z0 ∧ h' = [(0, C0)] ∧ y0 = (r).length ∧ OwnC 47 x0 z0 r C0) := by
 subst hn0_0
 unfold slices_Clone_Line at H0
 refine ct_of_cw Tryz.func63 rfl Tryz.ntmps63 rfl (Sat.refl _ _) ?_
 refine sr (oS rfl (nn (cw_seq (sr (oM rfl (oD (stp_eqlNil Tryz.underlying27 rfl) rfl (nn (cw_cond rfl (fun h1 => ?_) (fun h1 => ?_)))))))))
 ·have := True.intro
  obtain rfl : p0_0 = none := by simpa using h1
  obtain rfl : a0 = [] := nil_of_none hr0_0
  obtain rfl : r = [] := (cnt_some H0).1
  exact sr (oS rfl (nn (cw_ret (kw_nx_ret (kw_addNil 0 (kw_ret Tryz.results63 (rT rfl) [(0, [])] [0] ⟨0, [], rfl, rfl, trivial⟩ (by decide) ⟨none, 0, 0, [], rfl, rfl, rfl, (OwnC.nil _ _)⟩))))))
 have := True.intro
 refine cw_skip (kw_nx (sr (oE (stpU_lit0 sl27 1) rfl ?_)))
 rintro _ _ ⟨p2, C3, rfl, rfl, o3⟩
 refine oM rfl ?_
 have e4 : cnt (([] : List Ln) ++ a0) = some r := H0
 refine oE (stpU_append sl27 rfl (id := 1) rfl (by simp) rfl rfl rfl o3 (Rdb.ro hr0_0) e4) rfl ?_
 rintro _ _ ⟨p5, c6, C7, rfl, rfl, o7⟩
 exact oS rfl (nn (cw_ret (kw_ret Tryz.results63 (rT rfl) [(0, C7)] [1] ⟨1, [], rfl, rfl, trivial⟩ (by decide) ⟨p5, ((r).length), c6, C7, rfl, rfl, rfl, o7⟩)))

theorem c_slices_Clone_Own (fl : Nat) (w : World) (a0 : (List Ow)) (hn0_0 : n0_0 = (a0).length) (hr0_0 : RO w (hkeys []) (RdL p0_0 c0_0 a0)) (r : (List Ow)) (H0 : slices_Clone_Own fl a0 = some r) :
  Ct Tryz.prog 65 [.slice p0_0 n0_0 c0_0] w [] (fun rv h' => ∃ (x0 : Option Addr) (y0 z0 : Nat) (C0 : Res), rv = .slice x0 y0 z0 ∧ h' = [(0, C0)] ∧ y0 = (r).length ∧ OwnC 89 x0 z0 r C0) := by
 subst hn0_0
 unfold slices_Clone_Own at H0
 refine ct_of_cw Tryz.func65 rfl Tryz.ntmps65 rfl (Sat.refl _ _) ?_
 refine sr (oS rfl (nn (cw_seq (sr (oM rfl (oD (stp_eqlNil Tryz.underlying30 rfl) rfl (nn (cw_cond rfl (fun h1 => ?_) (fun h1 => ?_)))))))))
 ·have := True.intro
  obtain rfl : p0_0 = none := by simpa using h1
  obtain rfl : a0 = [] := nil_of_none hr0_0
  obtain rfl : r = [] := (cnt_some H0).1
  exact sr (oS rfl (nn (cw_ret (kw_nx_ret (kw_addNil 0 (kw_ret Tryz.results65 (rT rfl) [(0, [])] [0] ⟨0, [], rfl, rfl, trivial⟩ (by decide) ⟨none, 0, 0, [], rfl, rfl, rfl, (OwnC.nil _ _)⟩))))))
 have := True.intro
 refine cw_skip (kw_nx (sr (oE (stpU_lit0 sl30 1) rfl ?_)))
 rintro _ _ ⟨p2, C3, rfl, rfl, o3⟩
 refine oM rfl ?_
 have e4 : cnt (([] : List Ow) ++ a0) = some r := H0
 refine oE (stpU_append sl30 rfl (id := 1) rfl (by simp) rfl rfl rfl o3 (Rdb.ro hr0_0) e4) rfl ?_
 rintro _ _ ⟨p5, c6, C7, rfl, rfl, o7⟩
 exact oS rfl (nn (cw_ret (kw_ret Tryz.results65 (rT rfl) [(0, C7)] [1] ⟨1, [], rfl, rfl, trivial⟩ (by decide) ⟨p5, ((r).length), c6, C7, rfl, rfl, rfl, o7⟩)))

theorem c_i_Machine_clone (fl : Nat) (w : World) (a0 : Mc) (hn0_0 : n0_0 = (a0.t.b).length) (hr0_0 : RO w (hkeys []) (RdL p0_0 c0_0 a0.t.b)) (hn0_1 : n0_1 = (a0.t.f).length) (hr0_1 : RO w (hkeys []) (RdL p0_1 c0_1 a0.t.f)) (hn0_2 : n0_2 = (a0.c.l).length) (hr0_2 : RO w (hkeys []) (RdL p0_2 c0_2 a0.c.l)) (hn0_3 : n0_3 = (a0.g.o).length) (hr0_3 : RO w (hkeys []) (RdL p0_3 c0_3 a0.g.o)) (r : Mc) (H0 : i_Machine_clone fl a0 = some r) :
  Ct Tryz.prog 32 [.agg #[.slice p0_0 n0_0 c0_0, .slice p0_1 n0_1 c0_1, .slice p0_2 n0_2 c0_2, .int .i64 a0.c.h, .int .i64 a0.g.c, .int .i64 a0.g.n, .int .i64 a0.g.r, .slice p0_3 n0_3 c0_3, .int .i64 a0.s]] w [] (fun rv h' => ∃ (x0 : Option Addr) (y0 z0 : Nat) (C0 : Res) (x1 : Option Addr) (y1 z1 : Nat) (C1 : Res) (x2 : Option Addr) (y2 z2 : Nat) (C2 : Res) (x3 : Option Addr) (y3 z3 : Nat) (C3 : Res), rv = .agg #[.slice x0 y0 z0, .slice x1 y1 z1, .slice x2 y2 z2, .int .i64 r.c.h, .int .i64 r.g.c, .int .i64 r.g.n, .int .i64 r.g.r, .slice x3 y3 z3, .int .i64 r.s] ∧ h' = [(0, C0), (1, C1), (2, C2), (3, C3)] ∧ y0 = (r.t.b).length ∧ OwnC 3 x0 z0 r.t.b C0 ∧ y1 = (r.t.f).length ∧ OwnC 51 x1 z1 r.t.f C1 ∧ y2 = (r.c.l).length ∧ OwnC 47 x2 z2 r.c.l C2 ∧ y3 = (r.g.o).length ∧ OwnC 89 x3 z3 r.g.o C3) := by
 subst hn0_0 hn0_1 hn0_2 hn0_3
 unfold i_Machine_clone at H0
 refine ct_of_cw Tryz.func32 rfl Tryz.ntmps32 rfl (Sat.refl _ _) ?_
 refine sr (oE (stpU_box 0 rfl rfl) rfl ?_)
 rintro _ _ ⟨b1, rfl, rfl⟩
 refine oE (stpU_alloc 1 tz34 rfl) rfl ?_
 rintro _ _ ⟨b2, rfl, rfl⟩
 obtain ⟨x3, e3, H0⟩ := bS H0
 refine nn (sr (oA 0 Tryz.underlying34 rfl ts26 rfl (oB2 0 ts26 rfl (oE (stpU_call (fun i => 2 + i) cf61 (fun w hw => c_i_Table_clone fl w a0.t rfl (RO.pass hr0_0 hw) rfl (RO.pass hr0_1 hw) x3 e3) (yA rfl)) rfl ?_))))
 rintro _ _ ⟨_, ⟨p4, _, c6, C7, p8, _, c10, C11, rfl, rfl, rfl, o7, rfl, o11⟩, rfl⟩
 obtain ⟨x12, e12, H0⟩ := bS H0
 refine oA 0 Tryz.underlying34 rfl ts26 rfl (oC9 0 ts26 rfl rfl (nn (sr (oA 2 Tryz.underlying34 rfl ts29 rfl (oA 0 Tryz.underlying29 rfl ts27 rfl (oL 0 ts27 rfl (oE (stpU_call (fun i => 4 + i) cf63 (fun w hw => c_slices_Clone_Line fl w a0.c.l rfl (RO.pass hr0_2 hw) x12 e12) (yA rfl)) rfl ?_)))))))
 rintro _ _ ⟨_, ⟨p13, _, c15, C16, rfl, rfl, rfl, o16⟩, rfl⟩
 refine oE (stpU_call (fun i => i) cf62 (fun w hw => c_clip62 w p13 ((x12).length) c15 (OwnC.len o16).1) (yA rfl)) rfl ?_
 rintro _ _ ⟨_, ⟨rfl, rfl⟩, rfl⟩
 obtain ⟨x17, e17, H0⟩ := bS H0
 refine oA 2 Tryz.underlying34 rfl ts29 rfl (oA 0 Tryz.underlying29 rfl ts27 rfl (oC9 0 ts27 rfl rfl (nn (sr (oA 4 Tryz.underlying34 rfl ts32 rfl (oA 3 Tryz.underlying32 rfl ts30 rfl (oL 0 ts30 rfl (oE (stpU_call (fun i => 5 + i) cf65 (fun w hw => c_slices_Clone_Own fl w a0.g.o rfl (RO.pass hr0_3 hw) x17 e17) (yA rfl)) rfl ?_))))))))
 rintro _ _ ⟨_, ⟨p18, _, c20, C21, rfl, rfl, rfl, o21⟩, rfl⟩
 refine oE (stpU_call (fun i => i) cf64 (fun w hw => c_clip64 w p18 ((x17).length) c20 (OwnC.len o21).1) (yA rfl)) rfl ?_
 rintro _ _ ⟨_, ⟨rfl, rfl⟩, rfl⟩
 refine oA 4 Tryz.underlying34 rfl ts32 rfl (oA 3 Tryz.underlying32 rfl ts30 rfl (oC9 0 ts30 rfl rfl (nn (sr (oB9 0 ts34 rfl (oC9 1 ts34 rfl rfl (nn (cw_ret ?_))))))))
 obtain rfl := sI H0
 exact kr Tryz.results32 (rC9 1 ts34 rfl rfl) [2, 3, 4, 5] ⟨_, _, _, _, _, _, _, _, _, _, _, _, _, _, _, _, rfl, rfl, rfl, o7, rfl, o11, rfl, (OwnC.clip o16), rfl, (OwnC.clip o21)⟩

theorem c_slices_Clone_Bool (fl : Nat) (w : World) (a0 : (List Bool)) (hn0_0 : n0_0 = (a0).length) (hr0_0 : RO w (hkeys []) (RdL p0_0 c0_0 a0)) (r : (List Bool)) (H0 : slices_Clone_Bool fl a0 = some r) :
  Ct Tryz.prog 34 [.slice p0_0 n0_0 c0_0] w [] (fun rv h' => ∃ (x0 : Option Addr) (y0 z0 : Nat) (C0 : Res), rv = .slice x0 y0 z0 ∧ h' = [(0, C0)] ∧ y0 = (r).length ∧ OwnC 4 x0 z0 r C0) := by
 subst hn0_0
 unfold slices_Clone_Bool at H0
 refine ct_of_cw Tryz.func34 rfl Tryz.ntmps34 rfl (Sat.refl _ _) ?_
 refine sr (oS rfl (nn (cw_seq (sr (oM rfl (oD (stp_eqlNil Tryz.underlying35 rfl) rfl (nn (cw_cond rfl (fun h1 => ?_) (fun h1 => ?_)))))))))
 ·have := True.intro
  obtain rfl : p0_0 = none := by simpa using h1
  obtain rfl : a0 = [] := nil_of_none hr0_0
  obtain rfl : r = [] := (cnt_some H0).1
  exact sr (oS rfl (nn (cw_ret (kw_nx_ret (kw_addNil 0 (kw_ret Tryz.results34 (rT rfl) [(0, [])] [0] ⟨0, [], rfl, rfl, trivial⟩ (by decide) ⟨none, 0, 0, [], rfl, rfl, rfl, (OwnC.nil _ _)⟩))))))
 have := True.intro
 refine cw_skip (kw_nx (sr (oE (stpU_lit0 sl35 1) rfl ?_)))
 rintro _ _ ⟨p2, C3, rfl, rfl, o3⟩
 refine oM rfl ?_
 have e4 : cnt (([] : List Bool) ++ a0) = some r := H0
 refine oE (stpU_append sl35 rfl (id := 1) rfl (by simp) rfl rfl rfl o3 (Rdb.ro hr0_0) e4) rfl ?_
 rintro _ _ ⟨p5, c6, C7, rfl, rfl, o7⟩
 exact oS rfl (nn (cw_ret (kw_ret Tryz.results34 (rT rfl) [(0, C7)] [1] ⟨1, [], rfl, rfl, trivial⟩ (by decide) ⟨p5, ((r).length), c6, C7, rfl, rfl, rfl, o7⟩)))

theorem c_i_Memory_clone (fl : Nat) (w : World) (a0 : Mm) (hn0_0 : n0_0 = (a0.m.t.b).length) (hr0_0 : RO w (hkeys []) (RdL p0_0 c0_0 a0.m.t.b)) (hn0_1 : n0_1 = (a0.m.t.f).length) (hr0_1 : RO w (hkeys []) (RdL p0_1 c0_1 a0.m.t.f)) (hn0_2 : n0_2 = (a0.m.c.l).length) (hr0_2 : RO w (hkeys []) (RdL p0_2 c0_2 a0.m.c.l)) (hn0_3 : n0_3 = (a0.m.g.o).length) (hr0_3 : RO w (hkeys []) (RdL p0_3 c0_3 a0.m.g.o)) (hn0_4 : n0_4 = (a0.k).length) (hr0_4 : RO w (hkeys []) (RdL p0_4 c0_4 a0.k)) (r : Mm) (H0 : i_Memory_clone fl a0 = some r) :
  Ct Tryz.prog 17 [.agg #[.slice p0_0 n0_0 c0_0, .slice p0_1 n0_1 c0_1, .slice p0_2 n0_2 c0_2, .int .i64 a0.m.c.h, .int .i64 a0.m.g.c, .int .i64 a0.m.g.n, .int .i64 a0.m.g.r, .slice p0_3 n0_3 c0_3, .int .i64 a0.m.s, .slice p0_4 n0_4 c0_4, .int .i64 a0.h]] w [] (fun rv h' => ∃ (x0 : Option Addr) (y0 z0 : Nat) (C0 : Res) (x1 : Option Addr) (y1 z1 : Nat) (C1 : Res) (x2 : Option Addr) (y2 z2 : Nat) (C2 : Res) (x3 : Option Addr) (y3 z3 : Nat) (C3 : Res) (x4 : Option Addr) (y4 z4 : Nat) (C4 : Res), rv = .agg #[.slice x0 y0 z0, .slice x1 y1 z1, .slice x2 y2 z2, .int .i64 r.m.c.h, .int .i64 r.m.g.c, .int .i64 r.m.g.n, .int .i64 r.m.g.r, .slice x3 y3 z3, .int .i64 r.m.s, .slice x4 y4 z4, .int .i64 r.h] ∧ h' = [(0, C0), (1, C1), (2, C2), (3, C3), (4, C4)] ∧ y0 = (r.m.t.b).length ∧ OwnC 3 x0 z0 r.m.t.b C0 ∧ y1 = (r.m.t.f).length ∧ OwnC 51 x1 z1 r.m.t.f C1 ∧ y2 = (r.m.c.l).length ∧ OwnC 47 x2 z2 r.m.c.l C2 ∧ y3 = (r.m.g.o).length ∧ OwnC 89 x3 z3 r.m.g.o C3 ∧ y4 = (r.k).length ∧ OwnC 4 x4 z4 r.k C4) := by
 subst hn0_0 hn0_1 hn0_2 hn0_3 hn0_4
 unfold i_Memory_clone at H0
 refine ct_of_cw Tryz.func17 rfl Tryz.ntmps17 rfl (Sat.refl _ _) ?_
 refine sr (oE (stpU_box 0 rfl rfl) rfl ?_)
 rintro _ _ ⟨b1, rfl, rfl⟩
 refine oE (stpU_alloc 1 tz37 rfl) rfl ?_
 rintro _ _ ⟨b2, rfl, rfl⟩
 obtain ⟨x3, e3, H0⟩ := bS H0
 refine nn (sr (oA 0 Tryz.underlying37 rfl ts34 rfl (oB9 0 ts34 rfl (oE (stpU_call (fun i => 2 + i) cf32 (fun w hw => c_i_Machine_clone fl w a0.m rfl (RO.pass hr0_0 hw) rfl (RO.pass hr0_1 hw) rfl (RO.pass hr0_2 hw) rfl (RO.pass hr0_3 hw) x3 e3) (yA rfl)) rfl ?_))))
 rintro _ _ ⟨_, ⟨p4, _, c6, C7, p8, _, c10, C11, p12, _, c14, C15, p16, _, c18, C19, rfl, rfl, rfl, o7, rfl, o11, rfl, o15, rfl, o19⟩, rfl⟩
 obtain ⟨x20, e20, H0⟩ := bS H0
 refine oA 0 Tryz.underlying37 rfl ts34 rfl (oC11 0 ts34 rfl rfl (nn (sr (oA 9 Tryz.underlying37 rfl ts35 rfl (oL 0 ts35 rfl (oE (stpU_call (fun i => 6 + i) cf34 (fun w hw => c_slices_Clone_Bool fl w a0.k rfl (RO.pass hr0_4 hw) x20 e20) (yA rfl)) rfl ?_))))))
 rintro _ _ ⟨_, ⟨p21, _, c23, C24, rfl, rfl, rfl, o24⟩, rfl⟩
 refine oE (stpU_call (fun i => i) cf33 (fun w hw => c_clip33 w p21 ((x20).length) c23 (OwnC.len o24).1) (yA rfl)) rfl ?_
 rintro _ _ ⟨_, ⟨rfl, rfl⟩, rfl⟩
 refine oA 9 Tryz.underlying37 rfl ts35 rfl (oC11 0 ts35 rfl rfl (nn (sr (oB11 0 ts37 rfl (oC11 1 ts37 rfl rfl (nn (cw_ret ?_)))))))
 obtain rfl := sI H0
 exact kr Tryz.results17 (rC11 1 ts37 rfl rfl) [2, 3, 4, 5, 6] ⟨_, _, _, _, _, _, _, _, _, _, _, _, _, _, _, _, _, _, _, _, rfl, rfl, rfl, o7, rfl, o11, rfl, o15, rfl, o19, rfl, (OwnC.clip o24)⟩

theorem c_slices_Equal_Int (fl : Nat) (w : World) (a0 : (List Int)) (a1 : (List Int)) (hn0_0 : n0_0 = (a0).length) (hr0_0 : RO w (hkeys []) (RdL p0_0 c0_0 a0)) (hn1_0 : n1_0 = (a1).length) (hr1_0 : RO w (hkeys []) (RdL p1_0 c1_0 a1)) (r : Bool) (H0 : slices_Equal_Int fl a0 a1 = some r) :
  Ct Tryz.prog 50 [.slice p0_0 n0_0 c0_0, .slice p1_0 n1_0 c1_0] w [] (fun rv h' => rv = .bool r ∧ h' = []) := by
 subst hn0_0 hn1_0
 unfold slices_Equal_Int at H0
 refine ct_of_cw Tryz.func50 rfl Tryz.ntmps50 rfl (Sat.refl _ _) ?_
 refine sr (oS rfl (nn (cw_seq (sr (oM rfl (oD (stp_len Tryz.underlying23 rfl) rfl (oM rfl (oD (stp_len Tryz.underlying23 rfl) rfl (oU rfl (nn (cw_cond rfl (fun h1 => ?_) (fun h1 => ?_))))))))))))
 ·have H0 := cond_t H0 h1
  refine sr (oS rfl (nn (cw_ret (kw_nx_ret ?_))))
  obtain rfl := sI H0
  exact kr Tryz.results50 (rT rfl) [] ⟨rfl, rfl⟩
 have H0 := cond_f H0 h1
 obtain ⟨o0_0, eo0_0, H0⟩ := bS H0
 refine cw_skip (kw_nx (cw_seq (sr (oM rfl (oD (stp_len Tryz.underlying23 rfl) rfl (oM rfl (nn (cw_join (ι := Int) (fun | v2 => o0_0 = .out v2) (fun | v2 => [(0, .slice p0_0 ((a0).length) c0_0), (1, .slice p1_0 ((a1).length) c1_0), (12, .int .i64 ((a0).length : Int)), (13, .int .i64 v2)]) (fun | v2 => []) ?_ ?_))))))))
 ·refine cw_block (cw_loopS (ι := Nat × Int) (js := []) (fun x => x.1) (fun | (fuel, v2) => slices_Equal_Int_L0 fl a0 a1 fuel v2 = some o0_0) (fun | (_, v2) => [(0, .slice p0_0 ((a0).length) c0_0), (1, .slice p1_0 ((a1).length) c1_0), (12, .int .i64 ((a0).length : Int)), (13, .int .i64 v2)]) (fun | (_, v2) => []) (fl, 0) eo0_0 ⟨rfl, rfl, rfl, rfl, trivial⟩ trivial (by decide) ?_)
  rintro ⟨fuel, v2⟩ H1
  have H1 : slices_Equal_Int_L0 fl a0 a1 fuel v2 = some o0_0 := H1
  rcases fuel with _ | fuel
  ·rw [slices_Equal_Int_L0.eq_1] at H1; cases H1
  rw [slices_Equal_Int_L0.eq_2] at H1
  dsimp only
  refine sr (oW rfl (nn (cw_seq (cw_cond rfl (fun h3 => ?_) (fun h3 => ?_)))))
  ·have H1 := cond_t H1 h3
   obtain ⟨x4, e4, H1⟩ := bS H1
   refine cw_skip (kw_nx (cw_seq (cw_block (sr (oM rfl (oS rfl (nn (cw_seq (rdt g_mixed (rn 0 9) ⟨[], [], []⟩ (dM rfl (dM rfl (dD rfl (stp_indexAddr Tryz.underlying23 ts3 (by decide) rfl rfl rfl (Rdb.ro hr0_0) e4) (dD rfl (stp_load1 ts3 rfl (Cells.el (Rdb.ro hr0_0) (by decide) e4 0 1 rfl)) ?_)))))))))))))
   obtain ⟨x5, e5, H1⟩ := bS H1
   refine dM rfl (dM rfl (dD rfl (stp_indexAddr Tryz.underlying23 ts3 (by decide) rfl rfl rfl (Rdb.ro hr1_0) e5) (dD rfl (stp_load1 ts3 rfl (Cells.el (Rdb.ro hr1_0) (by decide) e5 0 1 rfl)) (dNe rfl (dn (kw_nx (cw_cond rfl (fun h6 => ?_) (fun h6 => ?_))))))))
   ·have H1 := cond_t H1 h6
    refine sr (oS rfl (nn (cw_ret (kw_bl_ret (kw_nx_ret (kw_lq_ret (kw_bl_ret (kw_join_ret (kw_nx_ret ?_)))))))))
    obtain rfl := sI H1
    obtain rfl := sI H0
    exact kr Tryz.results50 (rT rfl) [] ⟨rfl, rfl⟩
   have H1 := cond_f H1 h6
   obtain ⟨x7, e7, H1⟩ := bS H1
   exact cw_skip (kw_bl_normal (kw_nx (cw_region (oP e7 rfl (oM rfl (ow_nil (kw_lqS (js := []) (fuel, x7) H1 (Nat.lt_succ_self _) ⟨rfl, rfl, rfl, rfl, trivial⟩ trivial (by decide))))))))
  have H1 := cond_f H1 h3
  refine cw_exit (kw_nx_exit (kw_lq_exit (kw_bl ?_)))
  obtain rfl := sI H1
  exact kw_joinS (js := []) v2 rfl ⟨rfl, rfl, rfl, rfl, trivial⟩ trivial (by decide)
 rintro v2 rfl
 dsimp only
 refine kw_nx (sr (oS rfl (nn (cw_ret ?_))))
 obtain rfl := sI H0
 exact kr Tryz.results50 (rT rfl) [] ⟨rfl, rfl⟩

theorem c_slices_Equal_Frame (fl : Nat) (w : World) (a0 : (List F)) (a1 : (List F)) (hn0_0 : n0_0 = (a0).length) (hr0_0 : RO w (hkeys []) (RdL p0_0 c0_0 a0)) (hn1_0 : n1_0 = (a1).length) (hr1_0 : RO w (hkeys []) (RdL p1_0 c1_0 a1)) (r : Bool) (H0 : slices_Equal_Frame fl a0 a1 = some r) :
  Ct Tryz.prog 51 [.slice p0_0 n0_0 c0_0, .slice p1_0 n1_0 c1_0] w [] (fun rv h' => rv = .bool r ∧ h' = []) := by
 subst hn0_0 hn1_0
 unfold slices_Equal_Frame at H0
 refine ct_of_cw Tryz.func51 rfl Tryz.ntmps51 rfl (Sat.refl _ _) ?_
 refine sr (oS rfl (nn (cw_seq (sr (oM rfl (oD (stp_len Tryz.underlying24 rfl) rfl (oM rfl (oD (stp_len Tryz.underlying24 rfl) rfl (oU rfl (nn (cw_cond rfl (fun h1 => ?_) (fun h1 => ?_))))))))))))
 ·have H0 := cond_t H0 h1
  refine sr (oS rfl (nn (cw_ret (kw_nx_ret ?_))))
  obtain rfl := sI H0
  exact kr Tryz.results51 (rT rfl) [] ⟨rfl, rfl⟩
 have H0 := cond_f H0 h1
 obtain ⟨o0_0, eo0_0, H0⟩ := bS H0
 refine cw_skip (kw_nx (cw_seq (sr (oM rfl (oD (stp_len Tryz.underlying24 rfl) rfl (oM rfl (nn (cw_join (ι := Int) (fun | v2 => o0_0 = .out v2) (fun | v2 => [(0, .slice p0_0 ((a0).length) c0_0), (1, .slice p1_0 ((a1).length) c1_0), (12, .int .i64 ((a0).length : Int)), (13, .int .i64 v2)]) (fun | v2 => []) ?_ ?_))))))))
 ·refine cw_block (cw_loopS (ι := Nat × Int) (js := []) (fun x => x.1) (fun | (fuel, v2) => slices_Equal_Frame_L0 fl a0 a1 fuel v2 = some o0_0) (fun | (_, v2) => [(0, .slice p0_0 ((a0).length) c0_0), (1, .slice p1_0 ((a1).length) c1_0), (12, .int .i64 ((a0).length : Int)), (13, .int .i64 v2)]) (fun | (_, v2) => []) (fl, 0) eo0_0 ⟨rfl, rfl, rfl, rfl, trivial⟩ trivial (by decide) ?_)
  rintro ⟨fuel, v2⟩ H1
  have H1 : slices_Equal_Frame_L0 fl a0 a1 fuel v2 = some o0_0 := H1
  rcases fuel with _ | fuel
  ·rw [slices_Equal_Frame_L0.eq_1] at H1; cases H1
  rw [slices_Equal_Frame_L0.eq_2] at H1
  dsimp only
  refine sr (oW rfl (nn (cw_seq (cw_cond rfl (fun h3 => ?_) (fun h3 => ?_)))))
  ·have H1 := cond_t H1 h3
   obtain ⟨x4, e4, H1⟩ := bS H1
   refine cw_skip (kw_nx (cw_seq (cw_block (sr (oM rfl (oS rfl (nn (cw_seq (rdt g_mixed (rn 0 9) ⟨[], [], []⟩ (dM rfl (dM rfl (dD rfl (stp_indexAddr Tryz.underlying24 ts51 (by decide) rfl rfl rfl (Rdb.ro hr0_0) e4) (dD rfl (stp_loadN (us := [_, _, _, _, _]) ts51 rfl (Cells.el (Rdb.ro hr0_0) (by decide) e4 0 5 rfl)) ?_)))))))))))))
   obtain ⟨x5, e5, H1⟩ := bS H1
   refine dM rfl (dM rfl (dD rfl (stp_indexAddr Tryz.underlying24 ts51 (by decide) rfl rfl rfl (Rdb.ro hr1_0) e5) (dD rfl (stp_loadN (us := [_, _, _, _, _]) ts51 rfl (Cells.el (Rdb.ro hr1_0) (by decide) e5 0 5 rfl)) (dD rfl (stp_neqS te51 x4 x5 rfl rfl) (dn (kw_nx (cw_cond rfl (fun h6 => ?_) (fun h6 => ?_))))))))
   ·have H1 := cond_t H1 h6
    refine sr (oS rfl (nn (cw_ret (kw_bl_ret (kw_nx_ret (kw_lq_ret (kw_bl_ret (kw_join_ret (kw_nx_ret ?_)))))))))
    obtain rfl := sI H1
    obtain rfl := sI H0
    exact kr Tryz.results51 (rT rfl) [] ⟨rfl, rfl⟩
   have H1 := cond_f H1 h6
   obtain ⟨x7, e7, H1⟩ := bS H1
   exact cw_skip (kw_bl_normal (kw_nx (cw_region (oP e7 rfl (oM rfl (ow_nil (kw_lqS (js := []) (fuel, x7) H1 (Nat.lt_succ_self _) ⟨rfl, rfl, rfl, rfl, trivial⟩ trivial (by decide))))))))
  have H1 := cond_f H1 h3
  refine cw_exit (kw_nx_exit (kw_lq_exit (kw_bl ?_)))
  obtain rfl := sI H1
  exact kw_joinS (js := []) v2 rfl ⟨rfl, rfl, rfl, rfl, trivial⟩ trivial (by decide)
 rintro v2 rfl
 dsimp only
 refine kw_nx (sr (oS rfl (nn (cw_ret ?_))))
 obtain rfl := sI H0
 exact kr Tryz.results51 (rT rfl) [] ⟨rfl, rfl⟩

theorem c_i_TableSame (fl : Nat) (w : World) (a0 : T) (a1 : T) (hn0_0 : n0_0 = (a0.b).length) (hr0_0 : RO w (hkeys []) (RdL p0_0 c0_0 a0.b)) (hn0_1 : n0_1 = (a0.f).length) (hr0_1 : RO w (hkeys []) (RdL p0_1 c0_1 a0.f)) (hn1_0 : n1_0 = (a1.b).length) (hr1_0 : RO w (hkeys []) (RdL p1_0 c1_0 a1.b)) (hn1_1 : n1_1 = (a1.f).length) (hr1_1 : RO w (hkeys []) (RdL p1_1 c1_1 a1.f)) (r : Bool) (H0 : i_TableSame fl a0 a1 = some r) :
  Ct Tryz.prog 26 [.agg #[.slice p0_0 n0_0 c0_0, .slice p0_1 n0_1 c0_1], .agg #[.slice p1_0 n1_0 c1_0, .slice p1_1 n1_1 c1_1]] w [] (fun rv h' => rv = .bool r ∧ h' = []) := by
 subst hn0_0 hn0_1 hn1_0 hn1_1
 unfold i_TableSame at H0
 refine ct_of_cw Tryz.func26 rfl Tryz.ntmps26 rfl (Sat.refl _ _) ?_
 refine sr (oE (stpU_box 0 rfl rfl) rfl ?_)
 rintro _ _ ⟨b1, rfl, rfl⟩
 refine oE (stpU_box 1 rfl rfl) rfl ?_
 rintro _ _ ⟨b2, rfl, rfl⟩
 obtain ⟨x3, e3, H0⟩ := bS H0
 refine oS rfl (nn (sr (oA 0 Tryz.underlying26 rfl ts23 rfl (oL 0 ts23 rfl (oA 0 Tryz.underlying26 rfl ts23 rfl (oL 1 ts23 rfl (oE (stpU_call (fun i => 2 + i) cf50 (fun w hw => c_slices_Equal_Int fl w a0.b a1.b rfl (RO.pass hr0_0 hw) rfl (RO.pass hr1_0 hw) x3 e3) (yB rfl rfl)) rfl ?_)))))))
 rintro _ _ ⟨_, ⟨rfl, rfl⟩, rfl⟩
 obtain ⟨y4, ey4, H0⟩ := bS H0
 refine oM rfl (ow_cutY 6 16 y4 ?_ ?_)
 ·rcases Bool.eq_false_or_eq_true x3 with hy4 | hy4
  ·have ey4 := cond_t ey4 hy4
   obtain ⟨x5, e5, ey4⟩ := bS ey4
   refine oG rfl hy4 (fA 1 Tryz.underlying26 rfl ts24 rfl rfl rfl) rfl (oG rfl hy4 (lB 0 ts24 rfl rfl rfl) rfl (oG rfl hy4 (fA 1 Tryz.underlying26 rfl ts24 rfl rfl rfl) rfl (oG rfl hy4 (lB 1 ts24 rfl rfl rfl) rfl (ow_eff (.some rfl hy4) (stpU_call (fun i => 2 + i) cf51 (fun w hw => c_slices_Equal_Frame fl w a0.f a1.f rfl (RO.pass hr0_1 hw) rfl (RO.pass hr1_1 hw) x5 e5) (yB rfl rfl)) rfl ?_))))
   rintro _ _ ⟨_, ⟨rfl, rfl⟩, rfl⟩
   refine oD (stp_pick_t rfl hy4 rfl) rfl ?_
   obtain rfl := sI ey4
   exact ow_nil (jy 6 0)
  have ey4 := cond_f ey4 hy4
  refine oO rfl hy4 rfl (oO rfl hy4 rfl (oO rfl hy4 rfl (oO rfl hy4 rfl (oO rfl hy4 rfl (oD (stp_pick_f rfl hy4 rfl) rfl ?_)))))
  obtain rfl := sI ey4
  exact ow_nil (jy 6 0)
 refine oS rfl (nn (cw_ret ?_))
 obtain rfl := sI H0
 exact kr Tryz.results26 (rT rfl) [] ⟨rfl, rfl⟩

theorem c_slices_Equal_Line (fl : Nat) (w : World) (a0 : (List Ln)) (a1 : (List Ln)) (hn0_0 : n0_0 = (a0).length) (hr0_0 : RO w (hkeys []) (RdL p0_0 c0_0 a0)) (hn1_0 : n1_0 = (a1).length) (hr1_0 : RO w (hkeys []) (RdL p1_0 c1_0 a1)) (r : Bool) (H0 : slices_Equal_Line fl a0 a1 = some r) :
  Ct Tryz.prog 52 [.slice p0_0 n0_0 c0_0, .slice p1_0 n1_0 c1_0] w [] (fun rv h' => rv = .bool r ∧ h' = []) := by
 subst hn0_0 hn1_0
 unfold slices_Equal_Line at H0
 refine ct_of_cw Tryz.func52 rfl Tryz.ntmps52 rfl (Sat.refl _ _) ?_
 refine sr (oS rfl (nn (cw_seq (sr (oM rfl (oD (stp_len Tryz.underlying27 rfl) rfl (oM rfl (oD (stp_len Tryz.underlying27 rfl) rfl (oU rfl (nn (cw_cond rfl (fun h1 => ?_) (fun h1 => ?_))))))))))))
 ·have H0 := cond_t H0 h1
  refine sr (oS rfl (nn (cw_ret (kw_nx_ret ?_))))
  obtain rfl := sI H0
  exact kr Tryz.results52 (rT rfl) [] ⟨rfl, rfl⟩
 have H0 := cond_f H0 h1
 obtain ⟨o0_0, eo0_0, H0⟩ := bS H0
 refine cw_skip (kw_nx (cw_seq (sr (oM rfl (oD (stp_len Tryz.underlying27 rfl) rfl (oM rfl (nn (cw_join (ι := Int) (fun | v2 => o0_0 = .out v2) (fun | v2 => [(0, .slice p0_0 ((a0).length) c0_0), (1, .slice p1_0 ((a1).length) c1_0), (12, .int .i64 ((a0).length : Int)), (13, .int .i64 v2)]) (fun | v2 => []) ?_ ?_))))))))
 ·refine cw_block (cw_loopS (ι := Nat × Int) (js := []) (fun x => x.1) (fun | (fuel, v2) => slices_Equal_Line_L0 fl a0 a1 fuel v2 = some o0_0) (fun | (_, v2) => [(0, .slice p0_0 ((a0).length) c0_0), (1, .slice p1_0 ((a1).length) c1_0), (12, .int .i64 ((a0).length : Int)), (13, .int .i64 v2)]) (fun | (_, v2) => []) (fl, 0) eo0_0 ⟨rfl, rfl, rfl, rfl, trivial⟩ trivial (by decide) ?_)
  rintro ⟨fuel, v2⟩ H1
  have H1 : slices_Equal_Line_L0 fl a0 a1 fuel v2 = some o0_0 := H1
  rcases fuel with _ | fuel
  ·rw [slices_Equal_Line_L0.eq_1] at H1; cases H1
  rw [slices_Equal_Line_L0.eq_2] at H1
  dsimp only
  refine sr (oW rfl (nn (cw_seq (cw_cond rfl (fun h3 => ?_) (fun h3 => ?_)))))
  ·have H1 := cond_t H1 h3
   obtain ⟨x4, e4, H1⟩ := bS H1
   refine cw_skip (kw_nx (cw_seq (cw_block (sr (oM rfl (oS rfl (nn (cw_seq (rdt g_mixed (rn 0 9) ⟨[], [], []⟩ (dM rfl (dM rfl (dD rfl (stp_indexAddr Tryz.underlying27 ts47 (by decide) rfl rfl rfl (Rdb.ro hr0_0) e4) (dD rfl (stp_loadN (us := [_, _, _, _, _, _]) ts47 rfl (Cells.el (Rdb.ro hr0_0) (by decide) e4 0 6 rfl)) ?_)))))))))))))
   obtain ⟨x5, e5, H1⟩ := bS H1
   refine dM rfl (dM rfl (dD rfl (stp_indexAddr Tryz.underlying27 ts47 (by decide) rfl rfl rfl (Rdb.ro hr1_0) e5) (dD rfl (stp_loadN (us := [_, _, _, _, _, _]) ts47 rfl (Cells.el (Rdb.ro hr1_0) (by decide) e5 0 6 rfl)) (dD rfl (stp_neqS te47 x4 x5 rfl rfl) (dn (kw_nx (cw_cond rfl (fun h6 => ?_) (fun h6 => ?_))))))))
   ·have H1 := cond_t H1 h6
    refine sr (oS rfl (nn (cw_ret (kw_bl_ret (kw_nx_ret (kw_lq_ret (kw_bl_ret (kw_join_ret (kw_nx_ret ?_)))))))))
    obtain rfl := sI H1
    obtain rfl := sI H0
    exact kr Tryz.results52 (rT rfl) [] ⟨rfl, rfl⟩
   have H1 := cond_f H1 h6
   obtain ⟨x7, e7, H1⟩ := bS H1
   exact cw_skip (kw_bl_normal (kw_nx (cw_region (oP e7 rfl (oM rfl (ow_nil (kw_lqS (js := []) (fuel, x7) H1 (Nat.lt_succ_self _) ⟨rfl, rfl, rfl, rfl, trivial⟩ trivial (by decide))))))))
  have H1 := cond_f H1 h3
  refine cw_exit (kw_nx_exit (kw_lq_exit (kw_bl ?_)))
  obtain rfl := sI H1
  exact kw_joinS (js := []) v2 rfl ⟨rfl, rfl, rfl, rfl, trivial⟩ trivial (by decide)
 rintro v2 rfl
 dsimp only
 refine kw_nx (sr (oS rfl (nn (cw_ret ?_))))
 obtain rfl := sI H0
 exact kr Tryz.results52 (rT rfl) [] ⟨rfl, rfl⟩

theorem c_i_CacheSame (fl : Nat) (w : World) (a0 : Ca) (a1 : Ca) (hn0_0 : n0_0 = (a0.l).length) (hr0_0 : RO w (hkeys []) (RdL p0_0 c0_0 a0.l)) (hn1_0 : n1_0 = (a1.l).length) (hr1_0 : RO w (hkeys []) (RdL p1_0 c1_0 a1.l)) (r : Bool) (H0 : i_CacheSame fl a0 a1 = some r) :
  Ct Tryz.prog 27 [.agg #[.slice p0_0 n0_0 c0_0, .int .i64 a0.h], .agg #[.slice p1_0 n1_0 c1_0, .int .i64 a1.h]] w [] (fun rv h' => rv = .bool r ∧ h' = []) := by
 subst hn0_0 hn1_0
 unfold i_CacheSame at H0
 refine ct_of_cw Tryz.func27 rfl Tryz.ntmps27 rfl (Sat.refl _ _) ?_
 refine sr (oE (stpU_box 0 rfl rfl) rfl ?_)
 rintro _ _ ⟨b1, rfl, rfl⟩
 refine oE (stpU_box 1 rfl rfl) rfl ?_
 rintro _ _ ⟨b2, rfl, rfl⟩
 obtain ⟨y3, ey3, H0⟩ := bS H0
 refine oS rfl (nn (sr (oA 1 Tryz.underlying29 rfl ts3 rfl (oL 0 ts3 rfl (oA 1 Tryz.underlying29 rfl ts3 rfl (oL 1 ts3 rfl (oQ rfl (oM rfl (ow_cutY 6 16 y3 ?_ ?_)))))))))
 ·rcases Bool.eq_false_or_eq_true (a0.h == a1.h) with hy3 | hy3
  ·have ey3 := cond_t ey3 hy3
   obtain ⟨x4, e4, ey3⟩ := bS ey3
   refine oG rfl hy3 (fA 0 Tryz.underlying29 rfl ts27 rfl rfl rfl) rfl (oG rfl hy3 (lB 0 ts27 rfl rfl rfl) rfl (oG rfl hy3 (fA 0 Tryz.underlying29 rfl ts27 rfl rfl rfl) rfl (oG rfl hy3 (lB 1 ts27 rfl rfl rfl) rfl (ow_eff (.some rfl hy3) (stpU_call (fun i => 2 + i) cf52 (fun w hw => c_slices_Equal_Line fl w a0.l a1.l rfl (RO.pass hr0_0 hw) rfl (RO.pass hr1_0 hw) x4 e4) (yB rfl rfl)) rfl ?_))))
   rintro _ _ ⟨_, ⟨rfl, rfl⟩, rfl⟩
   refine oD (stp_pick_t rfl hy3 rfl) rfl ?_
   obtain rfl := sI ey3
   exact ow_nil (jy 6 0)
  have ey3 := cond_f ey3 hy3
  refine oO rfl hy3 rfl (oO rfl hy3 rfl (oO rfl hy3 rfl (oO rfl hy3 rfl (oO rfl hy3 rfl (oD (stp_pick_f rfl hy3 rfl) rfl ?_)))))
  obtain rfl := sI ey3
  exact ow_nil (jy 6 0)
 refine oS rfl (nn (cw_ret ?_))
 obtain rfl := sI H0
 exact kr Tryz.results27 (rT rfl) [] ⟨rfl, rfl⟩

theorem c_slices_Equal_Own (fl : Nat) (w : World) (a0 : (List Ow)) (a1 : (List Ow)) (hn0_0 : n0_0 = (a0).length) (hr0_0 : RO w (hkeys []) (RdL p0_0 c0_0 a0)) (hn1_0 : n1_0 = (a1).length) (hr1_0 : RO w (hkeys []) (RdL p1_0 c1_0 a1)) (r : Bool) (H0 : slices_Equal_Own fl a0 a1 = some r) :
  Ct Tryz.prog 53 [.slice p0_0 n0_0 c0_0, .slice p1_0 n1_0 c1_0] w [] (fun rv h' => rv = .bool r ∧ h' = []) := by
 subst hn0_0 hn1_0
 unfold slices_Equal_Own at H0
 refine ct_of_cw Tryz.func53 rfl Tryz.ntmps53 rfl (Sat.refl _ _) ?_
 refine sr (oS rfl (nn (cw_seq (sr (oM rfl (oD (stp_len Tryz.underlying30 rfl) rfl (oM rfl (oD (stp_len Tryz.underlying30 rfl) rfl (oU rfl (nn (cw_cond rfl (fun h1 => ?_) (fun h1 => ?_))))))))))))
 ·have H0 := cond_t H0 h1
  refine sr (oS rfl (nn (cw_ret (kw_nx_ret ?_))))
  obtain rfl := sI H0
  exact kr Tryz.results53 (rT rfl) [] ⟨rfl, rfl⟩
 have H0 := cond_f H0 h1
 obtain ⟨o0_0, eo0_0, H0⟩ := bS H0
 refine cw_skip (kw_nx (cw_seq (sr (oM rfl (oD (stp_len Tryz.underlying30 rfl) rfl (oM rfl (nn (cw_join (ι := Int) (fun | v2 => o0_0 = .out v2) (fun | v2 => [(0, .slice p0_0 ((a0).length) c0_0), (1, .slice p1_0 ((a1).length) c1_0), (12, .int .i64 ((a0).length : Int)), (13, .int .i64 v2)]) (fun | v2 => []) ?_ ?_))))))))
 ·refine cw_block (cw_loopS (ι := Nat × Int) (js := []) (fun x => x.1) (fun | (fuel, v2) => slices_Equal_Own_L0 fl a0 a1 fuel v2 = some o0_0) (fun | (_, v2) => [(0, .slice p0_0 ((a0).length) c0_0), (1, .slice p1_0 ((a1).length) c1_0), (12, .int .i64 ((a0).length : Int)), (13, .int .i64 v2)]) (fun | (_, v2) => []) (fl, 0) eo0_0 ⟨rfl, rfl, rfl, rfl, trivial⟩ trivial (by decide) ?_)
  rintro ⟨fuel, v2⟩ H1
  have H1 : slices_Equal_Own_L0 fl a0 a1 fuel v2 = some o0_0 := H1
  rcases fuel with _ | fuel
  ·rw [slices_Equal_Own_L0.eq_1] at H1; cases H1
  rw [slices_Equal_Own_L0.eq_2] at H1
  dsimp only
  refine sr (oW rfl (nn (cw_seq (cw_cond rfl (fun h3 => ?_) (fun h3 => ?_)))))
  ·have H1 := cond_t H1 h3
   obtain ⟨x4, e4, H1⟩ := bS H1
   refine cw_skip (kw_nx (cw_seq (cw_block (sr (oM rfl (oS rfl (nn (cw_seq (rdt g_mixed (rn 0 9) ⟨[], [], []⟩ (dM rfl (dM rfl (dD rfl (stp_indexAddr Tryz.underlying30 ts89 (by decide) rfl rfl rfl (Rdb.ro hr0_0) e4) (dD rfl (stp_loadN (us := [_, _]) ts89 rfl (Cells.el (Rdb.ro hr0_0) (by decide) e4 0 2 rfl)) ?_)))))))))))))
   obtain ⟨x5, e5, H1⟩ := bS H1
   refine dM rfl (dM rfl (dD rfl (stp_indexAddr Tryz.underlying30 ts89 (by decide) rfl rfl rfl (Rdb.ro hr1_0) e5) (dD rfl (stp_loadN (us := [_, _]) ts89 rfl (Cells.el (Rdb.ro hr1_0) (by decide) e5 0 2 rfl)) (dD rfl (stp_neqS te89 x4 x5 rfl rfl) (dn (kw_nx (cw_cond rfl (fun h6 => ?_) (fun h6 => ?_))))))))
   ·have H1 := cond_t H1 h6
    refine sr (oS rfl (nn (cw_ret (kw_bl_ret (kw_nx_ret (kw_lq_ret (kw_bl_ret (kw_join_ret (kw_nx_ret ?_)))))))))
    obtain rfl := sI H1
    obtain rfl := sI H0
    exact kr Tryz.results53 (rT rfl) [] ⟨rfl, rfl⟩
   have H1 := cond_f H1 h6
   obtain ⟨x7, e7, H1⟩ := bS H1
   exact cw_skip (kw_bl_normal (kw_nx (cw_region (oP e7 rfl (oM rfl (ow_nil (kw_lqS (js := []) (fuel, x7) H1 (Nat.lt_succ_self _) ⟨rfl, rfl, rfl, rfl, trivial⟩ trivial (by decide))))))))
  have H1 := cond_f H1 h3
  refine cw_exit (kw_nx_exit (kw_lq_exit (kw_bl ?_)))
  obtain rfl := sI H1
  exact kw_joinS (js := []) v2 rfl ⟨rfl, rfl, rfl, rfl, trivial⟩ trivial (by decide)
 rintro v2 rfl
 dsimp only
 refine kw_nx (sr (oS rfl (nn (cw_ret ?_))))
 obtain rfl := sI H0
 exact kr Tryz.results53 (rT rfl) [] ⟨rfl, rfl⟩

theorem c_i_TagsSame (fl : Nat) (w : World) (a0 : Tg) (a1 : Tg) (hn0_0 : n0_0 = (a0.o).length) (hr0_0 : RO w (hkeys []) (RdL p0_0 c0_0 a0.o)) (hn1_0 : n1_0 = (a1.o).length) (hr1_0 : RO w (hkeys []) (RdL p1_0 c1_0 a1.o)) (r : Bool) (H0 : i_TagsSame fl a0 a1 = some r) :
  Ct Tryz.prog 28 [.agg #[.int .i64 a0.c, .int .i64 a0.n, .int .i64 a0.r, .slice p0_0 n0_0 c0_0], .agg #[.int .i64 a1.c, .int .i64 a1.n, .int .i64 a1.r, .slice p1_0 n1_0 c1_0]] w [] (fun rv h' => rv = .bool r ∧ h' = []) := by
 subst hn0_0 hn1_0
 unfold i_TagsSame at H0
 refine ct_of_cw Tryz.func28 rfl Tryz.ntmps28 rfl (Sat.refl _ _) ?_
 refine sr (oE (stpU_box 0 rfl rfl) rfl ?_)
 rintro _ _ ⟨b1, rfl, rfl⟩
 refine oE (stpU_box 1 rfl rfl) rfl ?_
 rintro _ _ ⟨b2, rfl, rfl⟩
 obtain ⟨y3, ey3, H0⟩ := bS H0
 refine oS rfl (nn (sr (oA 0 Tryz.underlying32 rfl ts3 rfl (oL 0 ts3 rfl (oA 0 Tryz.underlying32 rfl ts3 rfl (oL 1 ts3 rfl (oQ rfl (oM rfl (ow_cutY 6 16 y3 ?_ ?_)))))))))
 ·rcases Bool.eq_false_or_eq_true (a0.c == a1.c) with hy3 | hy3
  ·have ey3 := cond_t ey3 hy3
   refine oG rfl hy3 (fA 1 Tryz.underlying32 rfl ts3 rfl rfl rfl) rfl (oG rfl hy3 (lB 0 ts3 rfl rfl rfl) rfl (oG rfl hy3 (fA 1 Tryz.underlying32 rfl ts3 rfl rfl rfl) rfl (oG rfl hy3 (lB 1 ts3 rfl rfl rfl) rfl (oG rfl hy3 (stp_eql rfl rfl) rfl (oD (stp_pick_t rfl hy3 rfl) rfl ?_)))))
   obtain rfl := sI ey3
   exact ow_nil (jy 6 0)
  have ey3 := cond_f ey3 hy3
  refine oO rfl hy3 rfl (oO rfl hy3 rfl (oO rfl hy3 rfl (oO rfl hy3 rfl (oO rfl hy3 rfl (oD (stp_pick_f rfl hy3 rfl) rfl ?_)))))
  obtain rfl := sI ey3
  exact ow_nil (jy 6 0)
 obtain ⟨y4, ey4, H0⟩ := bS H0
 refine oM rfl (ow_cutY 6 23 y4 ?_ ?_)
 ·rcases Bool.eq_false_or_eq_true y3 with hy4 | hy4
  ·have ey4 := cond_t ey4 hy4
   refine oG rfl hy4 (fA 2 Tryz.underlying32 rfl ts3 rfl rfl rfl) rfl (oG rfl hy4 (lB 0 ts3 rfl rfl rfl) rfl (oG rfl hy4 (fA 2 Tryz.underlying32 rfl ts3 rfl rfl rfl) rfl (oG rfl hy4 (lB 1 ts3 rfl rfl rfl) rfl (oG rfl hy4 (stp_eql rfl rfl) rfl (oD (stp_pick_t rfl hy4 rfl) rfl ?_)))))
   obtain rfl := sI ey4
   exact ow_nil (jy 6 0)
  have ey4 := cond_f ey4 hy4
  refine oO rfl hy4 rfl (oO rfl hy4 rfl (oO rfl hy4 rfl (oO rfl hy4 rfl (oO rfl hy4 rfl (oD (stp_pick_f rfl hy4 rfl) rfl ?_)))))
  obtain rfl := sI ey4
  exact ow_nil (jy 6 0)
 obtain ⟨y5, ey5, H0⟩ := bS H0
 refine oM rfl (ow_cutY 6 30 y5 ?_ ?_)
 ·rcases Bool.eq_false_or_eq_true y4 with hy5 | hy5
  ·have ey5 := cond_t ey5 hy5
   obtain ⟨x6, e6, ey5⟩ := bS ey5
   refine oG rfl hy5 (fA 3 Tryz.underlying32 rfl ts30 rfl rfl rfl) rfl (oG rfl hy5 (lB 0 ts30 rfl rfl rfl) rfl (oG rfl hy5 (fA 3 Tryz.underlying32 rfl ts30 rfl rfl rfl) rfl (oG rfl hy5 (lB 1 ts30 rfl rfl rfl) rfl (ow_eff (.some rfl hy5) (stpU_call (fun i => 2 + i) cf53 (fun w hw => c_slices_Equal_Own fl w a0.o a1.o rfl (RO.pass hr0_0 hw) rfl (RO.pass hr1_0 hw) x6 e6) (yB rfl rfl)) rfl ?_))))
   rintro _ _ ⟨_, ⟨rfl, rfl⟩, rfl⟩
   refine oD (stp_pick_t rfl hy5 rfl) rfl ?_
   obtain rfl := sI ey5
   exact ow_nil (jy 6 0)
  have ey5 := cond_f ey5 hy5
  refine oO rfl hy5 rfl (oO rfl hy5 rfl (oO rfl hy5 rfl (oO rfl hy5 rfl (oO rfl hy5 rfl (oD (stp_pick_f rfl hy5 rfl) rfl ?_)))))
  obtain rfl := sI ey5
  exact ow_nil (jy 6 0)
 refine oS rfl (nn (cw_ret ?_))
 obtain rfl := sI H0
 exact kr Tryz.results28 (rT rfl) [] ⟨rfl, rfl⟩

theorem c_i_MachineSame (fl : Nat) (w : World) (a0 : Mc) (a1 : Mc) (hn0_0 : n0_0 = (a0.t.b).length) (hr0_0 : RO w (hkeys []) (RdL p0_0 c0_0 a0.t.b)) (hn0_1 : n0_1 = (a0.t.f).length) (hr0_1 : RO w (hkeys []) (RdL p0_1 c0_1 a0.t.f)) (hn0_2 : n0_2 = (a0.c.l).length) (hr0_2 : RO w (hkeys []) (RdL p0_2 c0_2 a0.c.l)) (hn0_3 : n0_3 = (a0.g.o).length) (hr0_3 : RO w (hkeys []) (RdL p0_3 c0_3 a0.g.o)) (hn1_0 : n1_0 = (a1.t.b).length) (hr1_0 : RO w (hkeys []) (RdL p1_0 c1_0 a1.t.b)) (hn1_1 : n1_1 = (a1.t.f).length) (hr1_1 : RO w (hkeys []) (RdL p1_1 c1_1 a1.t.f)) (hn1_2 : n1_2 = (a1.c.l).length) (hr1_2 : RO w (hkeys []) (RdL p1_2 c1_2 a1.c.l)) (hn1_3 : n1_3 = (a1.g.o).length) (hr1_3 : RO w (hkeys []) (RdL p1_3 c1_3 a1.g.o)) (r : Bool) (H0 : i_MachineSame fl a0 a1 = some r) :
  Ct Tryz.prog 15 [.agg #[.slice p0_0 n0_0 c0_0, .slice p0_1 n0_1 c0_1, .slice p0_2 n0_2 c0_2, .int .i64 a0.c.h, .int .i64 a0.g.c, .int .i64 a0.g.n, .int .i64 a0.g.r, .slice p0_3 n0_3 c0_3, .int .i64 a0.s], .agg #[.slice p1_0 n1_0 c1_0, .slice p1_1 n1_1 c1_1, .slice p1_2 n1_2 c1_2, .int .i64 a1.c.h, .int .i64 a1.g.c, .int .i64 a1.g.n, .int .i64 a1.g.r, .slice p1_3 n1_3 c1_3, .int .i64 a1.s]] w [] (fun rv h' => rv = .bool r ∧ h' = []) := by
 subst hn0_0 hn0_1 hn0_2 hn0_3 hn1_0 hn1_1 hn1_2 hn1_3
 unfold i_MachineSame at H0
 refine ct_of_cw Tryz.func15 rfl Tryz.ntmps15 rfl (Sat.refl _ _) ?_
 refine sr (oE (stpU_box 0 rfl rfl) rfl ?_)
 rintro _ _ ⟨b1, rfl, rfl⟩
 refine oE (stpU_box 1 rfl rfl) rfl ?_
 rintro _ _ ⟨b2, rfl, rfl⟩
 obtain ⟨x3, e3, H0⟩ := bS H0
 refine oS rfl (nn (sr (oA 0 Tryz.underlying34 rfl ts26 rfl (oB2 0 ts26 rfl (oA 0 Tryz.underlying34 rfl ts26 rfl (oB2 1 ts26 rfl (oE (stpU_call (fun i => 2 + i) cf26 (fun w hw => c_i_TableSame fl w a0.t a1.t rfl (RO.pass hr0_0 hw) rfl (RO.pass hr0_1 hw) rfl (RO.pass hr1_0 hw) rfl (RO.pass hr1_1 hw) x3 e3) (yB rfl rfl)) rfl ?_)))))))
 rintro _ _ ⟨_, ⟨rfl, rfl⟩, rfl⟩
 obtain ⟨y4, ey4, H0⟩ := bS H0
 refine oM rfl (ow_cutY 6 16 y4 ?_ ?_)
 ·rcases Bool.eq_false_or_eq_true x3 with hy4 | hy4
  ·have ey4 := cond_t ey4 hy4
   obtain ⟨x5, e5, ey4⟩ := bS ey4
   refine oG rfl hy4 (fA 2 Tryz.underlying34 rfl ts29 rfl rfl rfl) rfl (oG rfl hy4 (stp_loadN (us := [_, _]) ts29 rfl (Cells.box (id := 0) rfl 2 rfl)) rfl (oG rfl hy4 (fA 2 Tryz.underlying34 rfl ts29 rfl rfl rfl) rfl (oG rfl hy4 (stp_loadN (us := [_, _]) ts29 rfl (Cells.box (id := 1) rfl 2 rfl)) rfl (ow_eff (.some rfl hy4) (stpU_call (fun i => 2 + i) cf27 (fun w hw => c_i_CacheSame fl w a0.c a1.c rfl (RO.pass hr0_2 hw) rfl (RO.pass hr1_2 hw) x5 e5) (yB rfl rfl)) rfl ?_))))
   rintro _ _ ⟨_, ⟨rfl, rfl⟩, rfl⟩
   refine oD (stp_pick_t rfl hy4 rfl) rfl ?_
   obtain rfl := sI ey4
   exact ow_nil (jy 6 0)
  have ey4 := cond_f ey4 hy4
  refine oO rfl hy4 rfl (oO rfl hy4 rfl (oO rfl hy4 rfl (oO rfl hy4 rfl (oO rfl hy4 rfl (oD (stp_pick_f rfl hy4 rfl) rfl ?_)))))
  obtain rfl := sI ey4
  exact ow_nil (jy 6 0)
 obtain ⟨y6, ey6, H0⟩ := bS H0
 refine oM rfl (ow_cutY 6 23 y6 ?_ ?_)
 ·rcases Bool.eq_false_or_eq_true y4 with hy6 | hy6
  ·have ey6 := cond_t ey6 hy6
   obtain ⟨x7, e7, ey6⟩ := bS ey6
   refine oG rfl hy6 (fA 4 Tryz.underlying34 rfl ts32 rfl rfl rfl) rfl (oG rfl hy6 (stp_loadN (us := [_, _, _, _]) ts32 rfl (Cells.box (id := 0) rfl 4 rfl)) rfl (oG rfl hy6 (fA 4 Tryz.underlying34 rfl ts32 rfl rfl rfl) rfl (oG rfl hy6 (stp_loadN (us := [_, _, _, _]) ts32 rfl (Cells.box (id := 1) rfl 4 rfl)) rfl (ow_eff (.some rfl hy6) (stpU_call (fun i => 2 + i) cf28 (fun w hw => c_i_TagsSame fl w a0.g a1.g rfl (RO.pass hr0_3 hw) rfl (RO.pass hr1_3 hw) x7 e7) (yB rfl rfl)) rfl ?_))))
   rintro _ _ ⟨_, ⟨rfl, rfl⟩, rfl⟩
   refine oD (stp_pick_t rfl hy6 rfl) rfl ?_
   obtain rfl := sI ey6
   exact ow_nil (jy 6 0)
  have ey6 := cond_f ey6 hy6
  refine oO rfl hy6 rfl (oO rfl hy6 rfl (oO rfl hy6 rfl (oO rfl hy6 rfl (oO rfl hy6 rfl (oD (stp_pick_f rfl hy6 rfl) rfl ?_)))))
  obtain rfl := sI ey6
  exact ow_nil (jy 6 0)
 obtain ⟨y8, ey8, H0⟩ := bS H0
 refine oM rfl (ow_cutY 6 30 y8 ?_ ?_)
 ·rcases Bool.eq_false_or_eq_true y6 with hy8 | hy8
  ·have ey8 := cond_t ey8 hy8
   refine oG rfl hy8 (fA 8 Tryz.underlying34 rfl ts3 rfl rfl rfl) rfl (oG rfl hy8 (lB 0 ts3 rfl rfl rfl) rfl (oG rfl hy8 (fA 8 Tryz.underlying34 rfl ts3 rfl rfl rfl) rfl (oG rfl hy8 (lB 1 ts3 rfl rfl rfl) rfl (oG rfl hy8 (stp_eql rfl rfl) rfl (oD (stp_pick_t rfl hy8 rfl) rfl ?_)))))
   obtain rfl := sI ey8
   exact ow_nil (jy 6 0)
  have ey8 := cond_f ey8 hy8
  refine oO rfl hy8 rfl (oO rfl hy8 rfl (oO rfl hy8 rfl (oO rfl hy8 rfl (oO rfl hy8 rfl (oD (stp_pick_f rfl hy8 rfl) rfl ?_)))))
  obtain rfl := sI ey8
  exact ow_nil (jy 6 0)
 refine oS rfl (nn (cw_ret ?_))
 obtain rfl := sI H0
 exact kr Tryz.results15 (rT rfl) [] ⟨rfl, rfl⟩

theorem c_slices_Equal_Bool (fl : Nat) (w : World) (a0 : (List Bool)) (a1 : (List Bool)) (hn0_0 : n0_0 = (a0).length) (hr0_0 : RO w (hkeys []) (RdL p0_0 c0_0 a0)) (hn1_0 : n1_0 = (a1).length) (hr1_0 : RO w (hkeys []) (RdL p1_0 c1_0 a1)) (r : Bool) (H0 : slices_Equal_Bool fl a0 a1 = some r) :
  Ct Tryz.prog 19 [.slice p0_0 n0_0 c0_0, .slice p1_0 n1_0 c1_0] w [] (fun rv h' => rv = .bool r ∧ h' = []) := by
 subst hn0_0 hn1_0
 unfold slices_Equal_Bool at H0
 refine ct_of_cw Tryz.func19 rfl Tryz.ntmps19 rfl (Sat.refl _ _) ?_
 refine sr (oS rfl (nn (cw_seq (sr (oM rfl (oD (stp_len Tryz.underlying35 rfl) rfl (oM rfl (oD (stp_len Tryz.underlying35 rfl) rfl (oU rfl (nn (cw_cond rfl (fun h1 => ?_) (fun h1 => ?_))))))))))))
 ·have H0 := cond_t H0 h1
  refine sr (oS rfl (nn (cw_ret (kw_nx_ret ?_))))
  obtain rfl := sI H0
  exact kr Tryz.results19 (rT rfl) [] ⟨rfl, rfl⟩
 have H0 := cond_f H0 h1
 obtain ⟨o0_0, eo0_0, H0⟩ := bS H0
 refine cw_skip (kw_nx (cw_seq (sr (oM rfl (oD (stp_len Tryz.underlying35 rfl) rfl (oM rfl (nn (cw_join (ι := Int) (fun | v2 => o0_0 = .out v2) (fun | v2 => [(0, .slice p0_0 ((a0).length) c0_0), (1, .slice p1_0 ((a1).length) c1_0), (12, .int .i64 ((a0).length : Int)), (13, .int .i64 v2)]) (fun | v2 => []) ?_ ?_))))))))
 ·refine cw_block (cw_loopS (ι := Nat × Int) (js := []) (fun x => x.1) (fun | (fuel, v2) => slices_Equal_Bool_L0 fl a0 a1 fuel v2 = some o0_0) (fun | (_, v2) => [(0, .slice p0_0 ((a0).length) c0_0), (1, .slice p1_0 ((a1).length) c1_0), (12, .int .i64 ((a0).length : Int)), (13, .int .i64 v2)]) (fun | (_, v2) => []) (fl, 0) eo0_0 ⟨rfl, rfl, rfl, rfl, trivial⟩ trivial (by decide) ?_)
  rintro ⟨fuel, v2⟩ H1
  have H1 : slices_Equal_Bool_L0 fl a0 a1 fuel v2 = some o0_0 := H1
  rcases fuel with _ | fuel
  ·rw [slices_Equal_Bool_L0.eq_1] at H1; cases H1
  rw [slices_Equal_Bool_L0.eq_2] at H1
  dsimp only
  refine sr (oW rfl (nn (cw_seq (cw_cond rfl (fun h3 => ?_) (fun h3 => ?_)))))
  ·have H1 := cond_t H1 h3
   obtain ⟨x4, e4, H1⟩ := bS H1
   refine cw_skip (kw_nx (cw_seq (cw_block (sr (oM rfl (oS rfl (nn (cw_seq (rdt g_mixed (rn 0 9) ⟨[], [], []⟩ (dM rfl (dM rfl (dD rfl (stp_indexAddr Tryz.underlying35 ts4 (by decide) rfl rfl rfl (Rdb.ro hr0_0) e4) (dD rfl (stp_load1 ts4 rfl (Cells.el (Rdb.ro hr0_0) (by decide) e4 0 1 rfl)) ?_)))))))))))))
   obtain ⟨x5, e5, H1⟩ := bS H1
   refine dM rfl (dM rfl (dD rfl (stp_indexAddr Tryz.underlying35 ts4 (by decide) rfl rfl rfl (Rdb.ro hr1_0) e5) (dD rfl (stp_load1 ts4 rfl (Cells.el (Rdb.ro hr1_0) (by decide) e5 0 1 rfl)) (dD rfl (stp_neqB Tryz.underlying4 rfl rfl) (dn (kw_nx (cw_cond rfl (fun h6 => ?_) (fun h6 => ?_))))))))
   ·have H1 := cond_t H1 h6
    refine sr (oS rfl (nn (cw_ret (kw_bl_ret (kw_nx_ret (kw_lq_ret (kw_bl_ret (kw_join_ret (kw_nx_ret ?_)))))))))
    obtain rfl := sI H1
    obtain rfl := sI H0
    exact kr Tryz.results19 (rT rfl) [] ⟨rfl, rfl⟩
   have H1 := cond_f H1 h6
   obtain ⟨x7, e7, H1⟩ := bS H1
   exact cw_skip (kw_bl_normal (kw_nx (cw_region (oP e7 rfl (oM rfl (ow_nil (kw_lqS (js := []) (fuel, x7) H1 (Nat.lt_succ_self _) ⟨rfl, rfl, rfl, rfl, trivial⟩ trivial (by decide))))))))
  have H1 := cond_f H1 h3
  refine cw_exit (kw_nx_exit (kw_lq_exit (kw_bl ?_)))
  obtain rfl := sI H1
  exact kw_joinS (js := []) v2 rfl ⟨rfl, rfl, rfl, rfl, trivial⟩ trivial (by decide)
 rintro v2 rfl
 dsimp only
 refine kw_nx (sr (oS rfl (nn (cw_ret ?_))))
 obtain rfl := sI H0
 exact kr Tryz.results19 (rT rfl) [] ⟨rfl, rfl⟩

theorem c_i_MemorySame (fl : Nat) (w : World) (a0 : Mm) (a1 : Mm) (hn0_0 : n0_0 = (a0.m.t.b).length) (hr0_0 : RO w (hkeys []) (RdL p0_0 c0_0 a0.m.t.b)) (hn0_1 : n0_1 = (a0.m.t.f).length) (hr0_1 : RO w (hkeys []) (RdL p0_1 c0_1 a0.m.t.f)) (hn0_2 : n0_2 = (a0.m.c.l).length) (hr0_2 : RO w (hkeys []) (RdL p0_2 c0_2 a0.m.c.l)) (hn0_3 : n0_3 = (a0.m.g.o).length) (hr0_3 : RO w (hkeys []) (RdL p0_3 c0_3 a0.m.g.o)) (hn0_4 : n0_4 = (a0.k).length) (hr0_4 : RO w (hkeys []) (RdL p0_4 c0_4 a0.k)) (hn1_0 : n1_0 = (a1.m.t.b).length) (hr1_0 : RO w (hkeys []) (RdL p1_0 c1_0 a1.m.t.b)) (hn1_1 : n1_1 = (a1.m.t.f).length) (hr1_1 : RO w (hkeys []) (RdL p1_1 c1_1 a1.m.t.f)) (hn1_2 : n1_2 = (a1.m.c.l).length) (hr1_2 : RO w (hkeys []) (RdL p1_2 c1_2 a1.m.c.l)) (hn1_3 : n1_3 = (a1.m.g.o).length) (hr1_3 : RO w (hkeys []) (RdL p1_3 c1_3 a1.m.g.o)) (hn1_4 : n1_4 = (a1.k).length) (hr1_4 : RO w (hkeys []) (RdL p1_4 c1_4 a1.k)) (r : Bool) (H0 : i_MemorySame fl a0 a1 = some r) :
  Ct Tryz.prog 9 [.agg #[.slice p0_0 n0_0 c0_0, .slice p0_1 n0_1 c0_1, .slice p0_2 n0_2 c0_2, .int .i64 a0.m.c.h, .int .i64 a0.m.g.c, .int .i64 a0.m.g.n, .int .i64 a0.m.g.r, .slice p0_3 n0_3 c0_3, .int .i64 a0.m.s, .slice p0_4 n0_4 c0_4, .int .i64 a0.h], .agg #[.slice p1_0 n1_0 c1_0, .slice p1_1 n1_1 c1_1, .slice p1_2 n1_2 c1_2, .int .i64 a1.m.c.h, .int .i64 a1.m.g.c, .int .i64 a1.m.g.n, .int .i64 a1.m.g.r, .slice p1_3 n1_3 c1_3, .int .i64 a1.m.s, .slice p1_4 n1_4 c1_4, .int .i64 a1.h]] w [] (fun rv h' => rv = .bool r ∧ h' = []) := by
 subst hn0_0 hn0_1 hn0_2 hn0_3 hn0_4 hn1_0 hn1_1 hn1_2 hn1_3 hn1_4
 unfold i_MemorySame at H0
 refine ct_of_cw Tryz.func9 rfl Tryz.ntmps9 rfl (Sat.refl _ _) ?_
 refine sr (oE (stpU_box 0 rfl rfl) rfl ?_)
 rintro _ _ ⟨b1, rfl, rfl⟩
 refine oE (stpU_box 1 rfl rfl) rfl ?_
 rintro _ _ ⟨b2, rfl, rfl⟩
 obtain ⟨x3, e3, H0⟩ := bS H0
 refine oS rfl (nn (sr (oA 0 Tryz.underlying37 rfl ts34 rfl (oB9 0 ts34 rfl (oA 0 Tryz.underlying37 rfl ts34 rfl (oB9 1 ts34 rfl (oE (stpU_call (fun i => 2 + i) cf15 (fun w hw => c_i_MachineSame fl w a0.m a1.m rfl (RO.pass hr0_0 hw) rfl (RO.pass hr0_1 hw) rfl (RO.pass hr0_2 hw) rfl (RO.pass hr0_3 hw) rfl (RO.pass hr1_0 hw) rfl (RO.pass hr1_1 hw) rfl (RO.pass hr1_2 hw) rfl (RO.pass hr1_3 hw) x3 e3) (yB rfl rfl)) rfl ?_)))))))
 rintro _ _ ⟨_, ⟨rfl, rfl⟩, rfl⟩
 obtain ⟨y4, ey4, H0⟩ := bS H0
 refine oM rfl (ow_cutY 6 16 y4 ?_ ?_)
 ·rcases Bool.eq_false_or_eq_true x3 with hy4 | hy4
  ·have ey4 := cond_t ey4 hy4
   obtain ⟨x5, e5, ey4⟩ := bS ey4
   refine oG rfl hy4 (fA 9 Tryz.underlying37 rfl ts35 rfl rfl rfl) rfl (oG rfl hy4 (lB 0 ts35 rfl rfl rfl) rfl (oG rfl hy4 (fA 9 Tryz.underlying37 rfl ts35 rfl rfl rfl) rfl (oG rfl hy4 (lB 1 ts35 rfl rfl rfl) rfl (ow_eff (.some rfl hy4) (stpU_call (fun i => 2 + i) cf19 (fun w hw => c_slices_Equal_Bool fl w a0.k a1.k rfl (RO.pass hr0_4 hw) rfl (RO.pass hr1_4 hw) x5 e5) (yB rfl rfl)) rfl ?_))))
   rintro _ _ ⟨_, ⟨rfl, rfl⟩, rfl⟩
   refine oD (stp_pick_t rfl hy4 rfl) rfl ?_
   obtain rfl := sI ey4
   exact ow_nil (jy 6 0)
  have ey4 := cond_f ey4 hy4
  refine oO rfl hy4 rfl (oO rfl hy4 rfl (oO rfl hy4 rfl (oO rfl hy4 rfl (oO rfl hy4 rfl (oD (stp_pick_f rfl hy4 rfl) rfl ?_)))))
  obtain rfl := sI ey4
  exact ow_nil (jy 6 0)
 obtain ⟨y6, ey6, H0⟩ := bS H0
 refine oM rfl (ow_cutY 6 23 y6 ?_ ?_)
 ·rcases Bool.eq_false_or_eq_true y4 with hy6 | hy6
  ·have ey6 := cond_t ey6 hy6
   refine oG rfl hy6 (fA 10 Tryz.underlying37 rfl ts3 rfl rfl rfl) rfl (oG rfl hy6 (lB 0 ts3 rfl rfl rfl) rfl (oG rfl hy6 (fA 10 Tryz.underlying37 rfl ts3 rfl rfl rfl) rfl (oG rfl hy6 (lB 1 ts3 rfl rfl rfl) rfl (oG rfl hy6 (stp_eql rfl rfl) rfl (oD (stp_pick_t rfl hy6 rfl) rfl ?_)))))
   obtain rfl := sI ey6
   exact ow_nil (jy 6 0)
  have ey6 := cond_f ey6 hy6
  refine oO rfl hy6 rfl (oO rfl hy6 rfl (oO rfl hy6 rfl (oO rfl hy6 rfl (oO rfl hy6 rfl (oD (stp_pick_f rfl hy6 rfl) rfl ?_)))))
  obtain rfl := sI ey6
  exact ow_nil (jy 6 0)
 refine oS rfl (nn (cw_ret ?_))
 obtain rfl := sI H0
 exact kr Tryz.results9 (rT rfl) [] ⟨rfl, rfl⟩

theorem c_i_FrameVictim_1 (fl : Nat) (w : World) (a0 : Ln) (qc0 : Nat) (ac0 : Int) (hbac0 : RO w (hkeys []) (fun w' => w'.rangeAt qc0 0 [.int .i64 ac0])) (r : Bool) (H0 : i_FrameVictim_1 fl a0 ac0 = some r) :
  Ct Tryz.prog 24 [.agg #[.bool a0.va, .int .i64 a0.tg, .int .i64 a0.pg, .int .i64 a0.fr, .int .i64 a0.ri, .bool a0.wi], .pointer (some ⟨qc0, 0, none⟩)] w [] (fun rv h' => rv = .bool r ∧ h' = []) := by
 unfold i_FrameVictim_1 at H0
 refine ct_of_cw Tryz.func24 rfl Tryz.ntmps24 rfl (Sat.refl _ _) ?_
 refine sr (oE (stpU_box 0 rfl rfl) rfl ?_)
 rintro _ _ ⟨b1, rfl, rfl⟩
 obtain ⟨y2, ey2, H0⟩ := bS H0
 refine oS rfl (nn (sr (oA 5 Tryz.underlying47 rfl ts4 rfl (oL 0 ts4 rfl (oM rfl (ow_cutY 5 11 y2 ?_ ?_))))))
 ·rcases Bool.eq_false_or_eq_true a0.wi with hy2 | hy2
  ·have ey2 := cond_t ey2 hy2
   refine oG rfl hy2 (fA 3 Tryz.underlying47 rfl ts3 rfl rfl rfl) rfl (oG rfl hy2 (lB 0 ts3 rfl rfl rfl) rfl (oG rfl hy2 (stp_load1 ts3 rfl (Cells.ofRO hbac0 1 rfl)) rfl (oG rfl hy2 (stp_eql rfl rfl) rfl (oD (stp_pick_t rfl hy2 rfl) rfl ?_))))
   obtain rfl := sI ey2
   exact ow_nil (jy 5 0)
  have ey2 := cond_f ey2 hy2
  refine oO rfl hy2 rfl (oO rfl hy2 rfl (oO rfl hy2 rfl (oO rfl hy2 rfl (oD (stp_pick_f rfl hy2 rfl) rfl ?_))))
  obtain rfl := sI ey2
  exact ow_nil (jy 5 0)
 refine oS rfl (nn (cw_ret ?_))
 obtain rfl := sI H0
 exact kr Tryz.results24 (rT rfl) [] ⟨rfl, rfl⟩

theorem c_slices_IndexFunc_Line_of_i_FrameVictim_1 (fl : Nat) (w : World) (a0 : (List Ln)) (q1_0 : Nat) (a1_0 : Int) (hn0_0 : n0_0 = (a0).length) (hr0_0 : RO w (hkeys []) (RdL p0_0 c0_0 a0)) (hba1_0 : RO w (hkeys []) (fun w' => w'.rangeAt q1_0 0 [.int .i64 a1_0])) (r : Int) (H0 : slices_IndexFunc_Line_of_i_FrameVictim_1 fl a0 a1_0 = some r) :
  Ct Tryz.prog 48 [.slice p0_0 n0_0 c0_0, .func (.func 24) #[] #[.pointer (some ⟨q1_0, 0, none⟩)]] w [] (fun rv h' => rv = .int .i64 r ∧ h' = []) := by
 subst hn0_0
 unfold slices_IndexFunc_Line_of_i_FrameVictim_1 at H0
 refine ct_of_cw Tryz.func48 rfl Tryz.ntmps48 rfl (Sat.refl _ _) ?_
 obtain ⟨o0_0, eo0_0, H0⟩ := bS H0
 refine sr (oS rfl (nn (cw_seq (sr (oM rfl (oD (stp_len Tryz.underlying27 rfl) rfl (oM rfl (nn (cw_join (ι := Int) (fun | v1 => o0_0 = .out v1) (fun | v1 => [(0, .slice p0_0 ((a0).length) c0_0), (1, .func (.func 24) #[] #[.pointer (some ⟨q1_0, 0, none⟩)]), (7, .int .i64 ((a0).length : Int)), (8, .int .i64 v1)]) (fun | v1 => []) ?_ ?_)))))))))
 ·refine cw_block (cw_loopS (ι := Nat × Int) (js := []) (fun x => x.1) (fun | (fuel, v1) => slices_IndexFunc_Line_of_i_FrameVictim_1_L0 fl a0 a1_0 fuel v1 = some o0_0) (fun | (_, v1) => [(0, .slice p0_0 ((a0).length) c0_0), (1, .func (.func 24) #[] #[.pointer (some ⟨q1_0, 0, none⟩)]), (7, .int .i64 ((a0).length : Int)), (8, .int .i64 v1)]) (fun | (_, v1) => []) (fl, 0) eo0_0 ⟨rfl, rfl, rfl, rfl, trivial⟩ trivial (by decide) ?_)
  rintro ⟨fuel, v1⟩ H1
  have H1 : slices_IndexFunc_Line_of_i_FrameVictim_1_L0 fl a0 a1_0 fuel v1 = some o0_0 := H1
  rcases fuel with _ | fuel
  ·rw [slices_IndexFunc_Line_of_i_FrameVictim_1_L0.eq_1] at H1; cases H1
  rw [slices_IndexFunc_Line_of_i_FrameVictim_1_L0.eq_2] at H1
  dsimp only
  refine sr (oW rfl (nn (cw_seq (cw_cond rfl (fun h2 => ?_) (fun h2 => ?_)))))
  ·have H1 := cond_t H1 h2
   obtain ⟨x3, e3, H1⟩ := bS H1
   refine cw_skip (kw_nx (cw_seq (cw_block (sr (oM rfl (oS rfl (nn (sr (oM rfl (oM rfl (oM rfl (oD (stp_indexAddr Tryz.underlying27 ts47 (by decide) rfl rfl rfl (Rdb.ro hr0_0) e3) rfl (oD (stp_loadN (us := [_, _, _, _, _, _]) ts47 rfl (Cells.el (Rdb.ro hr0_0) (by decide) e3 0 6 rfl)) rfl ?_)))))))))))))
   obtain ⟨x4, e4, H1⟩ := bS H1
   refine oE (stpU_callF (vals := [_]) (ca := [_]) (fun i => 0 + i) cf24 (fun w hw => c_i_FrameVictim_1 fl w x3 q1_0 a1_0 (RO.pass hba1_0 hw) x4 e4) rfl (yA rfl)) rfl ?_
   rintro _ _ ⟨_, ⟨rfl, rfl⟩, rfl⟩
   refine nn (cw_cond rfl (fun h5 => ?_) (fun h5 => ?_))
   ·have H1 := cond_t H1 h5
    refine sr (oM rfl (oS rfl (nn (cw_ret (kw_bl_ret (kw_nx_ret (kw_lq_ret (kw_bl_ret (kw_join_ret (kw_nx_ret ?_))))))))))
    obtain rfl := sI H1
    obtain rfl := sI H0
    exact kr Tryz.results48 (rT rfl) [] ⟨rfl, rfl⟩
   have H1 := cond_f H1 h5
   obtain ⟨x6, e6, H1⟩ := bS H1
   exact cw_skip (kw_bl_normal (kw_nx (cw_region (oP e6 rfl (oM rfl (ow_nil (kw_lqS (js := []) (fuel, x6) H1 (Nat.lt_succ_self _) ⟨rfl, rfl, rfl, rfl, trivial⟩ trivial (by decide))))))))
  have H1 := cond_f H1 h2
  refine cw_exit (kw_nx_exit (kw_lq_exit (kw_bl ?_)))
  obtain rfl := sI H1
  exact kw_joinS (js := []) v1 rfl ⟨rfl, rfl, rfl, rfl, trivial⟩ trivial (by decide)
 rintro v1 rfl
 dsimp only
 refine kw_nx (sr (oS rfl (nn (cw_ret ?_))))
 obtain rfl := sI H0
 exact kr Tryz.results48 (rT rfl) [] ⟨rfl, rfl⟩

theorem c_slices_ContainsFunc_Line_of_i_FrameVictim_1 (fl : Nat) (w : World) (a0 : (List Ln)) (q1_0 : Nat) (a1_0 : Int) (hn0_0 : n0_0 = (a0).length) (hr0_0 : RO w (hkeys []) (RdL p0_0 c0_0 a0)) (hba1_0 : RO w (hkeys []) (fun w' => w'.rangeAt q1_0 0 [.int .i64 a1_0])) (r : Bool) (H0 : slices_ContainsFunc_Line_of_i_FrameVictim_1 fl a0 a1_0 = some r) :
  Ct Tryz.prog 23 [.slice p0_0 n0_0 c0_0, .func (.func 24) #[] #[.pointer (some ⟨q1_0, 0, none⟩)]] w [] (fun rv h' => rv = .bool r ∧ h' = []) := by
 subst hn0_0
 unfold slices_ContainsFunc_Line_of_i_FrameVictim_1 at H0
 refine ct_of_cw Tryz.func23 rfl Tryz.ntmps23 rfl (Sat.refl _ _) ?_
 obtain ⟨x1, e1, H0⟩ := bS H0
 refine sr (oS rfl (nn (sr (oM rfl (oM rfl (oE (stpU_call (fun i => 0 + i) cf48 (fun w hw => c_slices_IndexFunc_Line_of_i_FrameVictim_1 fl w a0 q1_0 a1_0 rfl (RO.pass hr0_0 hw) (RO.pass hba1_0 hw) x1 e1) (yB rfl rfl)) rfl ?_))))))
 rintro _ _ ⟨_, ⟨rfl, rfl⟩, rfl⟩
 refine oI rfl (oS rfl (nn (cw_ret ?_)))
 obtain rfl := sI H0
 exact kr Tryz.results23 (rT rfl) [] ⟨rfl, rfl⟩

theorem c_i_FrameVictim (fl : Nat) (w : World) (a0 : Mm) (hn0_0 : n0_0 = (a0.m.t.b).length) (hr0_0 : RO w (hkeys []) (RdL p0_0 c0_0 a0.m.t.b)) (hn0_1 : n0_1 = (a0.m.t.f).length) (hr0_1 : RO w (hkeys []) (RdL p0_1 c0_1 a0.m.t.f)) (hn0_2 : n0_2 = (a0.m.c.l).length) (hr0_2 : RO w (hkeys []) (RdL p0_2 c0_2 a0.m.c.l)) (hn0_3 : n0_3 = (a0.m.g.o).length) (hr0_3 : RO w (hkeys []) (RdL p0_3 c0_3 a0.m.g.o)) (hn0_4 : n0_4 = (a0.k).length) (hr0_4 : RO w (hkeys []) (RdL p0_4 c0_4 a0.k)) (hg : RO w (hkeys []) (fun w' => w'.rangeAt 0 0 [.bool false, .int .i64 0, .int .i64 0, .int .i64 0, .int .i64 (-1)])) (r : Mm × Int × Bool) (H0 : i_FrameVictim fl a0 = some r) :
  Ct Tryz.prog 12 [.agg #[.slice p0_0 n0_0 c0_0, .slice p0_1 n0_1 c0_1, .slice p0_2 n0_2 c0_2, .int .i64 a0.m.c.h, .int .i64 a0.m.g.c, .int .i64 a0.m.g.n, .int .i64 a0.m.g.r, .slice p0_3 n0_3 c0_3, .int .i64 a0.m.s, .slice p0_4 n0_4 c0_4, .int .i64 a0.h]] w [] (fun rv h' => ∃ (x0 : Option Addr) (y0 z0 : Nat) (C0 : Res) (x1 : Option Addr) (y1 z1 : Nat) (C1 : Res) (x2 : Option Addr) (y2 z2 : Nat) (C2 : Res) (x3 : Option Addr) (y3 z3 : Nat) (C3 : Res) (x4 : Option Addr) (y4 z4 : Nat) (C4 : Res), rv = .tuple #[.agg #[.slice x0 y0 z0, .slice x1 y1 z1, .slice x2 y2 z2, .int .i64 r.1.m.c.h, .int .i64 r.1.m.g.c, .int .i64 r.1.m.g.n, .int .i64 r.1.m.g.r, .slice x3 y3 z3, .int .i64 r.1.m.s, .slice x4 y4 z4, .int .i64 r.1.h], .int .i64 r.2.1, .bool r.2.2] ∧ h' = [(0, C0), (1, C1), (2, C2), (3, C3), (4, C4)] ∧ y0 = (r.1.m.t.b).length ∧ OwnC 3 x0 z0 r.1.m.t.b C0 ∧ y1 = (r.1.m.t.f).length ∧ OwnC 51 x1 z1 r.1.m.t.f C1 ∧ y2 = (r.1.m.c.l).length ∧ OwnC 47 x2 z2 r.1.m.c.l C2 ∧ y3 = (r.1.m.g.o).length ∧ OwnC 89 x3 z3 r.1.m.g.o C3 ∧ y4 = (r.1.k).length ∧ OwnC 4 x4 z4 r.1.k C4) := by
 subst hn0_0 hn0_1 hn0_2 hn0_3 hn0_4
 unfold i_FrameVictim at H0
 refine ct_of_cw Tryz.func12 rfl Tryz.ntmps12 rfl (Sat.refl _ _) ?_
 refine sr (oE (stpU_box 0 rfl rfl) rfl ?_)
 rintro _ _ ⟨b1, rfl, rfl⟩
 refine oE (stpU_alloc 1 tz37 rfl) rfl ?_
 rintro _ _ ⟨b2, rfl, rfl⟩
 obtain ⟨x3, e3, H0⟩ := bS H0
 refine oS rfl (oS rfl (nn (cw_seq (sr (oB11 0 ts37 rfl (oE (stpU_call (fun i => 2 + i) cf10 (fun w hw => c_i_MemoryValid fl w a0 rfl (RO.pass hr0_0 hw) rfl (RO.pass hr0_1 hw) rfl (RO.pass hr0_2 hw) rfl (RO.pass hr0_3 hw) rfl (RO.pass hr0_4 hw) (RO.pass hg hw) x3 e3) (yA rfl)) rfl ?_))))))
 rintro _ _ ⟨_, ⟨rfl, rfl⟩, rfl⟩
 refine oK rfl (nn (cw_cond rfl (fun h4 => ?_) (fun h4 => ?_)))
 ·have H0 := cond_t H0 h4
  refine sr (oD (stp_build (cs := #[.slice none 0 0, .slice none 0 0, .slice none 0 0, .int .i64 0, .int .i64 0, .int .i64 0, .int .i64 0, .slice none 0 0, .int .i64 0, .slice none 0 0, .int .i64 0]) sevp_nil bt37_19) rfl (oC11 1 ts37 rfl rfl (oS rfl (oS rfl (nn (cw_ret (kw_nx_ret (kw_addNil 2 (kw_addNil 3 (kw_addNil 4 (kw_addNil 5 (kw_addNil 6 ?_))))))))))))
  obtain rfl := sI H0
  exact kr Tryz.results12 (.cons (.cellN (us := [_, _, _, _, _, _, _, _, _, _, _]) ts37 rfl (Cells.box (id := 1) rfl 11 rfl)) (.cons (.tmp rfl) (rT rfl))) [2, 3, 4, 5, 6] ⟨_, _, _, _, _, _, _, _, _, _, _, _, _, _, _, _, _, _, _, _, rfl, rfl, rfl, (OwnC.nil _ _), rfl, (OwnC.nil _ _), rfl, (OwnC.nil _ _), rfl, (OwnC.nil _ _), rfl, (OwnC.nil _ _)⟩
 have H0 := cond_f H0 h4
 obtain ⟨x5, e5, H0⟩ := bS H0
 refine cw_skip (kw_nx (sr (oB11 0 ts37 rfl (oE (stpU_call (fun i => 7 + i) cf17 (fun w hw => c_i_Memory_clone fl w a0 rfl (RO.pass hr0_0 hw) rfl (RO.pass hr0_1 hw) rfl (RO.pass hr0_2 hw) rfl (RO.pass hr0_3 hw) rfl (RO.pass hr0_4 hw) x5 e5) (yA rfl)) rfl ?_))))
 rintro _ _ ⟨_, ⟨p6, _, c8, C9, p10, _, c12, C13, p14, _, c16, C17, p18, _, c20, C21, p22, _, c24, C25, rfl, rfl, rfl, o9, rfl, o13, rfl, o17, rfl, o21, rfl, o25⟩, rfl⟩
 refine oE (stpU_alloc 12 tz37 rfl) rfl ?_
 rintro _ _ ⟨b26, rfl, rfl⟩
 obtain ⟨x27, e27, H0⟩ := bS H0
 refine oC11 12 ts37 rfl rfl (nn (sr (oA 9 Tryz.underlying37 rfl ts35 rfl (oL 12 ts35 rfl (oD (stp_len Tryz.underlying35 rfl) rfl (oS rfl (nn (cw_seq (sr (oM rfl (oD (stp_mul rfl rfl e27) rfl (oM rfl (nn ?_)))))))))))))
 obtain ⟨o0_0, eo0_0, H0⟩ := bS H0
 refine cw_join (ι := Int × (List Bool) × Int × Res) (fun | (v28, v29, v31, C30) => o0_0 = .out (v28, v29, v31) ∧ (x5.k).length = (v29).length ∧ OwnC 4 p22 c24 v29 C30) (fun | (v28, v29, v31, C30) => [(2, .pointer (some ⟨b2, 0, none⟩)), (5, .pointer (some ⟨b26, 0, none⟩)), (6, .int .i64 ((x5.k).length : Int)), (19, .int .i64 x27), (20, .int .i64 v31)]) (fun | (v28, v29, v31, C30) => [(1, [(b2, .cells #[.slice none 0 0, .slice none 0 0, .slice none 0 0, .int .i64 0, .int .i64 0, .int .i64 0, .int .i64 0, .slice none 0 0, .int .i64 0, .slice none 0 0, .int .i64 0] 37 (0, 0))]), (7, C9), (8, C13), (9, C17), (10, C21), (11, C30), (12, [(b26, .cells #[.slice p6 ((x5.m.t.b).length) c8, .slice p10 ((x5.m.t.f).length) c12, .slice p14 ((x5.m.c.l).length) c16, .int .i64 x5.m.c.h, .int .i64 x5.m.g.c, .int .i64 x5.m.g.n, .int .i64 x5.m.g.r, .slice p18 ((x5.m.g.o).length) c20, .int .i64 x5.m.s, .slice p22 ((x5.k).length) c24, .int .i64 v28] 37 (0, 0))])]) ?_ ?_
 ·refine cw_block (cw_loopS (ι := Nat × Int × (List Bool) × Int × Res) (js := [1, 7, 8, 9, 10, 11, 12]) (fun x => x.1) (fun | (fuel, v28, v29, v31, C30) => i_FrameVictim_L0 fl x5 x27 fuel v28 v29 v31 = some o0_0 ∧ (x5.k).length = (v29).length ∧ OwnC 4 p22 c24 v29 C30) (fun | (_, v28, v29, v31, C30) => [(2, .pointer (some ⟨b2, 0, none⟩)), (5, .pointer (some ⟨b26, 0, none⟩)), (6, .int .i64 ((x5.k).length : Int)), (19, .int .i64 x27), (20, .int .i64 v31)]) (fun | (_, v28, v29, v31, C30) => [(1, [(b2, .cells #[.slice none 0 0, .slice none 0 0, .slice none 0 0, .int .i64 0, .int .i64 0, .int .i64 0, .int .i64 0, .slice none 0 0, .int .i64 0, .slice none 0 0, .int .i64 0] 37 (0, 0))]), (7, C9), (8, C13), (9, C17), (10, C21), (11, C30), (12, [(b26, .cells #[.slice p6 ((x5.m.t.b).length) c8, .slice p10 ((x5.m.t.f).length) c12, .slice p14 ((x5.m.c.l).length) c16, .int .i64 x5.m.c.h, .int .i64 x5.m.g.c, .int .i64 x5.m.g.n, .int .i64 x5.m.g.r, .slice p18 ((x5.m.g.o).length) c20, .int .i64 x5.m.s, .slice p22 ((x5.k).length) c24, .int .i64 v28] 37 (0, 0))])]) (fl, x5.h, x5.k, 0, C25) ⟨eo0_0, rfl, o25⟩ ⟨rfl, rfl, rfl, rfl, rfl, trivial⟩ ⟨1, [7, 8, 9, 10, 11, 12], rfl, rfl, 7, [8, 9, 10, 11, 12], rfl, rfl, 8, [9, 10, 11, 12], rfl, rfl, 9, [10, 11, 12], rfl, rfl, 10, [11, 12], rfl, rfl, 11, [12], rfl, rfl, 12, [], rfl, rfl, trivial⟩ (by decide) ?_)
  rintro ⟨fuel, v28, v29, v31, C30⟩ ⟨H1, hl30, o30⟩
  have H1 : i_FrameVictim_L0 fl x5 x27 fuel v28 v29 v31 = some o0_0 := H1
  rcases fuel with _ | fuel
  ·rw [i_FrameVictim_L0.eq_1] at H1; cases H1
  rw [i_FrameVictim_L0.eq_2] at H1
  dsimp only
  refine sr (oW rfl (nn (cw_seq (cw_cond rfl (fun h32 => ?_) (fun h32 => ?_)))))
  ·have H1 := cond_t H1 h32
   refine cw_skip (kw_nx (cw_seq (cw_block (sr (oA 10 Tryz.underlying37 rfl ts3 rfl (oL 12 ts3 rfl (oE (stpU_alloc 13 tz3 rfl) rfl ?_)))))))
   rintro _ _ ⟨b33, rfl, rfl⟩
   obtain ⟨x34, e34, H1⟩ := bS H1
   obtain ⟨x35, e35, H1⟩ := bS H1
   refine oC1 13 ts3 rfl rfl (nn (sr (oL 13 ts3 rfl (oP e34 rfl (oM rfl (oD (stp_rem rfl rfl e35) rfl (oA 10 Tryz.underlying37 rfl ts3 rfl (oC11 12 ts3 rfl rfl (nn (sr (oA 0 Tryz.underlying37 rfl ts34 rfl (oA 2 Tryz.underlying34 rfl ts29 rfl (oA 0 Tryz.underlying29 rfl ts27 rfl ?_)))))))))))))
   obtain ⟨x36, e36, H1⟩ := bS H1
   refine oL 12 ts27 rfl (oD (stp_makeFunc (yA rfl)) rfl (oE (stpU_call (fun i => 14 + i) cf23 (fun w hw => c_slices_ContainsFunc_Line_of_i_FrameVictim_1 fl w x5.m.c.l b33 v28 rfl (OwnC.pass (id := 9) rfl o17 hw) (box_pass (id := 13) rfl hw) x36 e36) (yB rfl rfl)) rfl ?_))
   rintro _ _ ⟨_, ⟨rfl, rfl⟩, rfl⟩
   obtain ⟨x37, e37, H1⟩ := bS H1
   refine oS rfl (nn (cw_block (sr (oA 0 Tryz.underlying37 rfl ts34 rfl (oA 0 Tryz.underlying34 rfl ts26 rfl (oA 1 Tryz.underlying26 rfl ts24 rfl (oL 12 ts24 rfl (oL 13 ts3 rfl (oD (stp_indexAddr Tryz.underlying24 ts51 (by decide) rfl rfl rfl (Rdb.own (id := 8) rfl o13) e37) rfl (oA 0 Tryz.underlying51 rfl ts4 rfl (oD (stp_load1 ts4 rfl (Cells.el (Rdb.own (id := 8) rfl o13) (by decide) e37 0 1 rfl)) rfl (oK rfl (oM rfl ?_)))))))))))))
   obtain ⟨y38, ey38, H1⟩ := bS H1
   refine ow_cutY 2 49 y38 ?_ ?_
   ·rcases Bool.eq_false_or_eq_true (!x37.u) with hy38 | hy38
    ·have ey38 := cond_t ey38 hy38
     refine oO rfl hy38 rfl (oD (stp_pick_t rfl hy38 rfl) rfl ?_)
     obtain rfl := sI ey38
     exact ow_nil (jy 2 0)
    have ey38 := cond_f ey38 hy38
    refine oG rfl hy38 (mv rfl) rfl (oD (stp_pick_f rfl hy38 rfl) rfl ?_)
    obtain rfl := sI ey38
    exact ow_nil (jy 2 0)
   refine oS rfl (nn (cw_cond rfl (fun h39 => ?_) (fun h39 => ?_)))
   ·have H1 := cond_t H1 h39
    obtain ⟨x40, e40, H1⟩ := bS H1
    exact cw_skip (kw_bl_normal (kw_bl_normal (kw_nx (cw_region (oP e40 rfl (oM rfl (ow_nil (kw_lqS (js := [1, 7, 8, 9, 10, 11, 12]) (fuel, x35, v29, x40, C30) ⟨H1, (by simp [hl30]), o30⟩ (Nat.lt_succ_self _) ⟨rfl, rfl, rfl, rfl, rfl, trivial⟩ ⟨1, [7, 8, 9, 10, 11, 12], rfl, rfl, 7, [8, 9, 10, 11, 12], rfl, rfl, 8, [9, 10, 11, 12], rfl, rfl, 9, [10, 11, 12], rfl, rfl, 10, [11, 12], rfl, rfl, 11, [12], rfl, rfl, 12, [], rfl, rfl, trivial⟩ (by decide)))))))))
   have H1 := cond_f H1 h39
   obtain ⟨x41, e41, H1⟩ := bS H1
   refine sr (oA 9 Tryz.underlying37 rfl ts35 rfl (oL 12 ts35 rfl (oL 13 ts3 rfl (oD (stp_indexAddr Tryz.underlying35 ts4 (by decide) rfl (by simp [hl30]) rfl (Rdb.own (id := 11) rfl o30) e41) rfl (oD (stp_load1 ts4 rfl (Cells.el (Rdb.own (id := 11) rfl o30) (by decide) e41 0 1 rfl)) rfl (oS rfl (nn (cw_cond rfl (fun h42 => ?_) (fun h42 => ?_)))))))))
   ·have H1 := cond_t H1 h42
    refine cw_region (oA 9 Tryz.underlying37 rfl ts35 rfl (oL 12 ts35 rfl (oL 13 ts3 rfl (oD (stp_indexAddr Tryz.underlying35 ts4 (by decide) rfl (by simp [hl30]) rfl (Rdb.own (id := 11) rfl o30) e41) rfl (oF (stpU_storeEl (id := 11) (i := 0) false (by decide) ts4 rfl rfl rfl o30 e41 rfl rfl rfl rfl) ?_)))))
    rintro _ _ ⟨C43, rfl, o43⟩
    obtain ⟨x44, e44, H1⟩ := bS H1
    exact ow_nil (kw_bl_normal (kw_bl_normal (kw_nx (cw_region (oP e44 rfl (oM rfl (ow_nil (kw_lqS (js := [1, 7, 8, 9, 10, 11, 12]) (fuel, x35, (v29.set (Int.toNat v28) false), x44, C43) ⟨H1, (by simp [hl30]), o43⟩ (Nat.lt_succ_self _) ⟨rfl, rfl, rfl, rfl, rfl, trivial⟩ ⟨1, [7, 8, 9, 10, 11, 12], rfl, rfl, 7, [8, 9, 10, 11, 12], rfl, rfl, 8, [9, 10, 11, 12], rfl, rfl, 9, [10, 11, 12], rfl, rfl, 10, [11, 12], rfl, rfl, 11, [12], rfl, rfl, 12, [], rfl, rfl, trivial⟩ (by decide)))))))))
   have H1 := cond_f H1 h42
   refine cw_seq (rdt g_mixed (rn 0 5) ⟨[[12],[13],[1]], [[],[],[1]], []⟩ (dB11 12 ts37 rfl (dL 13 ts3 rfl (dC11 1 ts37 rfl rfl rfl (dS rfl (dS rfl (dn (kw_nx (cw_ret (kw_bl_ret (kw_bl_ret (kw_nx_ret (kw_lq_ret ?_)))))))))))))
   refine kw_bl_ret (kw_join_ret (kw_nx_ret ?_))
   obtain rfl := sI H1
   obtain rfl := sI H0
   exact kr Tryz.results12 (.cons (.cellN (us := [_, _, _, _, _, _, _, _, _, _, _]) ts37 rfl (Cells.box (id := 1) rfl 11 rfl)) (.cons (.tmp rfl) (rT rfl))) [7, 8, 9, 10, 11] ⟨_, _, _, _, _, _, _, _, _, _, _, _, _, _, _, _, _, _, _, _, rfl, rfl, rfl, o9, rfl, o13, rfl, o17, rfl, o21, (by simp [hl30]), o30⟩
  have H1 := cond_f H1 h32
  refine cw_exit (kw_nx_exit (kw_lq_exit (kw_bl ?_)))
  obtain rfl := sI H1
  exact kw_joinS (js := [1, 7, 8, 9, 10, 11, 12]) (v28, v29, v31, C30) ⟨rfl, (by simp [hl30]), o30⟩ ⟨rfl, rfl, rfl, rfl, rfl, trivial⟩ ⟨1, [7, 8, 9, 10, 11, 12], rfl, rfl, 7, [8, 9, 10, 11, 12], rfl, rfl, 8, [9, 10, 11, 12], rfl, rfl, 9, [10, 11, 12], rfl, rfl, 10, [11, 12], rfl, rfl, 11, [12], rfl, rfl, 12, [], rfl, rfl, trivial⟩ (by decide)
 rintro ⟨v28, v29, v31, C30⟩ ⟨rfl, hl30, o30⟩
 dsimp only
 refine kw_nx (sr (oD (stp_build (cs := #[.slice none 0 0, .slice none 0 0, .slice none 0 0, .int .i64 0, .int .i64 0, .int .i64 0, .int .i64 0, .slice none 0 0, .int .i64 0, .slice none 0 0, .int .i64 0]) sevp_nil bt37_19) rfl (oC11 1 ts37 rfl rfl (oS rfl (oS rfl (nn (cw_ret (kw_addNil 14 (kw_addNil 15 (kw_addNil 16 (kw_addNil 17 (kw_addNil 18 ?_))))))))))))
 obtain rfl := sI H0
 exact kr Tryz.results12 (.cons (.cellN (us := [_, _, _, _, _, _, _, _, _, _, _]) ts37 rfl (Cells.box (id := 1) rfl 11 rfl)) (.cons (.tmp rfl) (rT rfl))) [14, 15, 16, 17, 18] ⟨_, _, _, _, _, _, _, _, _, _, _, _, _, _, _, _, _, _, _, _, rfl, rfl, rfl, (OwnC.nil _ _), rfl, (OwnC.nil _ _), rfl, (OwnC.nil _ _), rfl, (OwnC.nil _ _), rfl, (OwnC.nil _ _)⟩
end Go.Proofs.YtkccmjfhmkjnlaaGreatDoor
