/- The walks: functions of the program return what their pure functions say. Printed by a program (gen.py). -/
import Derived.Test.YtfnliecmagnkdaaDoorGp
import Derived.Test.YtfnliecmagnkdaaDoorGt
import Derived.Test.YtfnliecmagnkdaaDoorMan
import Derived.Test.YtfnliecmagnkdaaDoorMap
import Derived.Test.YtfnliecmagnkdaaDoorCpy
import Derived.Test.YtfnliecmagnkdaaDoorClr
import Derived.Test.YtfnliecmagnkdaaDoorDp
import Derived.Test.YtfnliecmagnkdaaDoorSrt
import Derived.Test.YtfnliecmagnkdaaDoorE8
import Derived.Test.YtfnliecmagnkdaaDoorGwae
import Derived.Test.YtfnliecmagnkdaaDoorGwaf
import Derived.Test.YtfnliecmagnkdaaDoorGws
set_option linter.unusedSimpArgs false
set_option linter.unusedVariables false
set_option linter.unusedSectionVars false
namespace Go.Proofs.YtfnliecmagnkdaaDoor
open Go.RowKit
set_option maxHeartbeats 4000000
set_option maxRecDepth 20000
variable {p0_0 p0_0_0 : Option Addr} {n0_0 n0_0_0 : Nat} {c0_0 c0_0_0 : Nat}
theorem c_s_l2Case (fl : Nat) (w : World) (m0 : Nat) (a0_0 : (List UInt8)) (a0_1 : Int) (hn0_0_0 : n0_0_0 = (a0_0).length) (hr0_0_0 : RO w (hkeys [(0, [(m0, .cells #[.slice p0_0_0 n0_0_0 c0_0_0, .int .i64 a0_1] 137 (0, 0))])]) (RdL p0_0_0 c0_0_0 a0_0)) (hM : Sat w (hkeys [(0, [(m0, .cells #[.slice p0_0_0 n0_0_0 c0_0_0, .int .i64 a0_1] 137 (0, 0))])]) w [(0, [(m0, .cells #[.slice p0_0_0 n0_0_0 c0_0_0, .int .i64 a0_1] 137 (0, 0))])]) (r : K × Int) (H0 : s_l2Case fl a0_0 a0_1 = some r) :
  Ct Tryd.prog 124 [.pointer (some ⟨m0, 0, none⟩)] w [(0, [(m0, .cells #[.slice p0_0_0 n0_0_0 c0_0_0, .int .i64 a0_1] 137 (0, 0))])] (fun rv h' => rv = .agg #[.int .i64 r.1.s, .int .i64 r.1.p] ∧ h' = [(0, [(m0, .cells #[.slice p0_0_0 n0_0_0 c0_0_0, .int .i64 r.2] 137 (0, 0))])]) := by
 subst hn0_0_0
 unfold s_l2Case at H0
 refine ct_of_cw Tryd.func124 rfl Tryd.ntmps124 rfl hM ?_
 refine sr (oE (stpU_alloc 1 tz46 rfl) rfl ?_)
 rintro _ _ ⟨b1, rfl, rfl⟩
 obtain ⟨x2, e2, H0⟩ := bS H0
 refine nn (sr (oM rfl (oE (stpU_callM (fun i => bif Nat.beq i 0 then 0 else 2 + i) cf118 (fun w hw hb => c_s_l2Draw fl w m0 a0_0 a0_1 rfl (RO.passM hr0_0_0 hw hb) (hw.pass (js := [0]) ⟨0, [], rfl, rfl, trivial⟩ (by decide)) x2 e2) (yA rfl) ⟨rfl, (fun _ _ hp => by obtain ⟨_, rfl⟩ := hp; exact ⟨_, rfl⟩), trivial⟩) rfl ?_)))
 rintro _ _ ⟨_, ⟨rfl, rfl⟩, rfl⟩
 refine oE (stpU_alloc 3 tz46 rfl) rfl ?_
 rintro _ _ ⟨b3, rfl, rfl⟩
 obtain ⟨x4, e4, H0⟩ := bS H0
 refine oC2 3 ts46 rfl rfl (nn (cw_seq (sr (oM rfl (oE (stpU_callM (fun i => bif Nat.beq i 0 then 0 else 4 + i) cf62 (fun w hw hb => c_s_l12Rd_pick fl w m0 a0_0 x2.2 24 rfl (RO.passM hr0_0_0 hw hb) (hw.pass (js := [0]) ⟨0, [], rfl, rfl, trivial⟩ (by decide)) x4 e4) (yB rfl rfl) ⟨rfl, (fun _ _ hp => by obtain ⟨_, rfl⟩ := hp; exact ⟨_, rfl⟩), trivial⟩) rfl ?_)))))
 rintro _ _ ⟨_, ⟨rfl, rfl⟩, rfl⟩
 refine nn (cw_block (sr (oQ rfl (oS rfl (nn (cw_cond rfl (fun h5 => ?_) (fun h5 => ?_)))))))
 ·have H0 := cond_t H0 h5
  refine cw_region (oM rfl (oE (stpU_lit (sz := 1) (l := [(-1), 16]) [.int .i64 (-1), .int .i64 16] sl22 5 (sevp_cons rfl (sevp_cons rfl sevp_nil)) rfl rfl rfl rfl rfl rfl rfl rfl rfl) rfl ?_))
  rintro _ _ ⟨p6, C7, rfl, rfl, o7⟩
  obtain ⟨x8, e8, H0⟩ := bS H0
  refine oE (stpU_callM (fun i => bif Nat.beq i 0 then 0 else 6 + i) cf83 (fun w hw hb => c_s_l12Rd_num fl w m0 a0_0 x4.2 ([(-1), 16]) rfl (RO.passM hr0_0_0 hw hb) (by simp) (OwnC.passM (id := 5) rfl o7 hw hb ⟨rfl, trivial⟩) (hw.pass (js := [0]) ⟨0, [], rfl, rfl, trivial⟩ (by decide)) x8 e8) (yB rfl rfl) ⟨rfl, (fun _ _ hp => by obtain ⟨_, rfl⟩ := hp; exact ⟨_, rfl⟩), trivial⟩) rfl ?_
  rintro _ _ ⟨_, ⟨rfl, rfl⟩, rfl⟩
  refine oA 0 Tryd.underlying46 rfl ts3 rfl (oC2 3 ts3 rfl rfl (ow_nil (kw_bl_normal (kw_nx (sr (oB2 3 ts46 rfl (oC2 1 ts46 rfl rfl (nn (cw_ret ?_)))))))))
  obtain rfl := sI H0
  exact kr Tryd.results124 (rC2 1 ts46 rfl rfl) [0] ⟨rfl, rfl⟩
 have H0 := cond_f H0 h5
 refine sr (oQ rfl (oS rfl (nn (cw_cond rfl (fun h9 => ?_) (fun h9 => ?_)))))
 ·have H0 := cond_t H0 h9
  refine cw_region (oM rfl (oE (stpU_lit (sz := 1) (l := [(-1), 256]) [.int .i64 (-1), .int .i64 256] sl22 7 (sevp_cons rfl (sevp_cons rfl sevp_nil)) rfl rfl rfl rfl rfl rfl rfl rfl rfl) rfl ?_))
  rintro _ _ ⟨p10, C11, rfl, rfl, o11⟩
  obtain ⟨x12, e12, H0⟩ := bS H0
  refine oE (stpU_callM (fun i => bif Nat.beq i 0 then 0 else 8 + i) cf83 (fun w hw hb => c_s_l12Rd_num fl w m0 a0_0 x4.2 ([(-1), 256]) rfl (RO.passM hr0_0_0 hw hb) (by simp) (OwnC.passM (id := 7) rfl o11 hw hb ⟨rfl, trivial⟩) (hw.pass (js := [0]) ⟨0, [], rfl, rfl, trivial⟩ (by decide)) x12 e12) (yB rfl rfl) ⟨rfl, (fun _ _ hp => by obtain ⟨_, rfl⟩ := hp; exact ⟨_, rfl⟩), trivial⟩) rfl ?_
  rintro _ _ ⟨_, ⟨rfl, rfl⟩, rfl⟩
  refine oA 1 Tryd.underlying46 rfl ts3 rfl (oC2 3 ts3 rfl rfl (ow_nil (kw_bl_normal (kw_nx (sr (oB2 3 ts46 rfl (oC2 1 ts46 rfl rfl (nn (cw_ret ?_)))))))))
  obtain rfl := sI H0
  exact kr Tryd.results124 (rC2 1 ts46 rfl rfl) [0] ⟨rfl, rfl⟩
 have H0 := cond_f H0 h9
 refine cw_skip (kw_bl_normal (kw_nx (sr (oB2 3 ts46 rfl (oC2 1 ts46 rfl rfl (nn (cw_ret ?_)))))))
 obtain rfl := sI H0
 exact kr Tryd.results124 (rC2 1 ts46 rfl rfl) [0] ⟨rfl, rfl⟩

theorem c_s_l8At (fl : Nat) (w : World) (a0 : (List UInt8)) (hn0_0 : n0_0 = (a0).length) (hr0_0 : RO w (hkeys []) (RdL p0_0 c0_0 a0)) (r : Sy × Int × K) (H0 : s_l8At fl a0 = some r) :
  Ct Tryd.prog 70 [.slice p0_0 n0_0 c0_0] w [] (fun rv h' => ∃ (x0 : Option Addr) (y0 z0 : Nat) (C0 : Res) (x1 : Option Addr) (y1 z1 : Nat) (C1 : Res) (x2 : Option Addr) (y2 z2 : Nat) (C2 : Res), rv = .tuple #[.agg #[.slice x0 y0 z0, .slice x1 y1 z1, .slice x2 y2 z2], .int .i64 r.2.1, .agg #[.int .i64 r.2.2.s, .int .i64 r.2.2.p]] ∧ h' = [(0, C0), (1, C1), (2, C2)] ∧ y0 = (r.1.t.b).length ∧ OwnC 3 x0 z0 r.1.t.b C0 ∧ y1 = (r.1.t.f).length ∧ OwnC 84 x1 z1 r.1.t.f C1 ∧ y2 = (r.1.c).length ∧ OwnD 44 48 x2 z2 r.1.c C2) := by
 subst hn0_0
 unfold s_l8At at H0
 refine ct_of_cw Tryd.func70 rfl Tryd.ntmps70 rfl (Sat.refl _ _) ?_
 refine sr (oE (stpU_alloc 0 tz36 rfl) rfl ?_)
 rintro _ _ ⟨b1, rfl, rfl⟩
 refine oS rfl (oE (stpU_alloc 1 tz46 rfl) rfl ?_)
 rintro _ _ ⟨b2, rfl, rfl⟩
 refine nn (sr (oM rfl (oE (stpU_call (fun i => 2 + i) cf56 (fun w hw => c_open56 w a0 p0_0 ((a0).length) c0_0 rfl (RO.cap hr0_0).1) (yA rfl)) rfl ?_)))
 rintro _ _ ⟨_, ⟨b3, rfl, rfl⟩, rfl⟩
 obtain ⟨x4, e4, H0⟩ := bS H0
 refine oS rfl (nn (sr (oM rfl (oE (stpU_callM (fun i => bif Nat.beq i 0 then 2 else 3 + i) cf58 (fun w hw hb => c_s_l8Draw fl w b3 (a0.take 2000) 0 rfl (RO.passM (RO.takeN 2000 hr0_0) hw hb) (hw.pass (js := [2]) ⟨2, [], rfl, rfl, trivial⟩ (by decide)) x4 e4) (yA rfl) ⟨rfl, (fun _ _ hp => by obtain ⟨_, _, _, _, _, _, _, _, _, _, _, _, _, rfl, _⟩ := hp; exact ⟨_, rfl⟩), trivial⟩) rfl ?_))))
 rintro _ _ ⟨_, ⟨p5, _, c7, C8, p9, _, c11, C12, p13, _, c15, C16, rfl, rfl, rfl, o8, rfl, o12, rfl, o16⟩, rfl⟩
 refine oE (stpU_alloc 7 tz36 rfl) rfl ?_
 rintro _ _ ⟨b17, rfl, rfl⟩
 obtain ⟨x18, e18, H0⟩ := bS H0
 refine oC3 7 ts36 rfl rfl (nn (sr (oM rfl (oA 2 Tryd.underlying36 rfl ts34 rfl (oL 7 ts34 rfl (oD (stp_len Tryd.underlying34 rfl) rfl (oE (stpU_callM (fun i => bif Nat.beq i 0 then 2 else 8 + i) cf62 (fun w hw hb => c_s_l12Rd_pick fl w b3 (a0.take 2000) x4.2 ((x4.1.c).length : Int) rfl (RO.passM (RO.takeN 2000 hr0_0) hw hb) (hw.pass (js := [2]) ⟨2, [], rfl, rfl, trivial⟩ (by decide)) x18 e18) (yB rfl rfl) ⟨rfl, (fun _ _ hp => by obtain ⟨_, rfl⟩ := hp; exact ⟨_, rfl⟩), trivial⟩) rfl ?_)))))))
 rintro _ _ ⟨_, ⟨rfl, rfl⟩, rfl⟩
 obtain ⟨x19, e19, H0⟩ := bS H0
 refine oS rfl (nn (sr (oM rfl (oE (stpU_callM (fun i => bif Nat.beq i 0 then 2 else 9 + i) cf124 (fun w hw hb => c_s_l2Case fl w b3 (a0.take 2000) x18.2 rfl (RO.passM (RO.takeN 2000 hr0_0) hw hb) (hw.pass (js := [2]) ⟨2, [], rfl, rfl, trivial⟩ (by decide)) x19 e19) (yA rfl) ⟨rfl, (fun _ _ hp => by obtain ⟨_, rfl⟩ := hp; exact ⟨_, rfl⟩), trivial⟩) rfl ?_))))
 rintro _ _ ⟨_, ⟨rfl, rfl⟩, rfl⟩
 refine oE (stpU_alloc 10 tz46 rfl) rfl ?_
 rintro _ _ ⟨b20, rfl, rfl⟩
 obtain ⟨x21, e21, H0⟩ := bS H0
 refine oC2 10 ts46 rfl rfl (nn (sr (oA 0 Tryd.underlying36 rfl ts33 rfl (oB2 7 ts33 rfl (oE (stpU_call (fun i => 11 + i) cf120 (fun w hw => c_s_KeysOf fl w x4.1.t rfl (OwnC.pass (id := 4) rfl o8 hw) rfl (OwnC.pass (id := 5) rfl o12 hw) x21 e21) (yA rfl)) rfl ?_)))))
 rintro _ _ ⟨_, ⟨p22, _, c24, C25, rfl, rfl, rfl, o25⟩, rfl⟩
 obtain ⟨y26, ey26, H0⟩ := bS H0
 refine oS rfl (nn (cw_seq (sr (oM rfl (oD (stp_len Tryd.underlying142 rfl) rfl (oJ rfl (oM rfl (ow_cut (ι := Unit) 4 (fun _ => True) (fun _ => [(0, .slice p0_0 ((a0).length) c0_0), (2, .pointer (some ⟨b1, 0, none⟩)), (3, .int .i64 0), (4, .pointer (some ⟨b2, 0, none⟩)), (5, .pointer (some ⟨b3, 0, none⟩)), (6, .pointer (some ⟨b17, 0, none⟩)), (7, .int .i64 x18.1), (8, .pointer (some ⟨b20, 0, none⟩)), (9, .slice p22 ((x21).length) c24), (10, .slice p0_0 ((a0).length) c0_0), (11, .pointer (some ⟨b3, 0, none⟩)), (12, .pointer (some ⟨b3, 0, none⟩)), (13, .agg #[.slice p5 ((x4.1.t.b).length) c7, .slice p9 ((x4.1.t.f).length) c11, .slice p13 ((x4.1.c).length) c15]), (14, .pointer (some ⟨b3, 0, none⟩)), (15, .pointer (some ⟨b17, 2, none⟩)), (16, .slice p13 ((x4.1.c).length) c15), (17, .int .i64 ((x4.1.c).length : Int)), (18, .int .i64 x18.1), (19, .pointer (some ⟨b3, 0, none⟩)), (20, .agg #[.int .i64 x19.1.s, .int .i64 x19.1.p]), (21, .pointer (some ⟨b17, 0, none⟩)), (22, .agg #[.slice p5 ((x4.1.t.b).length) c7, .slice p9 ((x4.1.t.f).length) c11]), (23, .slice p22 ((x21).length) c24), (24, .slice p22 ((x21).length) c24), (25, .int .i64 ((x21).length : Int)), (26, .bool (decide (0 < ((x21).length : Int)))), (27, .bool (decide (0 < ((x21).length : Int)))), (31, .bool y26.1)]) (fun _ => [(0, [(b1, .cells #[.slice none 0 0, .slice none 0 0, .slice none 0 0] 36 (0, 0))]), (1, [(b2, .cells #[.int .i64 0, .int .i64 0] 46 (0, 0))]), (2, [(b3, .cells #[.slice p0_0 (((a0.take 2000)).length) c0_0, .int .i64 y26.2] 137 (0, 0))]), (4, C8), (5, C12), (6, C16), (7, [(b17, .cells #[.slice p5 ((x4.1.t.b).length) c7, .slice p9 ((x4.1.t.f).length) c11, .slice p13 ((x4.1.c).length) c15] 36 (0, 0))]), (10, [(b20, .cells #[.int .i64 x19.1.s, .int .i64 x19.1.p] 46 (0, 0))]), (11, C25)]) ?_ (fun _ _ => ?_)))))))))
 ·rcases Bool.eq_false_or_eq_true (decide (0 < ((x21).length : Int))) with hy26 | hy26
  ·have ey26 := cond_t ey26 hy26
   obtain ⟨x27, e27, ey26⟩ := bS ey26
   refine oG rfl hy26 (mv rfl) rfl (ow_eff (.some rfl hy26) (stpU_callM (fun i => bif Nat.beq i 0 then 2 else 12 + i) cf62 (fun w hw hb => c_s_l12Rd_pick fl w b3 (a0.take 2000) x19.2 2 rfl (RO.passM (RO.takeN 2000 hr0_0) hw hb) (hw.pass (js := [2]) ⟨2, [], rfl, rfl, trivial⟩ (by decide)) x27 e27) (yB rfl rfl) ⟨rfl, (fun _ _ hp => by obtain ⟨_, rfl⟩ := hp; exact ⟨_, rfl⟩), trivial⟩) rfl ?_)
   rintro _ _ ⟨_, ⟨rfl, rfl⟩, rfl⟩
   refine oG rfl hy26 (stp_eql rfl rfl) rfl (oD (stp_pick_t rfl hy26 rfl) rfl ?_)
   obtain rfl := sI ey26
   exact ow_nil (kw_join () trivial ⟨rfl, rfl, rfl, rfl, rfl, rfl, rfl, rfl, rfl, rfl, rfl, rfl, rfl, rfl, rfl, rfl, rfl, rfl, rfl, rfl, rfl, rfl, rfl, rfl, rfl, rfl, rfl, rfl, trivial⟩ ⟨rfl, rfl, rfl, rfl, rfl, rfl, rfl, rfl, rfl, trivial⟩)
  have ey26 := cond_f ey26 hy26
  refine oO rfl hy26 rfl (oO rfl hy26 rfl (oO rfl hy26 rfl (oD (stp_pick_f rfl hy26 rfl) rfl ?_)))
  obtain rfl := sI ey26
  exact ow_nil (kw_join () trivial ⟨rfl, rfl, rfl, rfl, rfl, rfl, rfl, rfl, rfl, rfl, rfl, rfl, rfl, rfl, rfl, rfl, rfl, rfl, rfl, rfl, rfl, rfl, rfl, rfl, rfl, rfl, rfl, rfl, trivial⟩ ⟨rfl, rfl, rfl, rfl, rfl, rfl, rfl, rfl, rfl, trivial⟩)
 refine ow_nil (kw_nx (cw_cond rfl (fun h28 => ?_) (fun h28 => ?_)))
 ·have H0 := cond_t H0 h28
  obtain ⟨x29, e29, H0⟩ := bS H0
  refine cw_region (oM rfl (oM rfl (oM rfl (oD (stp_len Tryd.underlying142 rfl) rfl (oE (stpU_callM (fun i => bif Nat.beq i 0 then 2 else 13 + i) cf62 (fun w hw hb => c_s_l12Rd_pick fl w b3 (a0.take 2000) y26.2 ((x21).length : Int) rfl (RO.passM (RO.takeN 2000 hr0_0) hw hb) (hw.pass (js := [2]) ⟨2, [], rfl, rfl, trivial⟩ (by decide)) x29 e29) (yB rfl rfl) ⟨rfl, (fun _ _ hp => by obtain ⟨_, rfl⟩ := hp; exact ⟨_, rfl⟩), trivial⟩) rfl ?_)))))
  rintro _ _ ⟨_, ⟨rfl, rfl⟩, rfl⟩
  obtain ⟨x30, e30, H0⟩ := bS H0
  obtain ⟨x31, e31, H0⟩ := bS H0
  refine oD (stp_indexAddr Tryd.underlying142 ts46 (by decide) rfl rfl rfl (Rdb.own (id := 11) rfl o25) e30) rfl (oD (stp_loadN (us := [_, _]) ts46 rfl (Cells.el (Rdb.own (id := 11) rfl o25) (by decide) e30 0 2 rfl)) rfl (oC2 10 ts46 rfl rfl (nn (cw_seq (sr (oM rfl (oE (stpU_callM (fun i => bif Nat.beq i 0 then 2 else 14 + i) cf62 (fun w hw hb => c_s_l12Rd_pick fl w b3 (a0.take 2000) x29.2 20 rfl (RO.passM (RO.takeN 2000 hr0_0) hw hb) (hw.pass (js := [2]) ⟨2, [], rfl, rfl, trivial⟩ (by decide)) x31 e31) (yB rfl rfl) ⟨rfl, (fun _ _ hp => by obtain ⟨_, rfl⟩ := hp; exact ⟨_, rfl⟩), trivial⟩) rfl ?_)))))))
  rintro _ _ ⟨_, ⟨rfl, rfl⟩, rfl⟩
  refine oQ rfl (nn (cw_cond rfl (fun h32 => ?_) (fun h32 => ?_)))
  ·have H0 := cond_t H0 h32
   refine cw_region (oM rfl (oE (stpU_lit (sz := 1) (l := [(-1), 4]) [.int .i64 (-1), .int .i64 4] sl22 15 (sevp_cons rfl (sevp_cons rfl sevp_nil)) rfl rfl rfl rfl rfl rfl rfl rfl rfl) rfl ?_))
   rintro _ _ ⟨p33, C34, rfl, rfl, o34⟩
   obtain ⟨x35, e35, H0⟩ := bS H0
   refine oE (stpU_callM (fun i => bif Nat.beq i 0 then 2 else 16 + i) cf83 (fun w hw hb => c_s_l12Rd_num fl w b3 (a0.take 2000) x31.2 ([(-1), 4]) rfl (RO.passM (RO.takeN 2000 hr0_0) hw hb) (by simp) (OwnC.passM (id := 15) rfl o34 hw hb ⟨rfl, trivial⟩) (hw.pass (js := [2]) ⟨2, [], rfl, rfl, trivial⟩ (by decide)) x35 e35) (yB rfl rfl) ⟨rfl, (fun _ _ hp => by obtain ⟨_, rfl⟩ := hp; exact ⟨_, rfl⟩), trivial⟩) rfl ?_
   rintro _ _ ⟨_, ⟨rfl, rfl⟩, rfl⟩
   obtain ⟨x36, e36, H0⟩ := bS H0
   refine oS rfl (nn (cw_seq (rdq g_mixed [2, 4, 5, 6, 7, 8] [0, 1, 2, 4, 5, 6, 7, 10] { dst := dS [77, 78, 79, 80, 81, 0, 4, 0], pre := gA [] [[], [], [0, 1], [], [], [0, 1, 2], [0, 1, 2, 3, 5], rn 0 7], ids := gA [] [[], [], [2, 18, 19, 20], [], [], [0], [], [1]], rs := rL [[(5, 0)], [(6, 0)], [(76, 1), (77, 2)], [(7, 0)], [(8, 0)], [(2, 0), (78, 3)], [(79, 4)], [(4, 0), (80, 5)]], rh := rL [[], [(7, 0)], [(2, 0), (4, 0), (5, 0), (6, 0)], [], [(10, 0)], [(0, 0)], [], [(1, 0)]], V := fun i g => gA undef [.pointer (some ⟨b3, 0, none⟩), .agg #[.slice p5 ((x4.1.t.b).length) c7, .slice p9 ((x4.1.t.f).length) c11, .slice p13 ((x4.1.c).length) c15], .agg #[.slice ((g 2).A 0) ((x36.1.t.b).length) ((g 2).C 0), .slice ((g 2).A 1) ((x36.1.t.f).length) ((g 2).C 1), .slice ((g 2).A 2) ((x36.1.c).length) ((g 2).C 2)], .int .i64 x35.1, .agg #[.int .i64 x30.s, .int .i64 x30.p], undef, .int .i64 x35.1] i, U := fun i g => gA [] [[], [], [(2, [(b3, .cells #[.slice p0_0 (((a0.take 2000)).length) c0_0, .int .i64 x36.2] 137 (0, 0))]), (18, ((g 2).R 0)), (19, ((g 2).R 1)), (20, ((g 2).R 2))], [], [], [(0, [(b1, .cells #[.slice ((g 2).A 0) ((x36.1.t.b).length) ((g 2).C 0), .slice ((g 2).A 1) ((x36.1.t.f).length) ((g 2).C 1), .slice ((g 2).A 2) ((x36.1.c).length) ((g 2).C 2)] 36 (0, 0))])], [], [(1, [(b2, .cells #[.int .i64 x30.s, .int .i64 x30.p] 46 (0, 0))])]] i, Φ := fun i x => gA True [True, True, OwnC 3 (x.A 0) (x.C 0) x36.1.t.b (x.R 0) ∧ OwnC 84 (x.A 1) (x.C 1) x36.1.t.f (x.R 1) ∧ OwnD 44 48 (x.A 2) (x.C 2) x36.1.c (x.R 2)] i } ?_ ?_)))
   ·refine ⟨lM, lc rfl rfl fun hs hh => stp_loadN (us := [_, _, _]) ts36 (sv hs 6 rfl) (Cells.box (id := 7) (hh.get 7 _ rfl) 3 rfl), ?_, lM, lc rfl rfl fun hs hh => stp_loadN (us := [_, _]) ts46 (sv hs 8 rfl) (Cells.box (id := 10) (hh.get 10 _ rfl) 2 rfl), ?_, lS, ?_, trivial⟩
    ·refine le rfl rfl (fun g hΦ s h hs hh => (stpU_callM (fun i => bif Nat.beq i 0 then 2 else 17 + i) cf57 (fun w hw hb => c_s_l8Wrong fl w b3 (a0.take 2000) x35.2 x4.1 rfl (RO.passM (RO.takeN 2000 hr0_0) hw hb) rfl (OwnC.passM (id := 4) (hh.get 4 _ rfl) o8 hw hb ⟨rfl, trivial⟩) rfl (OwnC.passM (id := 5) (hh.get 5 _ rfl) o12 hw hb ⟨rfl, trivial⟩) rfl (OwnD.passM (id := 6) (hh.get 6 _ rfl) o16 hw hb ⟨rfl, trivial⟩) (hw.pass (js := [2]) ⟨2, [], rfl, (hh.get 2 _ rfl), trivial⟩ (by decide)) x36 e36) (yB (sv hs 76 rfl) (sv hs 77 rfl)) ⟨(hh.get 2 _ rfl), (fun _ _ hp => by obtain ⟨_, _, _, _, _, _, _, _, _, _, _, _, _, rfl, _⟩ := hp; exact ⟨_, rfl⟩), trivial⟩)) ?_
     rintro g _ _ ⟨_, ⟨p37, _, c39, C40, p41, _, c43, C44, p45, _, c47, C48, rfl, rfl, rfl, o40, rfl, o44, rfl, o48⟩, rfl⟩
     exact ⟨⟨[p37, p41, p45], [c39, c43, c47], [C40, C44, C48]⟩, ⟨o40, o44, o48⟩, .inr rfl, rfl⟩
    ·refine le rfl rfl (fun g hΦ s h hs hh => (stpU_store (id := 0) (cs' := [.slice ((g 2).A 0) ((x36.1.t.b).length) ((g 2).C 0), .slice ((g 2).A 1) ((x36.1.t.f).length) ((g 2).C 1), .slice ((g 2).A 2) ((x36.1.c).length) ((g 2).C 2)]) ts36 (sv hs 2 rfl) (sv hs 78 rfl) (hh.get 0 _ rfl) rfl rfl rfl rfl)) ?_
     rintro g _ _ rfl
     exact ⟨⟨[], [], []⟩, trivial, .inl rfl, rfl⟩
    refine le rfl rfl (fun g hΦ s h hs hh => (stpU_store (id := 1) (cs' := [.int .i64 x30.s, .int .i64 x30.p]) ts46 (sv hs 4 rfl) (sv hs 80 rfl) (hh.get 1 _ rfl) rfl rfl rfl rfl)) ?_
    rintro g _ _ rfl
    exact ⟨⟨[], [], []⟩, trivial, .inl rfl, rfl⟩
   intro g hΦ
   refine kw_gen (ι := Option Addr × Option Addr × Option Addr × Nat × Nat × Nat × Res × Res × Res) (((g 2).A 0), ((g 2).A 1), ((g 2).A 2), ((g 2).C 0), ((g 2).C 1), ((g 2).C 2), ((g 2).R 0), ((g 2).R 1), ((g 2).R 2)) (fun | (p37, p41, p45, c39, c43, c47, C40, C44, C48) => OwnC 3 p37 c39 x36.1.t.b C40 ∧ OwnC 84 p41 c43 x36.1.t.f C44 ∧ OwnD 44 48 p45 c47 x36.1.c C48) (fun | (p37, p41, p45, c39, c43, c47, C40, C44, C48) => [(2, .pointer (some ⟨b1, 0, none⟩)), (3, .int .i64 x35.1), (4, .pointer (some ⟨b2, 0, none⟩))]) (fun | (p37, p41, p45, c39, c43, c47, C40, C44, C48) => [(0, [(b1, .cells #[.slice p37 ((x36.1.t.b).length) c39, .slice p41 ((x36.1.t.f).length) c43, .slice p45 ((x36.1.c).length) c47] 36 (0, 0))]), (1, [(b2, .cells #[.int .i64 x30.s, .int .i64 x30.p] 46 (0, 0))]), (18, C40), (19, C44), (20, C48)]) ⟨(hΦ 2 (by decide)).1, (hΦ 2 (by decide)).2.1, (hΦ 2 (by decide)).2.2⟩ ⟨rfl, rfl, rfl, trivial⟩ ⟨rfl, rfl, rfl, rfl, rfl, trivial⟩ ?_
   rintro ⟨p37, p41, p45, c39, c43, c47, C40, C44, C48⟩ ⟨o40, o44, o48⟩
   dsimp only
   refine kw_nx (cw_ret ?_)
   obtain rfl := sI H0
   exact kr Tryd.results70 (.cons (.cellN (us := [_, _, _]) ts36 rfl (Cells.box (id := 0) rfl 3 rfl)) (.cons (.tmp rfl) (rC2 1 ts46 rfl rfl))) [18, 19, 20] ⟨_, _, _, _, _, _, _, _, _, _, _, _, rfl, rfl, rfl, o40, rfl, o44, rfl, o48⟩
  have H0 := cond_f H0 h32
  obtain ⟨x49, e49, H0⟩ := bS H0
  refine cw_skip (kw_nx (cw_seq (rdq g_mixed [2, 4, 5, 6, 7, 8] [0, 1, 2, 4, 5, 6, 7, 10] { dst := dS [77, 78, 79, 80, 81, 0, 4, 0], pre := gA [] [[], [], [0, 1], [], [], [0, 1, 2], [0, 1, 2, 3, 5], rn 0 7], ids := gA [] [[], [], [2, 22, 23, 24], [], [], [0], [], [1]], rs := rL [[(5, 0)], [(6, 0)], [(76, 1), (77, 2)], [(7, 0)], [(8, 0)], [(2, 0), (78, 3)], [(79, 4)], [(4, 0), (80, 5)]], rh := rL [[], [(7, 0)], [(2, 0), (4, 0), (5, 0), (6, 0)], [], [(10, 0)], [(0, 0)], [], [(1, 0)]], V := fun i g => gA undef [.pointer (some ⟨b3, 0, none⟩), .agg #[.slice p5 ((x4.1.t.b).length) c7, .slice p9 ((x4.1.t.f).length) c11, .slice p13 ((x4.1.c).length) c15], .agg #[.slice ((g 2).A 0) ((x49.1.t.b).length) ((g 2).C 0), .slice ((g 2).A 1) ((x49.1.t.f).length) ((g 2).C 1), .slice ((g 2).A 2) ((x49.1.c).length) ((g 2).C 2)], .int .i64 x18.1, .agg #[.int .i64 x30.s, .int .i64 x30.p], undef, .int .i64 x18.1] i, U := fun i g => gA [] [[], [], [(2, [(b3, .cells #[.slice p0_0 (((a0.take 2000)).length) c0_0, .int .i64 x49.2] 137 (0, 0))]), (22, ((g 2).R 0)), (23, ((g 2).R 1)), (24, ((g 2).R 2))], [], [], [(0, [(b1, .cells #[.slice ((g 2).A 0) ((x49.1.t.b).length) ((g 2).C 0), .slice ((g 2).A 1) ((x49.1.t.f).length) ((g 2).C 1), .slice ((g 2).A 2) ((x49.1.c).length) ((g 2).C 2)] 36 (0, 0))])], [], [(1, [(b2, .cells #[.int .i64 x30.s, .int .i64 x30.p] 46 (0, 0))])]] i, Φ := fun i x => gA True [True, True, OwnC 3 (x.A 0) (x.C 0) x49.1.t.b (x.R 0) ∧ OwnC 84 (x.A 1) (x.C 1) x49.1.t.f (x.R 1) ∧ OwnD 44 48 (x.A 2) (x.C 2) x49.1.c (x.R 2)] i } ?_ ?_)))
  ·refine ⟨lM, lc rfl rfl fun hs hh => stp_loadN (us := [_, _, _]) ts36 (sv hs 6 rfl) (Cells.box (id := 7) (hh.get 7 _ rfl) 3 rfl), ?_, lM, lc rfl rfl fun hs hh => stp_loadN (us := [_, _]) ts46 (sv hs 8 rfl) (Cells.box (id := 10) (hh.get 10 _ rfl) 2 rfl), ?_, lS, ?_, trivial⟩
   ·refine le rfl rfl (fun g hΦ s h hs hh => (stpU_callM (fun i => bif Nat.beq i 0 then 2 else 21 + i) cf57 (fun w hw hb => c_s_l8Wrong fl w b3 (a0.take 2000) x31.2 x4.1 rfl (RO.passM (RO.takeN 2000 hr0_0) hw hb) rfl (OwnC.passM (id := 4) (hh.get 4 _ rfl) o8 hw hb ⟨rfl, trivial⟩) rfl (OwnC.passM (id := 5) (hh.get 5 _ rfl) o12 hw hb ⟨rfl, trivial⟩) rfl (OwnD.passM (id := 6) (hh.get 6 _ rfl) o16 hw hb ⟨rfl, trivial⟩) (hw.pass (js := [2]) ⟨2, [], rfl, (hh.get 2 _ rfl), trivial⟩ (by decide)) x49 e49) (yB (sv hs 76 rfl) (sv hs 77 rfl)) ⟨(hh.get 2 _ rfl), (fun _ _ hp => by obtain ⟨_, _, _, _, _, _, _, _, _, _, _, _, _, rfl, _⟩ := hp; exact ⟨_, rfl⟩), trivial⟩)) ?_
    rintro g _ _ ⟨_, ⟨p50, _, c52, C53, p54, _, c56, C57, p58, _, c60, C61, rfl, rfl, rfl, o53, rfl, o57, rfl, o61⟩, rfl⟩
    exact ⟨⟨[p50, p54, p58], [c52, c56, c60], [C53, C57, C61]⟩, ⟨o53, o57, o61⟩, .inr rfl, rfl⟩
   ·refine le rfl rfl (fun g hΦ s h hs hh => (stpU_store (id := 0) (cs' := [.slice ((g 2).A 0) ((x49.1.t.b).length) ((g 2).C 0), .slice ((g 2).A 1) ((x49.1.t.f).length) ((g 2).C 1), .slice ((g 2).A 2) ((x49.1.c).length) ((g 2).C 2)]) ts36 (sv hs 2 rfl) (sv hs 78 rfl) (hh.get 0 _ rfl) rfl rfl rfl rfl)) ?_
    rintro g _ _ rfl
    exact ⟨⟨[], [], []⟩, trivial, .inl rfl, rfl⟩
   refine le rfl rfl (fun g hΦ s h hs hh => (stpU_store (id := 1) (cs' := [.int .i64 x30.s, .int .i64 x30.p]) ts46 (sv hs 4 rfl) (sv hs 80 rfl) (hh.get 1 _ rfl) rfl rfl rfl rfl)) ?_
   rintro g _ _ rfl
   exact ⟨⟨[], [], []⟩, trivial, .inl rfl, rfl⟩
  intro g hΦ
  refine kw_gen (ι := Option Addr × Option Addr × Option Addr × Nat × Nat × Nat × Res × Res × Res) (((g 2).A 0), ((g 2).A 1), ((g 2).A 2), ((g 2).C 0), ((g 2).C 1), ((g 2).C 2), ((g 2).R 0), ((g 2).R 1), ((g 2).R 2)) (fun | (p50, p54, p58, c52, c56, c60, C53, C57, C61) => OwnC 3 p50 c52 x49.1.t.b C53 ∧ OwnC 84 p54 c56 x49.1.t.f C57 ∧ OwnD 44 48 p58 c60 x49.1.c C61) (fun | (p50, p54, p58, c52, c56, c60, C53, C57, C61) => [(2, .pointer (some ⟨b1, 0, none⟩)), (3, .int .i64 x18.1), (4, .pointer (some ⟨b2, 0, none⟩))]) (fun | (p50, p54, p58, c52, c56, c60, C53, C57, C61) => [(0, [(b1, .cells #[.slice p50 ((x49.1.t.b).length) c52, .slice p54 ((x49.1.t.f).length) c56, .slice p58 ((x49.1.c).length) c60] 36 (0, 0))]), (1, [(b2, .cells #[.int .i64 x30.s, .int .i64 x30.p] 46 (0, 0))]), (22, C53), (23, C57), (24, C61)]) ⟨(hΦ 2 (by decide)).1, (hΦ 2 (by decide)).2.1, (hΦ 2 (by decide)).2.2⟩ ⟨rfl, rfl, rfl, trivial⟩ ⟨rfl, rfl, rfl, rfl, rfl, trivial⟩ ?_
  rintro ⟨p50, p54, p58, c52, c56, c60, C53, C57, C61⟩ ⟨o53, o57, o61⟩
  dsimp only
  refine kw_nx (cw_ret ?_)
  obtain rfl := sI H0
  exact kr Tryd.results70 (.cons (.cellN (us := [_, _, _]) ts36 rfl (Cells.box (id := 0) rfl 3 rfl)) (.cons (.tmp rfl) (rC2 1 ts46 rfl rfl))) [22, 23, 24] ⟨_, _, _, _, _, _, _, _, _, _, _, _, rfl, rfl, rfl, o53, rfl, o57, rfl, o61⟩
 have H0 := cond_f H0 h28
 obtain ⟨x62, e62, H0⟩ := bS H0
 refine sr (oA 2 Tryd.underlying36 rfl ts34 rfl (oL 7 ts34 rfl (oM rfl ?_)))
 obtain ⟨u63, p64, n65, c66, p67, n68, c69, hl63, hx63, rfl, rfl, hw63, hr63, hs63⟩ := OwnD.view o16 e62
 obtain ⟨y70, ey70, H0⟩ := bS H0
 refine oD (stp_indexAddr Tryd.underlying34 ts44 (by decide) rfl hl63 rfl (RdC.rdb (id := 6) hw63 rfl) hx63) rfl (oA 0 Tryd.underlying44 rfl ts42 rfl (oD (stp_load1 ts42 rfl (Cells.el (RdC.rdb (id := 6) hw63 rfl) (by decide) hx63 0 1 rfl)) rfl (oD (stp_len Tryd.underlying42 rfl) rfl (oJ rfl (oM rfl (ow_cut (ι := Unit) 4 (fun _ => True) (fun _ => [(0, .slice p0_0 ((a0).length) c0_0), (2, .pointer (some ⟨b1, 0, none⟩)), (3, .int .i64 0), (4, .pointer (some ⟨b2, 0, none⟩)), (5, .pointer (some ⟨b3, 0, none⟩)), (6, .pointer (some ⟨b17, 0, none⟩)), (7, .int .i64 x18.1), (8, .pointer (some ⟨b20, 0, none⟩)), (9, .slice p22 ((x21).length) c24), (10, .slice p0_0 ((a0).length) c0_0), (11, .pointer (some ⟨b3, 0, none⟩)), (12, .pointer (some ⟨b3, 0, none⟩)), (13, .agg #[.slice p5 ((x4.1.t.b).length) c7, .slice p9 ((x4.1.t.f).length) c11, .slice p13 ((x4.1.c).length) c15]), (14, .pointer (some ⟨b3, 0, none⟩)), (15, .pointer (some ⟨b17, 2, none⟩)), (16, .slice p13 ((x4.1.c).length) c15), (17, .int .i64 ((x4.1.c).length : Int)), (18, .int .i64 x18.1), (19, .pointer (some ⟨b3, 0, none⟩)), (20, .agg #[.int .i64 x19.1.s, .int .i64 x19.1.p]), (21, .pointer (some ⟨b17, 0, none⟩)), (22, .agg #[.slice p5 ((x4.1.t.b).length) c7, .slice p9 ((x4.1.t.f).length) c11]), (23, .slice p22 ((x21).length) c24), (24, .slice p22 ((x21).length) c24), (25, .int .i64 ((x21).length : Int)), (26, .bool (decide (0 < ((x21).length : Int)))), (27, .bool (decide (0 < ((x21).length : Int)))), (31, .bool y26.1), (39, .pointer (some ⟨b17, 2, none⟩)), (40, .slice p13 ((x4.1.c).length) c15), (41, .int .i64 x18.1), (42, .pointer (some ⟨eB p13, eO p13 + Int.toNat x18.1 * Enc.sz CpS + 0, none⟩)), (43, .pointer (some ⟨eB p13, eO p13 + Int.toNat x18.1 * Enc.sz CpS + 0, none⟩)), (44, .slice p64 ((x62.n).length) c66), (45, .int .i64 ((x62.n).length : Int)), (46, .bool (decide (0 < ((x62.n).length : Int)))), (47, .bool (decide (0 < ((x62.n).length : Int)))), (51, .bool y70.1)]) (fun _ => [(0, [(b1, .cells #[.slice none 0 0, .slice none 0 0, .slice none 0 0] 36 (0, 0))]), (1, [(b2, .cells #[.int .i64 0, .int .i64 0] 46 (0, 0))]), (2, [(b3, .cells #[.slice p0_0 (((a0.take 2000)).length) c0_0, .int .i64 y70.2] 137 (0, 0))]), (4, C8), (5, C12), (6, C16), (7, [(b17, .cells #[.slice p5 ((x4.1.t.b).length) c7, .slice p9 ((x4.1.t.f).length) c11, .slice p13 ((x4.1.c).length) c15] 36 (0, 0))]), (10, [(b20, .cells #[.int .i64 x19.1.s, .int .i64 x19.1.p] 46 (0, 0))]), (11, C25)]) ?_ (fun _ _ => ?_)))))))
 ·rcases Bool.eq_false_or_eq_true (decide (0 < ((x62.n).length : Int))) with hy70 | hy70
  ·have ey70 := cond_t ey70 hy70
   obtain ⟨x71, e71, ey70⟩ := bS ey70
   refine oG rfl hy70 (mv rfl) rfl (ow_eff (.some rfl hy70) (stpU_callM (fun i => bif Nat.beq i 0 then 2 else 25 + i) cf62 (fun w hw hb => c_s_l12Rd_pick fl w b3 (a0.take 2000) y26.2 3 rfl (RO.passM (RO.takeN 2000 hr0_0) hw hb) (hw.pass (js := [2]) ⟨2, [], rfl, rfl, trivial⟩ (by decide)) x71 e71) (yB rfl rfl) ⟨rfl, (fun _ _ hp => by obtain ⟨_, rfl⟩ := hp; exact ⟨_, rfl⟩), trivial⟩) rfl ?_)
   rintro _ _ ⟨_, ⟨rfl, rfl⟩, rfl⟩
   refine oG rfl hy70 (stp_gtr rfl rfl) rfl (oD (stp_pick_t rfl hy70 rfl) rfl ?_)
   obtain rfl := sI ey70
   exact ow_nil (kw_join () trivial ⟨rfl, rfl, rfl, rfl, rfl, rfl, rfl, rfl, rfl, rfl, rfl, rfl, rfl, rfl, rfl, rfl, rfl, rfl, rfl, rfl, rfl, rfl, rfl, rfl, rfl, rfl, rfl, rfl, rfl, rfl, rfl, rfl, rfl, rfl, rfl, rfl, rfl, rfl, trivial⟩ ⟨rfl, rfl, rfl, rfl, rfl, rfl, rfl, rfl, rfl, trivial⟩)
  have ey70 := cond_f ey70 hy70
  refine oO rfl hy70 rfl (oO rfl hy70 rfl (oO rfl hy70 rfl (oD (stp_pick_f rfl hy70 rfl) rfl ?_)))
  obtain rfl := sI ey70
  exact ow_nil (kw_join () trivial ⟨rfl, rfl, rfl, rfl, rfl, rfl, rfl, rfl, rfl, rfl, rfl, rfl, rfl, rfl, rfl, rfl, rfl, rfl, rfl, rfl, rfl, rfl, rfl, rfl, rfl, rfl, rfl, rfl, rfl, rfl, rfl, rfl, rfl, rfl, rfl, rfl, rfl, rfl, trivial⟩ ⟨rfl, rfl, rfl, rfl, rfl, rfl, rfl, rfl, rfl, trivial⟩)
 refine ow_nil (kw_nx (cw_cond rfl (fun h72 => ?_) (fun h72 => ?_)))
 ·have H0 := cond_t H0 h72
  obtain ⟨x73, e73, H0⟩ := bS H0
  obtain ⟨x74, e74, H0⟩ := bS H0
  refine rdq g_mixed [5, 6, 7, 8] [2, 6, 7, 10] { dst := dS [53, 54, 55, 56, 57, 58, 59, 60, 61, 62, 63, 64, 65, 66, 67, 68, 69, 70, 0], pre := gA [] [[], [0], [], [0, 1, 2], rn 0 4, rn 0 5, [], [], [7], [], [7, 8, 9], rn 7 4, rn 7 5, rn 7 6, rn 6 8, rn 0 15, rn 0 16, rn 0 17, rn 0 18], ids := fun i => match i with | 14 => [2] | 18 => [10] | _ => [], rs := rL [[(6, 0)], [(52, 1)], [(7, 0)], [(53, 2), (54, 3)], [(55, 4)], [(56, 5)], [(5, 0)], [(6, 0)], [(59, 8)], [(7, 0)], [(60, 9), (61, 10)], [(62, 11)], [(63, 12)], [(64, 13)], [(58, 7), (65, 14)], [(57, 6), (66, 15)], [(67, 16)], [(68, 17)], [(8, 0), (69, 18)]], rh := rL [[], [(7, 0)], [], [(6, 0)], [], [(6, 0)], [], [], [(7, 0)], [], [(6, 0)], [], [(6, 0)], [], [(2, 0)], [(6, 0)], [], [(6, 0)], [(10, 0)]], V := fun i g => gA undef [.pointer (some ⟨b17, 2, none⟩), .slice p13 ((x4.1.c).length) c15, .int .i64 x18.1, .pointer (some ⟨eB p13, eO p13 + Int.toNat x18.1 * Enc.sz CpS + 0, none⟩), .pointer (some ⟨eB p13, eO p13 + Int.toNat x18.1 * Enc.sz CpS + 0, none⟩), .slice p64 ((x62.n).length) c66, .pointer (some ⟨b3, 0, none⟩), .pointer (some ⟨b17, 2, none⟩), .slice p13 ((x4.1.c).length) c15, .int .i64 x18.1, .pointer (some ⟨eB p13, eO p13 + Int.toNat x18.1 * Enc.sz CpS + 0, none⟩), .pointer (some ⟨eB p13, eO p13 + Int.toNat x18.1 * Enc.sz CpS + 0, none⟩), .slice p64 ((x62.n).length) c66, .int .i64 ((x62.n).length : Int), .int .i64 x73.1, .pointer (some ⟨eB p64, eO p64 + Int.toNat x73.1 * Enc.sz Nt + 0, none⟩), .pointer (some ⟨eB p64, eO p64 + Int.toNat x73.1 * Enc.sz Nt + 0, none⟩), .agg #[.int .i64 x74.k.s, .int .i64 x74.k.p]] i, U := fun i g => match i with | 14 => [(2, [(b3, .cells #[.slice p0_0 (((a0.take 2000)).length) c0_0, .int .i64 x73.2] 137 (0, 0))])] | 18 => [(10, [(b20, .cells #[.int .i64 x74.k.s, .int .i64 x74.k.p] 46 (0, 0))])] | _ => [], Φ := fun _ _ => True } ?_ ?_
  ·refine ⟨lc rfl rfl fun hs hh => stp_fieldAddr (j := 2) Tryd.underlying36 rfl ts34 rfl (sv hs 6 rfl) rfl, lc rfl rfl fun hs hh => stp_load1 ts34 (sv hs 52 rfl) (Cells.box (id := 7) (hh.get 7 _ rfl) 1 rfl), lM, lc rfl rfl fun hs hh => stp_indexAddr Tryd.underlying34 ts44 (by decide) (sv hs 53 rfl) hl63 (sv hs 54 rfl) (RdC.rdb (id := 6) hw63 (hh.get 6 _ rfl)) hx63, lc rfl rfl fun hs hh => stp_fieldAddr (j := 0) Tryd.underlying44 rfl ts42 rfl (sv hs 55 rfl) rfl, lc rfl rfl fun hs hh => stp_load1 ts42 (sv hs 56 rfl) (Cells.el (RdC.rdb (id := 6) hw63 (hh.get 6 _ rfl)) (by decide) hx63 0 1 rfl), lM, lc rfl rfl fun hs hh => stp_fieldAddr (j := 2) Tryd.underlying36 rfl ts34 rfl (sv hs 6 rfl) rfl, lc rfl rfl fun hs hh => stp_load1 ts34 (sv hs 59 rfl) (Cells.box (id := 7) (hh.get 7 _ rfl) 1 rfl), lM, lc rfl rfl fun hs hh => stp_indexAddr Tryd.underlying34 ts44 (by decide) (sv hs 60 rfl) hl63 (sv hs 61 rfl) (RdC.rdb (id := 6) hw63 (hh.get 6 _ rfl)) hx63, lc rfl rfl fun hs hh => stp_fieldAddr (j := 0) Tryd.underlying44 rfl ts42 rfl (sv hs 62 rfl) rfl, lc rfl rfl fun hs hh => stp_load1 ts42 (sv hs 63 rfl) (Cells.el (RdC.rdb (id := 6) hw63 (hh.get 6 _ rfl)) (by decide) hx63 0 1 rfl), lc rfl rfl fun hs hh => stp_len Tryd.underlying42 (sv hs 64 rfl), ?_, lc rfl rfl fun hs hh => stp_indexAddr Tryd.underlying42 ts48 (by decide) (sv hs 57 rfl) rfl (sv hs 66 rfl) (RdC.rdb (id := 6) hr63 (hh.get 6 _ rfl)) e74, lc rfl rfl fun hs hh => stp_fieldAddr (j := 0) Tryd.underlying48 rfl ts46 rfl (sv hs 67 rfl) rfl, lc rfl rfl fun hs hh => stp_loadN (us := [_, _]) ts46 (sv hs 68 rfl) (Cells.el (RdC.rdb (id := 6) hr63 (hh.get 6 _ rfl)) (by decide) e74 0 2 rfl), ?_, trivial⟩
   ·refine le rfl rfl (fun g hΦ s h hs hh => (stpU_callM (fun i => bif Nat.beq i 0 then 2 else 26 + i) cf62 (fun w hw hb => c_s_l12Rd_pick fl w b3 (a0.take 2000) y70.2 ((x62.n).length : Int) rfl (RO.passM (RO.takeN 2000 hr0_0) hw hb) (hw.pass (js := [2]) ⟨2, [], rfl, (hh.get 2 _ rfl), trivial⟩ (by decide)) x73 e73) (yB (sv hs 58 rfl) (sv hs 65 rfl)) ⟨(hh.get 2 _ rfl), (fun _ _ hp => by obtain ⟨_, rfl⟩ := hp; exact ⟨_, rfl⟩), trivial⟩)) ?_
    rintro g _ _ ⟨_, ⟨rfl, rfl⟩, rfl⟩
    exact ⟨⟨[], [], []⟩, trivial, .inr rfl, rfl⟩
   refine le rfl rfl (fun g hΦ s h hs hh => (stpU_store (id := 10) (cs' := [.int .i64 x74.k.s, .int .i64 x74.k.p]) ts46 (sv hs 8 rfl) (sv hs 69 rfl) (hh.get 10 _ rfl) rfl rfl rfl rfl)) ?_
   rintro g _ _ rfl
   exact ⟨⟨[], [], []⟩, trivial, .inl rfl, rfl⟩
  intro g hΦ
  refine KW.sub (s' := [(2, .pointer (some ⟨b1, 0, none⟩)), (4, .pointer (some ⟨b2, 0, none⟩)), (5, .pointer (some ⟨b3, 0, none⟩)), (6, .pointer (some ⟨b17, 0, none⟩)), (7, .int .i64 x18.1), (8, .pointer (some ⟨b20, 0, none⟩))]) (h' := [(0, [(b1, .cells #[.slice none 0 0, .slice none 0 0, .slice none 0 0] 36 (0, 0))]), (1, [(b2, .cells #[.int .i64 0, .int .i64 0] 46 (0, 0))]), (2, [(b3, .cells #[.slice p0_0 (((a0.take 2000)).length) c0_0, .int .i64 x73.2] 137 (0, 0))]), (4, C8), (5, C12), (6, C16), (7, [(b17, .cells #[.slice p5 ((x4.1.t.b).length) c7, .slice p9 ((x4.1.t.f).length) c11, .slice p13 ((x4.1.c).length) c15] 36 (0, 0))]), (10, [(b20, .cells #[.int .i64 x74.k.s, .int .i64 x74.k.p] 46 (0, 0))])]) ?_ ⟨rfl, rfl, rfl, rfl, rfl, rfl, trivial⟩ ⟨rfl, rfl, rfl, rfl, rfl, rfl, rfl, rfl, trivial⟩
  obtain ⟨x75, e75, H0⟩ := bS H0
  refine kw_nx (cw_seq (sr (oM rfl (oE (stpU_callM (fun i => bif Nat.beq i 0 then 2 else 27 + i) cf62 (fun w hw hb => c_s_l12Rd_pick fl w b3 (a0.take 2000) x73.2 20 rfl (RO.passM (RO.takeN 2000 hr0_0) hw hb) (hw.pass (js := [2]) ⟨2, [], rfl, rfl, trivial⟩ (by decide)) x75 e75) (yB rfl rfl) ⟨rfl, (fun _ _ hp => by obtain ⟨_, rfl⟩ := hp; exact ⟨_, rfl⟩), trivial⟩) rfl ?_))))
  rintro _ _ ⟨_, ⟨rfl, rfl⟩, rfl⟩
  refine oQ rfl (nn (cw_cond rfl (fun h76 => ?_) (fun h76 => ?_)))
  ·have H0 := cond_t H0 h76
   refine cw_region (oM rfl (oE (stpU_lit (sz := 1) (l := [(-1), 4]) [.int .i64 (-1), .int .i64 4] sl22 28 (sevp_cons rfl (sevp_cons rfl sevp_nil)) rfl rfl rfl rfl rfl rfl rfl rfl rfl) rfl ?_))
   rintro _ _ ⟨p77, C78, rfl, rfl, o78⟩
   obtain ⟨x79, e79, H0⟩ := bS H0
   refine oE (stpU_callM (fun i => bif Nat.beq i 0 then 2 else 29 + i) cf83 (fun w hw hb => c_s_l12Rd_num fl w b3 (a0.take 2000) x75.2 ([(-1), 4]) rfl (RO.passM (RO.takeN 2000 hr0_0) hw hb) (by simp) (OwnC.passM (id := 28) rfl o78 hw hb ⟨rfl, trivial⟩) (hw.pass (js := [2]) ⟨2, [], rfl, rfl, trivial⟩ (by decide)) x79 e79) (yB rfl rfl) ⟨rfl, (fun _ _ hp => by obtain ⟨_, rfl⟩ := hp; exact ⟨_, rfl⟩), trivial⟩) rfl ?_
   rintro _ _ ⟨_, ⟨rfl, rfl⟩, rfl⟩
   obtain ⟨x80, e80, H0⟩ := bS H0
   refine oS rfl (nn (cw_seq (rdq g_mixed [2, 4, 5, 6, 7, 8] [0, 1, 2, 4, 5, 6, 7, 10] { dst := dS [77, 78, 79, 80, 81, 0, 4, 0], pre := gA [] [[], [], [0, 1], [], [], [0, 1, 2], [0, 1, 2, 3, 5], rn 0 7], ids := gA [] [[], [], [2, 31, 32, 33], [], [], [0], [], [1]], rs := rL [[(5, 0)], [(6, 0)], [(76, 1), (77, 2)], [(7, 0)], [(8, 0)], [(2, 0), (78, 3)], [(79, 4)], [(4, 0), (80, 5)]], rh := rL [[], [(7, 0)], [(2, 0), (4, 0), (5, 0), (6, 0)], [], [(10, 0)], [(0, 0)], [], [(1, 0)]], V := fun i g => gA undef [.pointer (some ⟨b3, 0, none⟩), .agg #[.slice p5 ((x4.1.t.b).length) c7, .slice p9 ((x4.1.t.f).length) c11, .slice p13 ((x4.1.c).length) c15], .agg #[.slice ((g 2).A 0) ((x80.1.t.b).length) ((g 2).C 0), .slice ((g 2).A 1) ((x80.1.t.f).length) ((g 2).C 1), .slice ((g 2).A 2) ((x80.1.c).length) ((g 2).C 2)], .int .i64 x79.1, .agg #[.int .i64 x74.k.s, .int .i64 x74.k.p], undef, .int .i64 x79.1] i, U := fun i g => gA [] [[], [], [(2, [(b3, .cells #[.slice p0_0 (((a0.take 2000)).length) c0_0, .int .i64 x80.2] 137 (0, 0))]), (31, ((g 2).R 0)), (32, ((g 2).R 1)), (33, ((g 2).R 2))], [], [], [(0, [(b1, .cells #[.slice ((g 2).A 0) ((x80.1.t.b).length) ((g 2).C 0), .slice ((g 2).A 1) ((x80.1.t.f).length) ((g 2).C 1), .slice ((g 2).A 2) ((x80.1.c).length) ((g 2).C 2)] 36 (0, 0))])], [], [(1, [(b2, .cells #[.int .i64 x74.k.s, .int .i64 x74.k.p] 46 (0, 0))])]] i, Φ := fun i x => gA True [True, True, OwnC 3 (x.A 0) (x.C 0) x80.1.t.b (x.R 0) ∧ OwnC 84 (x.A 1) (x.C 1) x80.1.t.f (x.R 1) ∧ OwnD 44 48 (x.A 2) (x.C 2) x80.1.c (x.R 2)] i } ?_ ?_)))
   ·refine ⟨lM, lc rfl rfl fun hs hh => stp_loadN (us := [_, _, _]) ts36 (sv hs 6 rfl) (Cells.box (id := 7) (hh.get 7 _ rfl) 3 rfl), ?_, lM, lc rfl rfl fun hs hh => stp_loadN (us := [_, _]) ts46 (sv hs 8 rfl) (Cells.box (id := 10) (hh.get 10 _ rfl) 2 rfl), ?_, lS, ?_, trivial⟩
    ·refine le rfl rfl (fun g hΦ s h hs hh => (stpU_callM (fun i => bif Nat.beq i 0 then 2 else 30 + i) cf57 (fun w hw hb => c_s_l8Wrong fl w b3 (a0.take 2000) x79.2 x4.1 rfl (RO.passM (RO.takeN 2000 hr0_0) hw hb) rfl (OwnC.passM (id := 4) (hh.get 4 _ rfl) o8 hw hb ⟨rfl, trivial⟩) rfl (OwnC.passM (id := 5) (hh.get 5 _ rfl) o12 hw hb ⟨rfl, trivial⟩) rfl (OwnD.passM (id := 6) (hh.get 6 _ rfl) o16 hw hb ⟨rfl, trivial⟩) (hw.pass (js := [2]) ⟨2, [], rfl, (hh.get 2 _ rfl), trivial⟩ (by decide)) x80 e80) (yB (sv hs 76 rfl) (sv hs 77 rfl)) ⟨(hh.get 2 _ rfl), (fun _ _ hp => by obtain ⟨_, _, _, _, _, _, _, _, _, _, _, _, _, rfl, _⟩ := hp; exact ⟨_, rfl⟩), trivial⟩)) ?_
     rintro g _ _ ⟨_, ⟨p81, _, c83, C84, p85, _, c87, C88, p89, _, c91, C92, rfl, rfl, rfl, o84, rfl, o88, rfl, o92⟩, rfl⟩
     exact ⟨⟨[p81, p85, p89], [c83, c87, c91], [C84, C88, C92]⟩, ⟨o84, o88, o92⟩, .inr rfl, rfl⟩
    ·refine le rfl rfl (fun g hΦ s h hs hh => (stpU_store (id := 0) (cs' := [.slice ((g 2).A 0) ((x80.1.t.b).length) ((g 2).C 0), .slice ((g 2).A 1) ((x80.1.t.f).length) ((g 2).C 1), .slice ((g 2).A 2) ((x80.1.c).length) ((g 2).C 2)]) ts36 (sv hs 2 rfl) (sv hs 78 rfl) (hh.get 0 _ rfl) rfl rfl rfl rfl)) ?_
     rintro g _ _ rfl
     exact ⟨⟨[], [], []⟩, trivial, .inl rfl, rfl⟩
    refine le rfl rfl (fun g hΦ s h hs hh => (stpU_store (id := 1) (cs' := [.int .i64 x74.k.s, .int .i64 x74.k.p]) ts46 (sv hs 4 rfl) (sv hs 80 rfl) (hh.get 1 _ rfl) rfl rfl rfl rfl)) ?_
    rintro g _ _ rfl
    exact ⟨⟨[], [], []⟩, trivial, .inl rfl, rfl⟩
   intro g hΦ
   refine kw_gen (ι := Option Addr × Option Addr × Option Addr × Nat × Nat × Nat × Res × Res × Res) (((g 2).A 0), ((g 2).A 1), ((g 2).A 2), ((g 2).C 0), ((g 2).C 1), ((g 2).C 2), ((g 2).R 0), ((g 2).R 1), ((g 2).R 2)) (fun | (p81, p85, p89, c83, c87, c91, C84, C88, C92) => OwnC 3 p81 c83 x80.1.t.b C84 ∧ OwnC 84 p85 c87 x80.1.t.f C88 ∧ OwnD 44 48 p89 c91 x80.1.c C92) (fun | (p81, p85, p89, c83, c87, c91, C84, C88, C92) => [(2, .pointer (some ⟨b1, 0, none⟩)), (3, .int .i64 x79.1), (4, .pointer (some ⟨b2, 0, none⟩))]) (fun | (p81, p85, p89, c83, c87, c91, C84, C88, C92) => [(0, [(b1, .cells #[.slice p81 ((x80.1.t.b).length) c83, .slice p85 ((x80.1.t.f).length) c87, .slice p89 ((x80.1.c).length) c91] 36 (0, 0))]), (1, [(b2, .cells #[.int .i64 x74.k.s, .int .i64 x74.k.p] 46 (0, 0))]), (31, C84), (32, C88), (33, C92)]) ⟨(hΦ 2 (by decide)).1, (hΦ 2 (by decide)).2.1, (hΦ 2 (by decide)).2.2⟩ ⟨rfl, rfl, rfl, trivial⟩ ⟨rfl, rfl, rfl, rfl, rfl, trivial⟩ ?_
   rintro ⟨p81, p85, p89, c83, c87, c91, C84, C88, C92⟩ ⟨o84, o88, o92⟩
   dsimp only
   refine kw_nx (cw_ret ?_)
   obtain rfl := sI H0
   exact kr Tryd.results70 (.cons (.cellN (us := [_, _, _]) ts36 rfl (Cells.box (id := 0) rfl 3 rfl)) (.cons (.tmp rfl) (rC2 1 ts46 rfl rfl))) [31, 32, 33] ⟨_, _, _, _, _, _, _, _, _, _, _, _, rfl, rfl, rfl, o84, rfl, o88, rfl, o92⟩
  have H0 := cond_f H0 h76
  obtain ⟨x93, e93, H0⟩ := bS H0
  refine cw_skip (kw_nx (cw_seq (rdq g_mixed [2, 4, 5, 6, 7, 8] [0, 1, 2, 4, 5, 6, 7, 10] { dst := dS [77, 78, 79, 80, 81, 0, 4, 0], pre := gA [] [[], [], [0, 1], [], [], [0, 1, 2], [0, 1, 2, 3, 5], rn 0 7], ids := gA [] [[], [], [2, 35, 36, 37], [], [], [0], [], [1]], rs := rL [[(5, 0)], [(6, 0)], [(76, 1), (77, 2)], [(7, 0)], [(8, 0)], [(2, 0), (78, 3)], [(79, 4)], [(4, 0), (80, 5)]], rh := rL [[], [(7, 0)], [(2, 0), (4, 0), (5, 0), (6, 0)], [], [(10, 0)], [(0, 0)], [], [(1, 0)]], V := fun i g => gA undef [.pointer (some ⟨b3, 0, none⟩), .agg #[.slice p5 ((x4.1.t.b).length) c7, .slice p9 ((x4.1.t.f).length) c11, .slice p13 ((x4.1.c).length) c15], .agg #[.slice ((g 2).A 0) ((x93.1.t.b).length) ((g 2).C 0), .slice ((g 2).A 1) ((x93.1.t.f).length) ((g 2).C 1), .slice ((g 2).A 2) ((x93.1.c).length) ((g 2).C 2)], .int .i64 x18.1, .agg #[.int .i64 x74.k.s, .int .i64 x74.k.p], undef, .int .i64 x18.1] i, U := fun i g => gA [] [[], [], [(2, [(b3, .cells #[.slice p0_0 (((a0.take 2000)).length) c0_0, .int .i64 x93.2] 137 (0, 0))]), (35, ((g 2).R 0)), (36, ((g 2).R 1)), (37, ((g 2).R 2))], [], [], [(0, [(b1, .cells #[.slice ((g 2).A 0) ((x93.1.t.b).length) ((g 2).C 0), .slice ((g 2).A 1) ((x93.1.t.f).length) ((g 2).C 1), .slice ((g 2).A 2) ((x93.1.c).length) ((g 2).C 2)] 36 (0, 0))])], [], [(1, [(b2, .cells #[.int .i64 x74.k.s, .int .i64 x74.k.p] 46 (0, 0))])]] i, Φ := fun i x => gA True [True, True, OwnC 3 (x.A 0) (x.C 0) x93.1.t.b (x.R 0) ∧ OwnC 84 (x.A 1) (x.C 1) x93.1.t.f (x.R 1) ∧ OwnD 44 48 (x.A 2) (x.C 2) x93.1.c (x.R 2)] i } ?_ ?_)))
  ·refine ⟨lM, lc rfl rfl fun hs hh => stp_loadN (us := [_, _, _]) ts36 (sv hs 6 rfl) (Cells.box (id := 7) (hh.get 7 _ rfl) 3 rfl), ?_, lM, lc rfl rfl fun hs hh => stp_loadN (us := [_, _]) ts46 (sv hs 8 rfl) (Cells.box (id := 10) (hh.get 10 _ rfl) 2 rfl), ?_, lS, ?_, trivial⟩
   ·refine le rfl rfl (fun g hΦ s h hs hh => (stpU_callM (fun i => bif Nat.beq i 0 then 2 else 34 + i) cf57 (fun w hw hb => c_s_l8Wrong fl w b3 (a0.take 2000) x75.2 x4.1 rfl (RO.passM (RO.takeN 2000 hr0_0) hw hb) rfl (OwnC.passM (id := 4) (hh.get 4 _ rfl) o8 hw hb ⟨rfl, trivial⟩) rfl (OwnC.passM (id := 5) (hh.get 5 _ rfl) o12 hw hb ⟨rfl, trivial⟩) rfl (OwnD.passM (id := 6) (hh.get 6 _ rfl) o16 hw hb ⟨rfl, trivial⟩) (hw.pass (js := [2]) ⟨2, [], rfl, (hh.get 2 _ rfl), trivial⟩ (by decide)) x93 e93) (yB (sv hs 76 rfl) (sv hs 77 rfl)) ⟨(hh.get 2 _ rfl), (fun _ _ hp => by obtain ⟨_, _, _, _, _, _, _, _, _, _, _, _, _, rfl, _⟩ := hp; exact ⟨_, rfl⟩), trivial⟩)) ?_
    rintro g _ _ ⟨_, ⟨p94, _, c96, C97, p98, _, c100, C101, p102, _, c104, C105, rfl, rfl, rfl, o97, rfl, o101, rfl, o105⟩, rfl⟩
    exact ⟨⟨[p94, p98, p102], [c96, c100, c104], [C97, C101, C105]⟩, ⟨o97, o101, o105⟩, .inr rfl, rfl⟩
   ·refine le rfl rfl (fun g hΦ s h hs hh => (stpU_store (id := 0) (cs' := [.slice ((g 2).A 0) ((x93.1.t.b).length) ((g 2).C 0), .slice ((g 2).A 1) ((x93.1.t.f).length) ((g 2).C 1), .slice ((g 2).A 2) ((x93.1.c).length) ((g 2).C 2)]) ts36 (sv hs 2 rfl) (sv hs 78 rfl) (hh.get 0 _ rfl) rfl rfl rfl rfl)) ?_
    rintro g _ _ rfl
    exact ⟨⟨[], [], []⟩, trivial, .inl rfl, rfl⟩
   refine le rfl rfl (fun g hΦ s h hs hh => (stpU_store (id := 1) (cs' := [.int .i64 x74.k.s, .int .i64 x74.k.p]) ts46 (sv hs 4 rfl) (sv hs 80 rfl) (hh.get 1 _ rfl) rfl rfl rfl rfl)) ?_
   rintro g _ _ rfl
   exact ⟨⟨[], [], []⟩, trivial, .inl rfl, rfl⟩
  intro g hΦ
  refine kw_gen (ι := Option Addr × Option Addr × Option Addr × Nat × Nat × Nat × Res × Res × Res) (((g 2).A 0), ((g 2).A 1), ((g 2).A 2), ((g 2).C 0), ((g 2).C 1), ((g 2).C 2), ((g 2).R 0), ((g 2).R 1), ((g 2).R 2)) (fun | (p94, p98, p102, c96, c100, c104, C97, C101, C105) => OwnC 3 p94 c96 x93.1.t.b C97 ∧ OwnC 84 p98 c100 x93.1.t.f C101 ∧ OwnD 44 48 p102 c104 x93.1.c C105) (fun | (p94, p98, p102, c96, c100, c104, C97, C101, C105) => [(2, .pointer (some ⟨b1, 0, none⟩)), (3, .int .i64 x18.1), (4, .pointer (some ⟨b2, 0, none⟩))]) (fun | (p94, p98, p102, c96, c100, c104, C97, C101, C105) => [(0, [(b1, .cells #[.slice p94 ((x93.1.t.b).length) c96, .slice p98 ((x93.1.t.f).length) c100, .slice p102 ((x93.1.c).length) c104] 36 (0, 0))]), (1, [(b2, .cells #[.int .i64 x74.k.s, .int .i64 x74.k.p] 46 (0, 0))]), (35, C97), (36, C101), (37, C105)]) ⟨(hΦ 2 (by decide)).1, (hΦ 2 (by decide)).2.1, (hΦ 2 (by decide)).2.2⟩ ⟨rfl, rfl, rfl, trivial⟩ ⟨rfl, rfl, rfl, rfl, rfl, trivial⟩ ?_
  rintro ⟨p94, p98, p102, c96, c100, c104, C97, C101, C105⟩ ⟨o97, o101, o105⟩
  dsimp only
  refine kw_nx (cw_ret ?_)
  obtain rfl := sI H0
  exact kr Tryd.results70 (.cons (.cellN (us := [_, _, _]) ts36 rfl (Cells.box (id := 0) rfl 3 rfl)) (.cons (.tmp rfl) (rC2 1 ts46 rfl rfl))) [35, 36, 37] ⟨_, _, _, _, _, _, _, _, _, _, _, _, rfl, rfl, rfl, o97, rfl, o101, rfl, o105⟩
 have H0 := cond_f H0 h72
 obtain ⟨x106, e106, H0⟩ := bS H0
 refine cw_skip (kw_nx (cw_seq (sr (oM rfl (oE (stpU_callM (fun i => bif Nat.beq i 0 then 2 else 38 + i) cf62 (fun w hw hb => c_s_l12Rd_pick fl w b3 (a0.take 2000) y70.2 20 rfl (RO.passM (RO.takeN 2000 hr0_0) hw hb) (hw.pass (js := [2]) ⟨2, [], rfl, rfl, trivial⟩ (by decide)) x106 e106) (yB rfl rfl) ⟨rfl, (fun _ _ hp => by obtain ⟨_, rfl⟩ := hp; exact ⟨_, rfl⟩), trivial⟩) rfl ?_)))))
 rintro _ _ ⟨_, ⟨rfl, rfl⟩, rfl⟩
 refine oQ rfl (nn (cw_cond rfl (fun h107 => ?_) (fun h107 => ?_)))
 ·have H0 := cond_t H0 h107
  refine cw_region (oM rfl (oE (stpU_lit (sz := 1) (l := [(-1), 4]) [.int .i64 (-1), .int .i64 4] sl22 39 (sevp_cons rfl (sevp_cons rfl sevp_nil)) rfl rfl rfl rfl rfl rfl rfl rfl rfl) rfl ?_))
  rintro _ _ ⟨p108, C109, rfl, rfl, o109⟩
  obtain ⟨x110, e110, H0⟩ := bS H0
  refine oE (stpU_callM (fun i => bif Nat.beq i 0 then 2 else 40 + i) cf83 (fun w hw hb => c_s_l12Rd_num fl w b3 (a0.take 2000) x106.2 ([(-1), 4]) rfl (RO.passM (RO.takeN 2000 hr0_0) hw hb) (by simp) (OwnC.passM (id := 39) rfl o109 hw hb ⟨rfl, trivial⟩) (hw.pass (js := [2]) ⟨2, [], rfl, rfl, trivial⟩ (by decide)) x110 e110) (yB rfl rfl) ⟨rfl, (fun _ _ hp => by obtain ⟨_, rfl⟩ := hp; exact ⟨_, rfl⟩), trivial⟩) rfl ?_
  rintro _ _ ⟨_, ⟨rfl, rfl⟩, rfl⟩
  obtain ⟨x111, e111, H0⟩ := bS H0
  refine oS rfl (nn (cw_seq (rdq g_mixed [2, 4, 5, 6, 7, 8] [0, 1, 2, 4, 5, 6, 7, 10] { dst := dS [77, 78, 79, 80, 81, 0, 4, 0], pre := gA [] [[], [], [0, 1], [], [], [0, 1, 2], [0, 1, 2, 3, 5], rn 0 7], ids := gA [] [[], [], [2, 42, 43, 44], [], [], [0], [], [1]], rs := rL [[(5, 0)], [(6, 0)], [(76, 1), (77, 2)], [(7, 0)], [(8, 0)], [(2, 0), (78, 3)], [(79, 4)], [(4, 0), (80, 5)]], rh := rL [[], [(7, 0)], [(2, 0), (4, 0), (5, 0), (6, 0)], [], [(10, 0)], [(0, 0)], [], [(1, 0)]], V := fun i g => gA undef [.pointer (some ⟨b3, 0, none⟩), .agg #[.slice p5 ((x4.1.t.b).length) c7, .slice p9 ((x4.1.t.f).length) c11, .slice p13 ((x4.1.c).length) c15], .agg #[.slice ((g 2).A 0) ((x111.1.t.b).length) ((g 2).C 0), .slice ((g 2).A 1) ((x111.1.t.f).length) ((g 2).C 1), .slice ((g 2).A 2) ((x111.1.c).length) ((g 2).C 2)], .int .i64 x110.1, .agg #[.int .i64 x19.1.s, .int .i64 x19.1.p], undef, .int .i64 x110.1] i, U := fun i g => gA [] [[], [], [(2, [(b3, .cells #[.slice p0_0 (((a0.take 2000)).length) c0_0, .int .i64 x111.2] 137 (0, 0))]), (42, ((g 2).R 0)), (43, ((g 2).R 1)), (44, ((g 2).R 2))], [], [], [(0, [(b1, .cells #[.slice ((g 2).A 0) ((x111.1.t.b).length) ((g 2).C 0), .slice ((g 2).A 1) ((x111.1.t.f).length) ((g 2).C 1), .slice ((g 2).A 2) ((x111.1.c).length) ((g 2).C 2)] 36 (0, 0))])], [], [(1, [(b2, .cells #[.int .i64 x19.1.s, .int .i64 x19.1.p] 46 (0, 0))])]] i, Φ := fun i x => gA True [True, True, OwnC 3 (x.A 0) (x.C 0) x111.1.t.b (x.R 0) ∧ OwnC 84 (x.A 1) (x.C 1) x111.1.t.f (x.R 1) ∧ OwnD 44 48 (x.A 2) (x.C 2) x111.1.c (x.R 2)] i } ?_ ?_)))
  ·refine ⟨lM, lc rfl rfl fun hs hh => stp_loadN (us := [_, _, _]) ts36 (sv hs 6 rfl) (Cells.box (id := 7) (hh.get 7 _ rfl) 3 rfl), ?_, lM, lc rfl rfl fun hs hh => stp_loadN (us := [_, _]) ts46 (sv hs 8 rfl) (Cells.box (id := 10) (hh.get 10 _ rfl) 2 rfl), ?_, lS, ?_, trivial⟩
   ·refine le rfl rfl (fun g hΦ s h hs hh => (stpU_callM (fun i => bif Nat.beq i 0 then 2 else 41 + i) cf57 (fun w hw hb => c_s_l8Wrong fl w b3 (a0.take 2000) x110.2 x4.1 rfl (RO.passM (RO.takeN 2000 hr0_0) hw hb) rfl (OwnC.passM (id := 4) (hh.get 4 _ rfl) o8 hw hb ⟨rfl, trivial⟩) rfl (OwnC.passM (id := 5) (hh.get 5 _ rfl) o12 hw hb ⟨rfl, trivial⟩) rfl (OwnD.passM (id := 6) (hh.get 6 _ rfl) o16 hw hb ⟨rfl, trivial⟩) (hw.pass (js := [2]) ⟨2, [], rfl, (hh.get 2 _ rfl), trivial⟩ (by decide)) x111 e111) (yB (sv hs 76 rfl) (sv hs 77 rfl)) ⟨(hh.get 2 _ rfl), (fun _ _ hp => by obtain ⟨_, _, _, _, _, _, _, _, _, _, _, _, _, rfl, _⟩ := hp; exact ⟨_, rfl⟩), trivial⟩)) ?_
    rintro g _ _ ⟨_, ⟨p112, _, c114, C115, p116, _, c118, C119, p120, _, c122, C123, rfl, rfl, rfl, o115, rfl, o119, rfl, o123⟩, rfl⟩
    exact ⟨⟨[p112, p116, p120], [c114, c118, c122], [C115, C119, C123]⟩, ⟨o115, o119, o123⟩, .inr rfl, rfl⟩
   ·refine le rfl rfl (fun g hΦ s h hs hh => (stpU_store (id := 0) (cs' := [.slice ((g 2).A 0) ((x111.1.t.b).length) ((g 2).C 0), .slice ((g 2).A 1) ((x111.1.t.f).length) ((g 2).C 1), .slice ((g 2).A 2) ((x111.1.c).length) ((g 2).C 2)]) ts36 (sv hs 2 rfl) (sv hs 78 rfl) (hh.get 0 _ rfl) rfl rfl rfl rfl)) ?_
    rintro g _ _ rfl
    exact ⟨⟨[], [], []⟩, trivial, .inl rfl, rfl⟩
   refine le rfl rfl (fun g hΦ s h hs hh => (stpU_store (id := 1) (cs' := [.int .i64 x19.1.s, .int .i64 x19.1.p]) ts46 (sv hs 4 rfl) (sv hs 80 rfl) (hh.get 1 _ rfl) rfl rfl rfl rfl)) ?_
   rintro g _ _ rfl
   exact ⟨⟨[], [], []⟩, trivial, .inl rfl, rfl⟩
  intro g hΦ
  refine kw_gen (ι := Option Addr × Option Addr × Option Addr × Nat × Nat × Nat × Res × Res × Res) (((g 2).A 0), ((g 2).A 1), ((g 2).A 2), ((g 2).C 0), ((g 2).C 1), ((g 2).C 2), ((g 2).R 0), ((g 2).R 1), ((g 2).R 2)) (fun | (p112, p116, p120, c114, c118, c122, C115, C119, C123) => OwnC 3 p112 c114 x111.1.t.b C115 ∧ OwnC 84 p116 c118 x111.1.t.f C119 ∧ OwnD 44 48 p120 c122 x111.1.c C123) (fun | (p112, p116, p120, c114, c118, c122, C115, C119, C123) => [(2, .pointer (some ⟨b1, 0, none⟩)), (3, .int .i64 x110.1), (4, .pointer (some ⟨b2, 0, none⟩))]) (fun | (p112, p116, p120, c114, c118, c122, C115, C119, C123) => [(0, [(b1, .cells #[.slice p112 ((x111.1.t.b).length) c114, .slice p116 ((x111.1.t.f).length) c118, .slice p120 ((x111.1.c).length) c122] 36 (0, 0))]), (1, [(b2, .cells #[.int .i64 x19.1.s, .int .i64 x19.1.p] 46 (0, 0))]), (42, C115), (43, C119), (44, C123)]) ⟨(hΦ 2 (by decide)).1, (hΦ 2 (by decide)).2.1, (hΦ 2 (by decide)).2.2⟩ ⟨rfl, rfl, rfl, trivial⟩ ⟨rfl, rfl, rfl, rfl, rfl, trivial⟩ ?_
  rintro ⟨p112, p116, p120, c114, c118, c122, C115, C119, C123⟩ ⟨o115, o119, o123⟩
  dsimp only
  refine kw_nx (cw_ret ?_)
  obtain rfl := sI H0
  exact kr Tryd.results70 (.cons (.cellN (us := [_, _, _]) ts36 rfl (Cells.box (id := 0) rfl 3 rfl)) (.cons (.tmp rfl) (rC2 1 ts46 rfl rfl))) [42, 43, 44] ⟨_, _, _, _, _, _, _, _, _, _, _, _, rfl, rfl, rfl, o115, rfl, o119, rfl, o123⟩
 have H0 := cond_f H0 h107
 obtain ⟨x124, e124, H0⟩ := bS H0
 refine cw_skip (kw_nx (cw_seq (rdq g_mixed [2, 4, 5, 6, 7, 8] [0, 1, 2, 4, 5, 6, 7, 10] { dst := dS [77, 78, 79, 80, 81, 0, 4, 0], pre := gA [] [[], [], [0, 1], [], [], [0, 1, 2], [0, 1, 2, 3, 5], rn 0 7], ids := gA [] [[], [], [2, 46, 47, 48], [], [], [0], [], [1]], rs := rL [[(5, 0)], [(6, 0)], [(76, 1), (77, 2)], [(7, 0)], [(8, 0)], [(2, 0), (78, 3)], [(79, 4)], [(4, 0), (80, 5)]], rh := rL [[], [(7, 0)], [(2, 0), (4, 0), (5, 0), (6, 0)], [], [(10, 0)], [(0, 0)], [], [(1, 0)]], V := fun i g => gA undef [.pointer (some ⟨b3, 0, none⟩), .agg #[.slice p5 ((x4.1.t.b).length) c7, .slice p9 ((x4.1.t.f).length) c11, .slice p13 ((x4.1.c).length) c15], .agg #[.slice ((g 2).A 0) ((x124.1.t.b).length) ((g 2).C 0), .slice ((g 2).A 1) ((x124.1.t.f).length) ((g 2).C 1), .slice ((g 2).A 2) ((x124.1.c).length) ((g 2).C 2)], .int .i64 x18.1, .agg #[.int .i64 x19.1.s, .int .i64 x19.1.p], undef, .int .i64 x18.1] i, U := fun i g => gA [] [[], [], [(2, [(b3, .cells #[.slice p0_0 (((a0.take 2000)).length) c0_0, .int .i64 x124.2] 137 (0, 0))]), (46, ((g 2).R 0)), (47, ((g 2).R 1)), (48, ((g 2).R 2))], [], [], [(0, [(b1, .cells #[.slice ((g 2).A 0) ((x124.1.t.b).length) ((g 2).C 0), .slice ((g 2).A 1) ((x124.1.t.f).length) ((g 2).C 1), .slice ((g 2).A 2) ((x124.1.c).length) ((g 2).C 2)] 36 (0, 0))])], [], [(1, [(b2, .cells #[.int .i64 x19.1.s, .int .i64 x19.1.p] 46 (0, 0))])]] i, Φ := fun i x => gA True [True, True, OwnC 3 (x.A 0) (x.C 0) x124.1.t.b (x.R 0) ∧ OwnC 84 (x.A 1) (x.C 1) x124.1.t.f (x.R 1) ∧ OwnD 44 48 (x.A 2) (x.C 2) x124.1.c (x.R 2)] i } ?_ ?_)))
 ·refine ⟨lM, lc rfl rfl fun hs hh => stp_loadN (us := [_, _, _]) ts36 (sv hs 6 rfl) (Cells.box (id := 7) (hh.get 7 _ rfl) 3 rfl), ?_, lM, lc rfl rfl fun hs hh => stp_loadN (us := [_, _]) ts46 (sv hs 8 rfl) (Cells.box (id := 10) (hh.get 10 _ rfl) 2 rfl), ?_, lS, ?_, trivial⟩
  ·refine le rfl rfl (fun g hΦ s h hs hh => (stpU_callM (fun i => bif Nat.beq i 0 then 2 else 45 + i) cf57 (fun w hw hb => c_s_l8Wrong fl w b3 (a0.take 2000) x106.2 x4.1 rfl (RO.passM (RO.takeN 2000 hr0_0) hw hb) rfl (OwnC.passM (id := 4) (hh.get 4 _ rfl) o8 hw hb ⟨rfl, trivial⟩) rfl (OwnC.passM (id := 5) (hh.get 5 _ rfl) o12 hw hb ⟨rfl, trivial⟩) rfl (OwnD.passM (id := 6) (hh.get 6 _ rfl) o16 hw hb ⟨rfl, trivial⟩) (hw.pass (js := [2]) ⟨2, [], rfl, (hh.get 2 _ rfl), trivial⟩ (by decide)) x124 e124) (yB (sv hs 76 rfl) (sv hs 77 rfl)) ⟨(hh.get 2 _ rfl), (fun _ _ hp => by obtain ⟨_, _, _, _, _, _, _, _, _, _, _, _, _, rfl, _⟩ := hp; exact ⟨_, rfl⟩), trivial⟩)) ?_
   rintro g _ _ ⟨_, ⟨p125, _, c127, C128, p129, _, c131, C132, p133, _, c135, C136, rfl, rfl, rfl, o128, rfl, o132, rfl, o136⟩, rfl⟩
   exact ⟨⟨[p125, p129, p133], [c127, c131, c135], [C128, C132, C136]⟩, ⟨o128, o132, o136⟩, .inr rfl, rfl⟩
  ·refine le rfl rfl (fun g hΦ s h hs hh => (stpU_store (id := 0) (cs' := [.slice ((g 2).A 0) ((x124.1.t.b).length) ((g 2).C 0), .slice ((g 2).A 1) ((x124.1.t.f).length) ((g 2).C 1), .slice ((g 2).A 2) ((x124.1.c).length) ((g 2).C 2)]) ts36 (sv hs 2 rfl) (sv hs 78 rfl) (hh.get 0 _ rfl) rfl rfl rfl rfl)) ?_
   rintro g _ _ rfl
   exact ⟨⟨[], [], []⟩, trivial, .inl rfl, rfl⟩
  refine le rfl rfl (fun g hΦ s h hs hh => (stpU_store (id := 1) (cs' := [.int .i64 x19.1.s, .int .i64 x19.1.p]) ts46 (sv hs 4 rfl) (sv hs 80 rfl) (hh.get 1 _ rfl) rfl rfl rfl rfl)) ?_
  rintro g _ _ rfl
  exact ⟨⟨[], [], []⟩, trivial, .inl rfl, rfl⟩
 intro g hΦ
 refine kw_gen (ι := Option Addr × Option Addr × Option Addr × Nat × Nat × Nat × Res × Res × Res) (((g 2).A 0), ((g 2).A 1), ((g 2).A 2), ((g 2).C 0), ((g 2).C 1), ((g 2).C 2), ((g 2).R 0), ((g 2).R 1), ((g 2).R 2)) (fun | (p125, p129, p133, c127, c131, c135, C128, C132, C136) => OwnC 3 p125 c127 x124.1.t.b C128 ∧ OwnC 84 p129 c131 x124.1.t.f C132 ∧ OwnD 44 48 p133 c135 x124.1.c C136) (fun | (p125, p129, p133, c127, c131, c135, C128, C132, C136) => [(2, .pointer (some ⟨b1, 0, none⟩)), (3, .int .i64 x18.1), (4, .pointer (some ⟨b2, 0, none⟩))]) (fun | (p125, p129, p133, c127, c131, c135, C128, C132, C136) => [(0, [(b1, .cells #[.slice p125 ((x124.1.t.b).length) c127, .slice p129 ((x124.1.t.f).length) c131, .slice p133 ((x124.1.c).length) c135] 36 (0, 0))]), (1, [(b2, .cells #[.int .i64 x19.1.s, .int .i64 x19.1.p] 46 (0, 0))]), (46, C128), (47, C132), (48, C136)]) ⟨(hΦ 2 (by decide)).1, (hΦ 2 (by decide)).2.1, (hΦ 2 (by decide)).2.2⟩ ⟨rfl, rfl, rfl, trivial⟩ ⟨rfl, rfl, rfl, rfl, rfl, trivial⟩ ?_
 rintro ⟨p125, p129, p133, c127, c131, c135, C128, C132, C136⟩ ⟨o128, o132, o136⟩
 dsimp only
 refine kw_nx (cw_ret ?_)
 obtain rfl := sI H0
 exact kr Tryd.results70 (.cons (.cellN (us := [_, _, _]) ts36 rfl (Cells.box (id := 0) rfl 3 rfl)) (.cons (.tmp rfl) (rC2 1 ts46 rfl rfl))) [46, 47, 48] ⟨_, _, _, _, _, _, _, _, _, _, _, _, rfl, rfl, rfl, o128, rfl, o132, rfl, o136⟩
end Go.Proofs.YtfnliecmagnkdaaDoor
