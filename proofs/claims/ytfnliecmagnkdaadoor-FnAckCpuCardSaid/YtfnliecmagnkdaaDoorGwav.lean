/- The walks: functions of the program return what their pure functions say. Printed by a program (gen.py). -/
import Derived.Test.YtfnliecmagnkdaaDoorGp
import Derived.Test.YtfnliecmagnkdaaDoorGt
import Derived.Test.YtfnliecmagnkdaaDoorMan
import Derived.Test.YtfnliecmagnkdaaDoorMap
import Derived.Test.YtfnliecmagnkdaaDoorCpy
import Derived.Test.YtfnliecmagnkdaaDoorClr
import Derived.Test.YtfnliecmagnkdaaDoorDp
import Derived.Test.YtfnliecmagnkdaaDoorSrt
import Derived.Test.YtfnliecmagnkdaaDoorE8
import Derived.Test.YtfnliecmagnkdaaDoorGwac
import Derived.Test.YtfnliecmagnkdaaDoorGwai
import Derived.Test.YtfnliecmagnkdaaDoorGwam
import Derived.Test.YtfnliecmagnkdaaDoorGwan
import Derived.Test.YtfnliecmagnkdaaDoorGwat
import Derived.Test.YtfnliecmagnkdaaDoorGwax
set_option linter.unusedSimpArgs false
set_option linter.unusedVariables false
set_option linter.unusedSectionVars false
namespace Go.Proofs.YtfnliecmagnkdaaDoor
open Go.RowKit
set_option maxHeartbeats 4000000
set_option maxRecDepth 20000
variable {p0_0 : Option Addr} {n0_0 : Nat} {c0_0 : Nat}
theorem c_s_DrawAckCpu (fl : Nat) (w : World) (a0 : (List UInt8)) (hn0_0 : n0_0 = (a0).length) (hr0_0 : RO w (hkeys []) (RdL p0_0 c0_0 a0)) (r : Sy × Int) (H0 : s_DrawAckCpu fl a0 = some r) :
  Ct Tryd.prog 28 [.slice p0_0 n0_0 c0_0] w [] (fun rv h' => ∃ (x0 : Option Addr) (y0 z0 : Nat) (C0 : Res) (x1 : Option Addr) (y1 z1 : Nat) (C1 : Res) (x2 : Option Addr) (y2 z2 : Nat) (C2 : Res), rv = .tuple #[.agg #[.slice x0 y0 z0, .slice x1 y1 z1, .slice x2 y2 z2], .int .i64 r.2] ∧ h' = [(0, C0), (1, C1), (2, C2)] ∧ y0 = (r.1.t.b).length ∧ OwnC 3 x0 z0 r.1.t.b C0 ∧ y1 = (r.1.t.f).length ∧ OwnC 84 x1 z1 r.1.t.f C1 ∧ y2 = (r.1.c).length ∧ OwnD 44 48 x2 z2 r.1.c C2) := by
 subst hn0_0
 unfold s_DrawAckCpu at H0
 refine ct_of_cw Tryd.func28 rfl Tryd.ntmps28 rfl (Sat.refl _ _) ?_
 refine sr (oE (stpU_alloc 0 tz36 rfl) rfl ?_)
 rintro _ _ ⟨b1, rfl, rfl⟩
 obtain ⟨x2, e2, H0⟩ := bS H0
 refine oS rfl (nn (sr (oM rfl (oE (stpU_call (fun i => 1 + i) cf70 (fun w hw => c_s_l8At fl w a0 rfl (RO.pass hr0_0 hw) x2 e2) (yA rfl)) rfl ?_))))
 rintro _ _ ⟨_, ⟨p3, _, c5, C6, p7, _, c9, C10, p11, _, c13, C14, rfl, rfl, rfl, o6, rfl, o10, rfl, o14⟩, rfl⟩
 refine oM rfl (oT rfl (oT rfl (oT rfl (oE (stpU_alloc 4 tz36 rfl) rfl ?_))))
 rintro _ _ ⟨b15, rfl, rfl⟩
 refine oE (stpU_alloc 5 tz46 rfl) rfl ?_
 rintro _ _ ⟨b16, rfl, rfl⟩
 refine oC3 4 ts36 rfl rfl (oS rfl (oC2 5 ts46 rfl rfl (nn (sr (oB3 4 ts36 rfl (oM rfl (oC3 0 ts36 rfl rfl (oS rfl (nn (cw_ret ?_))))))))))
 obtain rfl := sI H0
 exact kr Tryd.results28 (.cons (.cellN (us := [_, _, _]) ts36 rfl (Cells.box (id := 0) rfl 3 rfl)) (rT rfl)) [1, 2, 3] ⟨_, _, _, _, _, _, _, _, _, _, _, _, rfl, rfl, rfl, o6, rfl, o10, rfl, o14⟩

theorem c_l_FnAckCpu (fl : Nat) (w : World) (a0 : (List UInt8)) (hn0_0 : n0_0 = (a0).length) (hr0_0 : RO w (hkeys []) (RdL p0_0 c0_0 a0)) (hg : RO w (hkeys []) (fun w' => w'.rangeAt 0 0 [.bool false, .int .i64 0, .int .i64 0, .int .i64 0, .int .i64 (-1)])) (r : Bool) (H0 : l_FnAckCpu fl a0 = some r) :
  Ct Tryd.prog 8 [.slice p0_0 n0_0 c0_0] w [] (fun rv h' => rv = .bool r ∧ h' = []) := by
 subst hn0_0
 unfold l_FnAckCpu at H0
 refine ct_of_cw Tryd.func8 rfl Tryd.ntmps8 rfl (Sat.refl _ _) ?_
 refine sr (oS rfl (nn (cw_seq (sr (oM rfl (oD (stp_len Tryd.underlying40 rfl) rfl (oJ rfl (nn (cw_cond rfl (fun h1 => ?_) (fun h1 => ?_))))))))))
 ·have H0 := cond_t H0 h1
  refine sr (oS rfl (nn (cw_ret (kw_nx_ret ?_))))
  obtain rfl := sI H0
  exact kr Tryd.results8 (rT rfl) [] ⟨rfl, rfl⟩
 have H0 := cond_f H0 h1
 obtain ⟨x2, e2, H0⟩ := bS H0
 refine cw_skip (kw_nx (sr (oM rfl (oE (stpU_call (fun i => 0 + i) cf28 (fun w hw => c_s_DrawAckCpu fl w a0 rfl (RO.pass hr0_0 hw) x2 e2) (yA rfl)) rfl ?_))))
 rintro _ _ ⟨_, ⟨p3, _, c5, C6, p7, _, c9, C10, p11, _, c13, C14, rfl, rfl, rfl, o6, rfl, o10, rfl, o14⟩, rfl⟩
 refine oM rfl (oT rfl (oT rfl (oE (stpU_alloc 3 tz36 rfl) rfl ?_)))
 rintro _ _ ⟨b15, rfl, rfl⟩
 obtain ⟨x16, e16, H0⟩ := bS H0
 refine oC3 3 ts36 rfl rfl (oS rfl (nn (sr (oB3 3 ts36 rfl (oM rfl (oE (stpU_call (fun i => 4 + i) cf29 (fun w hw => c_i_AckCpu fl w x2.1 x2.2 rfl (OwnC.pass (id := 0) rfl o6 hw) rfl (OwnC.pass (id := 1) rfl o10 hw) rfl (OwnD.pass (id := 2) rfl o14 hw) (RO.pass hg hw) x16 e16) (yB rfl rfl)) rfl ?_))))))
 rintro _ _ ⟨_, ⟨p17, _, c19, C20, p21, _, c23, C24, p25, _, c27, C28, rfl, rfl, rfl, o20, rfl, o24, rfl, o28⟩, rfl⟩
 refine oM rfl (oT rfl (oT rfl (oE (stpU_alloc 7 tz36 rfl) rfl ?_)))
 rintro _ _ ⟨b29, rfl, rfl⟩
 obtain ⟨x30, e30, H0⟩ := bS H0
 refine oC3 7 ts36 rfl rfl (oS rfl (nn (sr (oB3 3 ts36 rfl (oM rfl (oE (stpU_call (fun i => 8 + i) cf30 (fun w hw => c_s_AckCpu fl w x2.1 x2.2 rfl (OwnC.pass (id := 0) rfl o6 hw) rfl (OwnC.pass (id := 1) rfl o10 hw) rfl (OwnD.pass (id := 2) rfl o14 hw) x30 e30) (yB rfl rfl)) rfl ?_))))))
 rintro _ _ ⟨_, ⟨p31, _, c33, C34, p35, _, c37, C38, p39, _, c41, C42, rfl, rfl, rfl, o34, rfl, o38, rfl, o42⟩, rfl⟩
 refine oM rfl (oT rfl (oT rfl (oE (stpU_alloc 11 tz36 rfl) rfl ?_)))
 rintro _ _ ⟨b43, rfl, rfl⟩
 obtain ⟨x44, e44, H0⟩ := bS H0
 refine oC3 11 ts36 rfl rfl (oS rfl (nn (cw_seq (sr (oB3 7 ts36 rfl (oB3 11 ts36 rfl (oE (stpU_call (fun i => 12 + i) cf23 (fun w hw => c_i_SystemSame fl w x16.1 x30.1 rfl (OwnC.pass (id := 4) rfl o20 hw) rfl (OwnC.pass (id := 5) rfl o24 hw) rfl (OwnD.pass (id := 6) rfl o28 hw) rfl (OwnC.pass (id := 8) rfl o34 hw) rfl (OwnC.pass (id := 9) rfl o38 hw) rfl (OwnD.pass (id := 10) rfl o42 hw) x44 e44) (yB rfl rfl)) rfl ?_)))))))
 rintro _ _ ⟨_, ⟨rfl, rfl⟩, rfl⟩
 obtain ⟨y45, ey45, H0⟩ := bS H0
 refine oK rfl (oM rfl (ow_cutY 4 42 y45 ?_ ?_))
 ·rcases Bool.eq_false_or_eq_true (!x44) with hy45 | hy45
  ·have ey45 := cond_t ey45 hy45
   refine oO rfl hy45 rfl (oO rfl hy45 rfl (oO rfl hy45 rfl (oD (stp_pick_t rfl hy45 rfl) rfl ?_)))
   obtain rfl := sI ey45
   exact ow_nil (jy 4 0)
  have ey45 := cond_f ey45 hy45
  refine oG rfl hy45 (mv rfl) rfl (oG rfl hy45 (mv rfl) rfl (oG rfl hy45 (stp_neqB Tryd.underlying4 rfl rfl) rfl (oD (stp_pick_f rfl hy45 rfl) rfl ?_)))
  obtain rfl := sI ey45
  exact ow_nil (jy 4 0)
 obtain ⟨y46, ey46, H0⟩ := bS H0
 refine oM rfl (ow_cutY 3 46 y46 ?_ ?_)
 ·rcases Bool.eq_false_or_eq_true y45 with hy46 | hy46
  ·have ey46 := cond_t ey46 hy46
   refine oO rfl hy46 rfl (oO rfl hy46 rfl (oD (stp_pick_t rfl hy46 rfl) rfl ?_))
   obtain rfl := sI ey46
   exact ow_nil (jy 3 0)
  have ey46 := cond_f ey46 hy46
  refine oG rfl hy46 (mv rfl) rfl (oG rfl hy46 (stp_not rfl) rfl (oD (stp_pick_f rfl hy46 rfl) rfl ?_))
  obtain rfl := sI ey46
  exact ow_nil (jy 3 0)
 refine ow_nil (kw_nx (cw_cond rfl (fun h47 => ?_) (fun h47 => ?_)))
 ·have H0 := cond_t H0 h47
  refine sr (oB3 7 ts36 rfl (oB3 11 ts36 rfl (oE (stpU_call (fun i => 12 + i) cf23 (fun w hw => c_i_SystemSame fl w x16.1 x30.1 rfl (OwnC.pass (id := 4) rfl o20 hw) rfl (OwnC.pass (id := 5) rfl o24 hw) rfl (OwnD.pass (id := 6) rfl o28 hw) rfl (OwnC.pass (id := 8) rfl o34 hw) rfl (OwnC.pass (id := 9) rfl o38 hw) rfl (OwnD.pass (id := 10) rfl o42 hw) x44 e44) (yB rfl rfl)) rfl ?_)))
  rintro _ _ ⟨_, ⟨rfl, rfl⟩, rfl⟩
  obtain ⟨y48, ey48, H0⟩ := bS H0
  refine oM rfl (ow_cutY 4 54 y48 ?_ ?_)
  ·rcases Bool.eq_false_or_eq_true x44 with hy48 | hy48
   ·have ey48 := cond_t ey48 hy48
    refine oG rfl hy48 (mv rfl) rfl (oG rfl hy48 (mv rfl) rfl (oG rfl hy48 (stp_eqlB Tryd.underlying4 rfl rfl) rfl (oD (stp_pick_t rfl hy48 rfl) rfl ?_)))
    obtain rfl := sI ey48
    exact ow_nil (jy 4 0)
   have ey48 := cond_f ey48 hy48
   refine oO rfl hy48 rfl (oO rfl hy48 rfl (oO rfl hy48 rfl (oD (stp_pick_f rfl hy48 rfl) rfl ?_)))
   obtain rfl := sI ey48
   exact ow_nil (jy 4 0)
  refine oS rfl (nn (cw_ret (kw_nx_ret ?_)))
  obtain rfl := sI H0
  exact kr Tryd.results8 (rT rfl) [] ⟨rfl, rfl⟩
 have H0 := cond_f H0 h47
 obtain ⟨o0_0, eo0_0, H0⟩ := bS H0
 refine cw_skip (kw_nx (cw_seq (sr (oS rfl (nn (cw_join (ι := Int) (fun | v49 => o0_0 = .out v49) (fun | v49 => [(3, .pointer (some ⟨b15, 0, none⟩)), (4, .int .i64 x2.2), (5, .pointer (some ⟨b29, 0, none⟩)), (9, .int .i64 v49)]) (fun | v49 => [(0, C6), (1, C10), (2, C14), (3, [(b15, .cells #[.slice p3 ((x2.1.t.b).length) c5, .slice p7 ((x2.1.t.f).length) c9, .slice p11 ((x2.1.c).length) c13] 36 (0, 0))]), (4, C20), (5, C24), (6, C28), (7, [(b29, .cells #[.slice p17 ((x16.1.t.b).length) c19, .slice p21 ((x16.1.t.f).length) c23, .slice p25 ((x16.1.c).length) c27] 36 (0, 0))])]) ?_ ?_))))))
 ·refine cw_block (cw_loopS (ι := Nat × Int) (js := [0, 1, 2, 3, 4, 5, 6, 7]) (fun x => x.1) (fun | (fuel, v49) => l_FnAckCpu_L0 fl x2 x16 fuel v49 = some o0_0) (fun | (_, v49) => [(3, .pointer (some ⟨b15, 0, none⟩)), (4, .int .i64 x2.2), (5, .pointer (some ⟨b29, 0, none⟩)), (9, .int .i64 v49)]) (fun | (_, v49) => [(0, C6), (1, C10), (2, C14), (3, [(b15, .cells #[.slice p3 ((x2.1.t.b).length) c5, .slice p7 ((x2.1.t.f).length) c9, .slice p11 ((x2.1.c).length) c13] 36 (0, 0))]), (4, C20), (5, C24), (6, C28), (7, [(b29, .cells #[.slice p17 ((x16.1.t.b).length) c19, .slice p21 ((x16.1.t.f).length) c23, .slice p25 ((x16.1.c).length) c27] 36 (0, 0))])]) (fl, 0) eo0_0 ⟨rfl, rfl, rfl, rfl, trivial⟩ ⟨0, [1, 2, 3, 4, 5, 6, 7], rfl, rfl, 1, [2, 3, 4, 5, 6, 7], rfl, rfl, 2, [3, 4, 5, 6, 7], rfl, rfl, 3, [4, 5, 6, 7], rfl, rfl, 4, [5, 6, 7], rfl, rfl, 5, [6, 7], rfl, rfl, 6, [7], rfl, rfl, 7, [], rfl, rfl, trivial⟩ (by decide) ?_)
  rintro ⟨fuel, v49⟩ H1
  have H1 : l_FnAckCpu_L0 fl x2 x16 fuel v49 = some o0_0 := H1
  rcases fuel with _ | fuel
  ·rw [l_FnAckCpu_L0.eq_1] at H1; cases H1
  rw [l_FnAckCpu_L0.eq_2] at H1
  dsimp only
  obtain ⟨x50, e50, H1⟩ := bS H1
  refine cw_seq (sr (oM rfl (oA 2 Tryd.underlying36 rfl ts34 rfl (oL 7 ts34 rfl (oM rfl ?_)))))
  obtain ⟨u51, p52, n53, c54, p55, n56, c57, hl51, hx51, rfl, rfl, hw51, hr51, hs51⟩ := OwnD.view o28 e50
  refine oD (stp_indexAddr Tryd.underlying34 ts44 (by decide) rfl hl51 rfl (RdC.rdb (id := 6) hw51 rfl) hx51) rfl (oA 0 Tryd.underlying44 rfl ts42 rfl (oD (stp_load1 ts42 rfl (Cells.el (RdC.rdb (id := 6) hw51 rfl) (by decide) hx51 0 1 rfl)) rfl (oD (stp_len Tryd.underlying42 rfl) rfl (oW rfl (nn (cw_cond rfl (fun h58 => ?_) (fun h58 => ?_)))))))
  ·have H1 := cond_t H1 h58
   obtain ⟨x59, e59, H1⟩ := bS H1
   refine cw_skip (kw_nx (cw_seq (cw_block (sr (oA 2 Tryd.underlying36 rfl ts34 rfl (oL 7 ts34 rfl (oM rfl (oD (stp_indexAddr Tryd.underlying34 ts44 (by decide) rfl hl51 rfl (RdC.rdb (id := 6) hw51 rfl) hx51) rfl (oA 0 Tryd.underlying44 rfl ts42 rfl (oD (stp_load1 ts42 rfl (Cells.el (RdC.rdb (id := 6) hw51 rfl) (by decide) hx51 0 1 rfl)) rfl (oM rfl (oD (stp_indexAddr Tryd.underlying42 ts48 (by decide) rfl rfl rfl (RdC.rdb (id := 6) hr51 rfl) e59) rfl (oD (stp_loadN (us := [_, _, _]) ts48 rfl (Cells.el (RdC.rdb (id := 6) hr51 rfl) (by decide) e59 0 3 rfl)) rfl ?_)))))))))))))
   refine oE (stpU_alloc 12 tz48 rfl) rfl ?_
   rintro _ _ ⟨b60, rfl, rfl⟩
   obtain ⟨x61, e61, H1⟩ := bS H1
   refine oC3 12 ts48 rfl rfl (nn (sr (oA 0 Tryd.underlying36 rfl ts33 rfl (oB2 7 ts33 rfl (oA 0 Tryd.underlying48 rfl ts46 rfl (oB2 12 ts46 rfl (oE (stpU_call (fun i => 13 + i) cf21 (fun w hw => c_i_FindPage fl w x16.1.t x59.k rfl (OwnC.pass (id := 4) rfl o20 hw) rfl (OwnC.pass (id := 5) rfl o24 hw) (RO.pass hg hw) x61 e61) (yB rfl rfl)) rfl ?_)))))))
   rintro _ _ ⟨_, ⟨rfl, rfl⟩, rfl⟩
   obtain ⟨y62, ey62, H1⟩ := bS H1
   refine oM rfl (oT rfl (oT rfl (oT rfl (oS rfl (oS rfl (oS rfl (nn (sr (oM rfl (oK rfl (oM rfl (ow_cutY 5 91 y62 ?_ ?_))))))))))))
   ·rcases Bool.eq_false_or_eq_true (!x61.2.2) with hy62 | hy62
    ·have ey62 := cond_t ey62 hy62
     refine oO rfl hy62 rfl (oO rfl hy62 rfl (oO rfl hy62 rfl (oO rfl hy62 rfl (oD (stp_pick_t rfl hy62 rfl) rfl ?_))))
     obtain rfl := sI ey62
     exact ow_nil (jy 5 0)
    have ey62 := cond_f ey62 hy62
    refine oG rfl hy62 (mv rfl) rfl (oG rfl hy62 (fA 2 Tryd.underlying48 rfl ts3 rfl rfl rfl) rfl (oG rfl hy62 (lB 12 ts3 rfl rfl rfl) rfl (oG rfl hy62 (stp_neq rfl rfl) rfl (oD (stp_pick_f rfl hy62 rfl) rfl ?_))))
    obtain rfl := sI ey62
    exact ow_nil (jy 5 0)
   refine ow_nil (kw_nx (cw_cond rfl (fun h63 => ?_) (fun h63 => ?_)))
   ·have H1 := cond_t H1 h63
    refine sr (oS rfl (nn (cw_ret (kw_bl_ret (kw_nx_ret (kw_lq_ret (kw_bl_ret (kw_join_ret (kw_nx_ret ?_)))))))))
    obtain rfl := sI H1
    obtain rfl := sI H0
    exact kr Tryd.results8 (rT rfl) [] ⟨rfl, rfl⟩
   have H1 := cond_f H1 h63
   obtain ⟨x64, e64, H1⟩ := bS H1
   exact cw_skip (kw_bl_normal (kw_nx (cw_region (oM rfl (oP e64 rfl (oS rfl (ow_nil (kw_lqS (js := [0, 1, 2, 3, 4, 5, 6, 7]) (fuel, x64) H1 (Nat.lt_succ_self _) ⟨rfl, rfl, rfl, rfl, trivial⟩ ⟨0, [1, 2, 3, 4, 5, 6, 7], rfl, rfl, 1, [2, 3, 4, 5, 6, 7], rfl, rfl, 2, [3, 4, 5, 6, 7], rfl, rfl, 3, [4, 5, 6, 7], rfl, rfl, 4, [5, 6, 7], rfl, rfl, 5, [6, 7], rfl, rfl, 6, [7], rfl, rfl, 7, [], rfl, rfl, trivial⟩ (by decide)))))))))
  have H1 := cond_f H1 h58
  refine cw_exit (kw_nx_exit (kw_lq_exit (kw_bl ?_)))
  obtain rfl := sI H1
  exact kw_joinS (js := [0, 1, 2, 3, 4, 5, 6, 7]) v49 rfl ⟨rfl, rfl, rfl, rfl, trivial⟩ ⟨0, [1, 2, 3, 4, 5, 6, 7], rfl, rfl, 1, [2, 3, 4, 5, 6, 7], rfl, rfl, 2, [3, 4, 5, 6, 7], rfl, rfl, 3, [4, 5, 6, 7], rfl, rfl, 4, [5, 6, 7], rfl, rfl, 5, [6, 7], rfl, rfl, 6, [7], rfl, rfl, 7, [], rfl, rfl, trivial⟩ (by decide)
 rintro v49 rfl
 dsimp only
 obtain ⟨x65, e65, H0⟩ := bS H0
 obtain ⟨y66, ey66, H0⟩ := bS H0
 obtain ⟨y75, ey75, H0⟩ := bS H0
 refine kw_nx (cw_seq (cw_join (ι := Unit) (fun | _ => True) (fun | _ => [(2, .bool y75)]) (fun | _ => []) ?_ ?_))
 ·rcases Bool.eq_false_or_eq_true x65 with hy66 | hy66
  ·have ey66 := cond_t ey66 hy66
   obtain ⟨x67, e67, ey66⟩ := bS ey66
   obtain ⟨u68, p69, n70, c71, p72, n73, c74, hl68, hx68, rfl, rfl, hw68, hr68, hs68⟩ := OwnD.view o28 e67
   have qy66 := sI ey66
   rcases Bool.eq_false_or_eq_true y66 with hy75 | hy75
   ·have ey75 := cond_t ey75 hy75
    obtain ⟨x76, e76, ey75⟩ := bS ey75
    obtain ⟨u77, p78, n79, c80, p81, n82, c83, hl77, hx77, rfl, rfl, hw77, hr77, hs77⟩ := OwnD.view o14 e76
    obtain ⟨x84, e84, ey75⟩ := bS ey75
    obtain ⟨u85, p86, n87, c88, p89, n90, c91, hl85, hx85, rfl, rfl, hw85, hr85, hs85⟩ := OwnD.view o28 e84
    obtain ⟨x92, e92, ey75⟩ := bS ey75
    have qy75 := sI ey75
    refine rdq g_mixed [3, 4, 5] [2, 3, 4, 5, 6, 7] { dst := dS [93, 94, 95, 96, 97, 98, 99, 100, 101, 102, 103, 104, 105, 106, 107, 108, 109, 110, 111, 112, 113, 114, 115, 116, 117, 118, 119, 120, 121, 122, 123, 124, 125, 126, 127, 128, 129, 3], pre := gA [] [[], [0], [0, 1], [0, 1, 2], rn 0 4, [0, 1, 2], rn 0 6, rn 0 7, rn 0 8, rn 0 9, rn 0 10, rn 0 11, rn 0 12, rn 0 13, rn 0 14, rn 0 13, rn 0 16, rn 0 17, rn 0 18, rn 0 19, rn 0 13, [0, 1, 2, 3, 4, 5, 6, 7, 8, 9, 10, 11, 12, 20], rn 0 13, [0, 1, 2, 3, 4, 5, 6, 7, 8, 9, 10, 11, 12, 20, 21, 22], [0, 1, 2, 3, 4, 5, 6, 7, 8, 9, 10, 11, 12, 20, 21, 22, 23], [0, 1, 2, 3, 4, 5, 6, 7, 8, 9, 10, 11, 12, 20, 21, 22, 23, 24], [0, 1, 2, 3, 4, 5, 6, 7, 8, 9, 10, 11, 12, 20, 21, 22, 23, 24, 25], rn 0 27, rn 0 13, [0, 1, 2, 3, 4, 5, 6, 7, 8, 9, 10, 11, 12, 28], rn 0 13, [0, 1, 2, 3, 4, 5, 6, 7, 8, 9, 10, 11, 12, 28, 29, 30], [0, 1, 2, 3, 4, 5, 6, 7, 8, 9, 10, 11, 12, 28, 29, 30, 31], [0, 1, 2, 3, 4, 5, 6, 7, 8, 9, 10, 11, 12, 28, 29, 30, 31, 32], [0, 1, 2, 3, 4, 5, 6, 7, 8, 9, 10, 11, 12, 28, 29, 30, 31, 32, 33], rn 0 35, rn 0 36, rn 0 37], ids := fun _ => [], rs := rL [[(5, 0)], [(92, 1)], [(93, 2)], [(5, 0), (94, 3)], [(95, 4), (94, 3)], [(4, 0), (94, 3)], [(96, 5), (97, 6), (94, 3)], [(98, 7), (94, 3)], [(99, 8), (94, 3)], [(100, 9), (94, 3)], [(101, 10), (94, 3)], [(94, 3), (102, 11)], [(103, 12)], [(3, 0), (104, 13)], [(105, 14), (104, 13)], [(4, 0), (104, 13)], [(106, 15), (107, 16), (104, 13)], [(108, 17), (104, 13)], [(109, 18), (104, 13)], [(110, 19), (104, 13)], [(5, 0), (104, 13)], [(112, 21), (104, 13)], [(4, 0), (104, 13)], [(113, 22), (114, 23), (104, 13)], [(115, 24), (104, 13)], [(116, 25), (104, 13)], [(117, 26), (104, 13)], [(111, 20), (118, 27), (104, 13)], [(3, 0), (104, 13)], [(120, 29), (104, 13)], [(4, 0), (104, 13)], [(121, 30), (122, 31), (104, 13)], [(123, 32), (104, 13)], [(124, 33), (104, 13)], [(125, 34), (104, 13)], [(119, 28), (126, 35), (104, 13)], [(104, 13), (127, 36)], [(128, 37)]], rh := rL [[(7, 0)], [(4, 0), (5, 0), (6, 0)], [], [], [(7, 0)], [], [(6, 0)], [], [(6, 0)], [], [], [], [], [], [(3, 0)], [], [(2, 0)], [], [(2, 0)], [], [], [(7, 0)], [], [(6, 0)], [], [(6, 0)], [], [], [], [(3, 0)], [], [(2, 0)], [], [(2, 0)]], V := fun i g => gA undef [.agg #[.slice p17 ((x16.1.t.b).length) c19, .slice p21 ((x16.1.t.f).length) c23, .slice p25 ((x16.1.c).length) c27], .bool x65, .bool x65, .pointer (some ⟨b29, 2, none⟩), .slice p25 ((x16.1.c).length) c27, .int .i64 x2.2, .pointer (some ⟨eB p25, eO p25 + Int.toNat x2.2 * Enc.sz CpS + 0, none⟩), .pointer (some ⟨eB p25, eO p25 + Int.toNat x2.2 * Enc.sz CpS + 1, none⟩), .slice p72 ((x67.w).length) c74, .int .i64 ((x67.w).length : Int), .bool (((x67.w).length : Int) == 0), .bool y66, .bool y66, .pointer (some ⟨b15, 2, none⟩), .slice p11 ((x2.1.c).length) c13, .int .i64 x2.2, .pointer (some ⟨eB p11, eO p11 + Int.toNat x2.2 * Enc.sz CpS + 0, none⟩), .pointer (some ⟨eB p11, eO p11 + Int.toNat x2.2 * Enc.sz CpS + 0, none⟩), .slice p78 ((x76.n).length) c80, .int .i64 ((x76.n).length : Int), .pointer (some ⟨b29, 2, none⟩), .slice p25 ((x16.1.c).length) c27, .int .i64 x2.2, .pointer (some ⟨eB p25, eO p25 + Int.toNat x2.2 * Enc.sz CpS + 0, none⟩), .pointer (some ⟨eB p25, eO p25 + Int.toNat x2.2 * Enc.sz CpS + 0, none⟩), .slice p86 ((x84.n).length) c88, .int .i64 ((x84.n).length : Int), .int .i64 x92, .pointer (some ⟨b15, 2, none⟩), .slice p11 ((x2.1.c).length) c13, .int .i64 x2.2, .pointer (some ⟨eB p11, eO p11 + Int.toNat x2.2 * Enc.sz CpS + 0, none⟩), .pointer (some ⟨eB p11, eO p11 + Int.toNat x2.2 * Enc.sz CpS + 1, none⟩), .slice p81 ((x76.w).length) c83, .int .i64 ((x76.w).length : Int), .bool (x92 == ((x76.w).length : Int)), .bool y75, .bool y75] i, U := fun _ _ => [], Φ := fun _ _ => True } ?_ ?_
    ·refine ⟨lc rfl rfl fun hs hh => stp_loadN (us := [_, _, _]) ts36 (sv hs 5 rfl) (Cells.box (id := 7) (hh.get 7 _ rfl) 3 rfl), ?_, lM, lg rfl rfl 94 hy66 fun hs hh => stp_fieldAddr (j := 2) Tryd.underlying36 rfl ts34 rfl (sv hs 5 rfl) rfl, lg rfl rfl 94 hy66 fun hs hh => stp_load1 ts34 (sv hs 95 rfl) (Cells.box (id := 7) (hh.get 7 _ rfl) 1 rfl), lg rfl rfl 94 hy66 fun hs hh => stp_move (sv hs 4 rfl), lg rfl rfl 94 hy66 fun hs hh => stp_indexAddr Tryd.underlying34 ts44 (by decide) (sv hs 96 rfl) hl68 (sv hs 97 rfl) (RdC.rdb (id := 6) hw68 (hh.get 6 _ rfl)) hx68, lg rfl rfl 94 hy66 fun hs hh => stp_fieldAddr (j := 1) Tryd.underlying44 rfl ts42 rfl (sv hs 98 rfl) rfl, lg rfl rfl 94 hy66 fun hs hh => stp_load1 ts42 (sv hs 99 rfl) (Cells.el (RdC.rdb (id := 6) hw68 (hh.get 6 _ rfl)) (by decide) hx68 1 1 rfl), lg rfl rfl 94 hy66 fun hs hh => stp_len Tryd.underlying42 (sv hs 100 rfl), lg rfl rfl 94 hy66 fun hs hh => stp_eql (sv hs 101 rfl) rfl, lc rfl rfl fun hs hh => stp_pick_tB (sv hs 94 rfl) hy66 (sv hs 102 rfl) qy66, lM, lg rfl rfl 104 hy75 fun hs hh => stp_fieldAddr (j := 2) Tryd.underlying36 rfl ts34 rfl (sv hs 3 rfl) rfl, lg rfl rfl 104 hy75 fun hs hh => stp_load1 ts34 (sv hs 105 rfl) (Cells.box (id := 3) (hh.get 3 _ rfl) 1 rfl), lg rfl rfl 104 hy75 fun hs hh => stp_move (sv hs 4 rfl), lg rfl rfl 104 hy75 fun hs hh => stp_indexAddr Tryd.underlying34 ts44 (by decide) (sv hs 106 rfl) hl77 (sv hs 107 rfl) (RdC.rdb (id := 2) hw77 (hh.get 2 _ rfl)) hx77, lg rfl rfl 104 hy75 fun hs hh => stp_fieldAddr (j := 0) Tryd.underlying44 rfl ts42 rfl (sv hs 108 rfl) rfl, lg rfl rfl 104 hy75 fun hs hh => stp_load1 ts42 (sv hs 109 rfl) (Cells.el (RdC.rdb (id := 2) hw77 (hh.get 2 _ rfl)) (by decide) hx77 0 1 rfl), lg rfl rfl 104 hy75 fun hs hh => stp_len Tryd.underlying42 (sv hs 110 rfl), lg rfl rfl 104 hy75 fun hs hh => stp_fieldAddr (j := 2) Tryd.underlying36 rfl ts34 rfl (sv hs 5 rfl) rfl, lg rfl rfl 104 hy75 fun hs hh => stp_load1 ts34 (sv hs 112 rfl) (Cells.box (id := 7) (hh.get 7 _ rfl) 1 rfl), lg rfl rfl 104 hy75 fun hs hh => stp_move (sv hs 4 rfl), lg rfl rfl 104 hy75 fun hs hh => stp_indexAddr Tryd.underlying34 ts44 (by decide) (sv hs 113 rfl) hl85 (sv hs 114 rfl) (RdC.rdb (id := 6) hw85 (hh.get 6 _ rfl)) hx85, lg rfl rfl 104 hy75 fun hs hh => stp_fieldAddr (j := 0) Tryd.underlying44 rfl ts42 rfl (sv hs 115 rfl) rfl, lg rfl rfl 104 hy75 fun hs hh => stp_load1 ts42 (sv hs 116 rfl) (Cells.el (RdC.rdb (id := 6) hw85 (hh.get 6 _ rfl)) (by decide) hx85 0 1 rfl), lg rfl rfl 104 hy75 fun hs hh => stp_len Tryd.underlying42 (sv hs 117 rfl), lg rfl rfl 104 hy75 fun hs hh => stp_sub (sv hs 111 rfl) (sv hs 118 rfl) e92, lg rfl rfl 104 hy75 fun hs hh => stp_fieldAddr (j := 2) Tryd.underlying36 rfl ts34 rfl (sv hs 3 rfl) rfl, lg rfl rfl 104 hy75 fun hs hh => stp_load1 ts34 (sv hs 120 rfl) (Cells.box (id := 3) (hh.get 3 _ rfl) 1 rfl), lg rfl rfl 104 hy75 fun hs hh => stp_move (sv hs 4 rfl), lg rfl rfl 104 hy75 fun hs hh => stp_indexAddr Tryd.underlying34 ts44 (by decide) (sv hs 121 rfl) hl77 (sv hs 122 rfl) (RdC.rdb (id := 2) hw77 (hh.get 2 _ rfl)) hx77, lg rfl rfl 104 hy75 fun hs hh => stp_fieldAddr (j := 1) Tryd.underlying44 rfl ts42 rfl (sv hs 123 rfl) rfl, lg rfl rfl 104 hy75 fun hs hh => stp_load1 ts42 (sv hs 124 rfl) (Cells.el (RdC.rdb (id := 2) hw77 (hh.get 2 _ rfl)) (by decide) hx77 1 1 rfl), lg rfl rfl 104 hy75 fun hs hh => stp_len Tryd.underlying42 (sv hs 125 rfl), lg rfl rfl 104 hy75 fun hs hh => stp_eql (sv hs 119 rfl) (sv hs 126 rfl), lc rfl rfl fun hs hh => stp_pick_tB (sv hs 104 rfl) hy75 (sv hs 127 rfl) qy75, lS, trivial⟩
     refine le rfl rfl (fun g hΦ s h hs hh => (stpU_call (fun i => 13 + i) cf18 (fun w hw => c_i_SystemValid fl w x16.1 rfl (OwnC.pass (id := 4) (hh.get 4 _ rfl) o20 hw) rfl (OwnC.pass (id := 5) (hh.get 5 _ rfl) o24 hw) rfl (OwnD.pass (id := 6) (hh.get 6 _ rfl) o28 hw) (RO.pass hg hw) x65 e65) (yA (sv hs 92 rfl)))) ?_
     rintro g _ _ ⟨_, ⟨rfl, rfl⟩, rfl⟩
     exact ⟨⟨[], [], []⟩, trivial, .inr rfl, rfl⟩
    intro g hΦ
    exact kw_join () trivial ⟨rfl, trivial⟩ trivial
   have ey75 := cond_f ey75 hy75
   have qy75 := sI ey75
   refine rdq g_mixed [4, 5] [4, 5, 6, 7] { dst := dS [93, 94, 95, 96, 97, 98, 99, 100, 101, 102, 103, 104, 105, 106, 107, 108, 109, 110, 111, 112, 113, 114, 115, 116, 117, 118, 119, 120, 121, 122, 123, 124, 125, 126, 127, 128, 129, 3], pre := gA [] [[], [0], [0, 1], [0, 1, 2], rn 0 4, [0, 1, 2], rn 0 6, rn 0 7, rn 0 8, rn 0 9, rn 0 10, rn 0 11, rn 0 12, rn 0 13, rn 0 14, rn 0 13, rn 0 16, rn 0 17, rn 0 18, rn 0 19, rn 0 13, [0, 1, 2, 3, 4, 5, 6, 7, 8, 9, 10, 11, 12, 20], rn 0 13, [0, 1, 2, 3, 4, 5, 6, 7, 8, 9, 10, 11, 12, 20, 21, 22], [0, 1, 2, 3, 4, 5, 6, 7, 8, 9, 10, 11, 12, 20, 21, 22, 23], [0, 1, 2, 3, 4, 5, 6, 7, 8, 9, 10, 11, 12, 20, 21, 22, 23, 24], [0, 1, 2, 3, 4, 5, 6, 7, 8, 9, 10, 11, 12, 20, 21, 22, 23, 24, 25], rn 0 27, rn 0 13, [0, 1, 2, 3, 4, 5, 6, 7, 8, 9, 10, 11, 12, 28], rn 0 13, [0, 1, 2, 3, 4, 5, 6, 7, 8, 9, 10, 11, 12, 28, 29, 30], [0, 1, 2, 3, 4, 5, 6, 7, 8, 9, 10, 11, 12, 28, 29, 30, 31], [0, 1, 2, 3, 4, 5, 6, 7, 8, 9, 10, 11, 12, 28, 29, 30, 31, 32], [0, 1, 2, 3, 4, 5, 6, 7, 8, 9, 10, 11, 12, 28, 29, 30, 31, 32, 33], rn 0 35, rn 0 36, rn 0 37], ids := fun _ => [], rs := rL [[(5, 0)], [(92, 1)], [(93, 2)], [(5, 0), (94, 3)], [(95, 4), (94, 3)], [(4, 0), (94, 3)], [(96, 5), (97, 6), (94, 3)], [(98, 7), (94, 3)], [(99, 8), (94, 3)], [(100, 9), (94, 3)], [(101, 10), (94, 3)], [(94, 3), (102, 11)], [(103, 12)], [(104, 13)], [(104, 13)], [(104, 13)], [(104, 13)], [(104, 13)], [(104, 13)], [(104, 13)], [(104, 13)], [(104, 13)], [(104, 13)], [(104, 13)], [(104, 13)], [(104, 13)], [(104, 13)], [(104, 13)], [(104, 13)], [(104, 13)], [(104, 13)], [(104, 13)], [(104, 13)], [(104, 13)], [(104, 13)], [(104, 13)], [(104, 13), (127, 36)], [(128, 37)]], rh := rL [[(7, 0)], [(4, 0), (5, 0), (6, 0)], [], [], [(7, 0)], [], [(6, 0)], [], [(6, 0)]], V := fun i g => gA undef [.agg #[.slice p17 ((x16.1.t.b).length) c19, .slice p21 ((x16.1.t.f).length) c23, .slice p25 ((x16.1.c).length) c27], .bool x65, .bool x65, .pointer (some ⟨b29, 2, none⟩), .slice p25 ((x16.1.c).length) c27, .int .i64 x2.2, .pointer (some ⟨eB p25, eO p25 + Int.toNat x2.2 * Enc.sz CpS + 0, none⟩), .pointer (some ⟨eB p25, eO p25 + Int.toNat x2.2 * Enc.sz CpS + 1, none⟩), .slice p72 ((x67.w).length) c74, .int .i64 ((x67.w).length : Int), .bool (((x67.w).length : Int) == 0), .bool y66, .bool y66, undef, undef, undef, undef, undef, undef, undef, undef, undef, undef, undef, undef, undef, undef, undef, undef, undef, undef, undef, undef, undef, undef, undef, .bool y75, .bool y75] i, U := fun _ _ => [], Φ := fun _ _ => True } ?_ ?_
   ·refine ⟨lc rfl rfl fun hs hh => stp_loadN (us := [_, _, _]) ts36 (sv hs 5 rfl) (Cells.box (id := 7) (hh.get 7 _ rfl) 3 rfl), ?_, lM, lg rfl rfl 94 hy66 fun hs hh => stp_fieldAddr (j := 2) Tryd.underlying36 rfl ts34 rfl (sv hs 5 rfl) rfl, lg rfl rfl 94 hy66 fun hs hh => stp_load1 ts34 (sv hs 95 rfl) (Cells.box (id := 7) (hh.get 7 _ rfl) 1 rfl), lg rfl rfl 94 hy66 fun hs hh => stp_move (sv hs 4 rfl), lg rfl rfl 94 hy66 fun hs hh => stp_indexAddr Tryd.underlying34 ts44 (by decide) (sv hs 96 rfl) hl68 (sv hs 97 rfl) (RdC.rdb (id := 6) hw68 (hh.get 6 _ rfl)) hx68, lg rfl rfl 94 hy66 fun hs hh => stp_fieldAddr (j := 1) Tryd.underlying44 rfl ts42 rfl (sv hs 98 rfl) rfl, lg rfl rfl 94 hy66 fun hs hh => stp_load1 ts42 (sv hs 99 rfl) (Cells.el (RdC.rdb (id := 6) hw68 (hh.get 6 _ rfl)) (by decide) hx68 1 1 rfl), lg rfl rfl 94 hy66 fun hs hh => stp_len Tryd.underlying42 (sv hs 100 rfl), lg rfl rfl 94 hy66 fun hs hh => stp_eql (sv hs 101 rfl) rfl, lc rfl rfl fun hs hh => stp_pick_tB (sv hs 94 rfl) hy66 (sv hs 102 rfl) qy66, lM, lo rfl rfl 104 hy75, lo rfl rfl 104 hy75, lo rfl rfl 104 hy75, lo rfl rfl 104 hy75, lo rfl rfl 104 hy75, lo rfl rfl 104 hy75, lo rfl rfl 104 hy75, lo rfl rfl 104 hy75, lo rfl rfl 104 hy75, lo rfl rfl 104 hy75, lo rfl rfl 104 hy75, lo rfl rfl 104 hy75, lo rfl rfl 104 hy75, lo rfl rfl 104 hy75, lo rfl rfl 104 hy75, lo rfl rfl 104 hy75, lo rfl rfl 104 hy75, lo rfl rfl 104 hy75, lo rfl rfl 104 hy75, lo rfl rfl 104 hy75, lo rfl rfl 104 hy75, lo rfl rfl 104 hy75, lo rfl rfl 104 hy75, lc rfl rfl fun hs hh => stp_pick_fB (sv hs 104 rfl) hy75 rfl qy75, lS, trivial⟩
    refine le rfl rfl (fun g hΦ s h hs hh => (stpU_call (fun i => 13 + i) cf18 (fun w hw => c_i_SystemValid fl w x16.1 rfl (OwnC.pass (id := 4) (hh.get 4 _ rfl) o20 hw) rfl (OwnC.pass (id := 5) (hh.get 5 _ rfl) o24 hw) rfl (OwnD.pass (id := 6) (hh.get 6 _ rfl) o28 hw) (RO.pass hg hw) x65 e65) (yA (sv hs 92 rfl)))) ?_
    rintro g _ _ ⟨_, ⟨rfl, rfl⟩, rfl⟩
    exact ⟨⟨[], [], []⟩, trivial, .inr rfl, rfl⟩
   intro g hΦ
   exact kw_join () trivial ⟨rfl, trivial⟩ trivial
  have ey66 := cond_f ey66 hy66
  have qy66 := sI ey66
  have hy75 : y66 = false := by rw [← qy66]
  have ey75 := cond_f ey75 hy75
  have qy75 := sI ey75
  refine rdq g_mixed [5] [4, 5, 6, 7] { dst := dS [93, 94, 95, 96, 97, 98, 99, 100, 101, 102, 103, 104, 105, 106, 107, 108, 109, 110, 111, 112, 113, 114, 115, 116, 117, 118, 119, 120, 121, 122, 123, 124, 125, 126, 127, 128, 129, 3], pre := gA [] [[], [0], [0, 1], [0, 1, 2], rn 0 4, [0, 1, 2], rn 0 6, rn 0 7, rn 0 8, rn 0 9, rn 0 10, rn 0 11, rn 0 12, rn 0 13, rn 0 14, rn 0 13, rn 0 16, rn 0 17, rn 0 18, rn 0 19, rn 0 13, [0, 1, 2, 3, 4, 5, 6, 7, 8, 9, 10, 11, 12, 20], rn 0 13, [0, 1, 2, 3, 4, 5, 6, 7, 8, 9, 10, 11, 12, 20, 21, 22], [0, 1, 2, 3, 4, 5, 6, 7, 8, 9, 10, 11, 12, 20, 21, 22, 23], [0, 1, 2, 3, 4, 5, 6, 7, 8, 9, 10, 11, 12, 20, 21, 22, 23, 24], [0, 1, 2, 3, 4, 5, 6, 7, 8, 9, 10, 11, 12, 20, 21, 22, 23, 24, 25], rn 0 27, rn 0 13, [0, 1, 2, 3, 4, 5, 6, 7, 8, 9, 10, 11, 12, 28], rn 0 13, [0, 1, 2, 3, 4, 5, 6, 7, 8, 9, 10, 11, 12, 28, 29, 30], [0, 1, 2, 3, 4, 5, 6, 7, 8, 9, 10, 11, 12, 28, 29, 30, 31], [0, 1, 2, 3, 4, 5, 6, 7, 8, 9, 10, 11, 12, 28, 29, 30, 31, 32], [0, 1, 2, 3, 4, 5, 6, 7, 8, 9, 10, 11, 12, 28, 29, 30, 31, 32, 33], rn 0 35, rn 0 36, rn 0 37], ids := fun _ => [], rs := rL [[(5, 0)], [(92, 1)], [(93, 2)], [(94, 3)], [(94, 3)], [(94, 3)], [(94, 3)], [(94, 3)], [(94, 3)], [(94, 3)], [(94, 3)], [(94, 3), (102, 11)], [(103, 12)], [(104, 13)], [(104, 13)], [(104, 13)], [(104, 13)], [(104, 13)], [(104, 13)], [(104, 13)], [(104, 13)], [(104, 13)], [(104, 13)], [(104, 13)], [(104, 13)], [(104, 13)], [(104, 13)], [(104, 13)], [(104, 13)], [(104, 13)], [(104, 13)], [(104, 13)], [(104, 13)], [(104, 13)], [(104, 13)], [(104, 13)], [(104, 13), (127, 36)], [(128, 37)]], rh := rL [[(7, 0)], [(4, 0), (5, 0), (6, 0)]], V := fun i g => gA undef [.agg #[.slice p17 ((x16.1.t.b).length) c19, .slice p21 ((x16.1.t.f).length) c23, .slice p25 ((x16.1.c).length) c27], .bool x65, .bool x65, undef, undef, undef, undef, undef, undef, undef, undef, .bool y66, .bool y66, undef, undef, undef, undef, undef, undef, undef, undef, undef, undef, undef, undef, undef, undef, undef, undef, undef, undef, undef, undef, undef, undef, undef, .bool y75, .bool y75] i, U := fun _ _ => [], Φ := fun _ _ => True } ?_ ?_
  ·refine ⟨lc rfl rfl fun hs hh => stp_loadN (us := [_, _, _]) ts36 (sv hs 5 rfl) (Cells.box (id := 7) (hh.get 7 _ rfl) 3 rfl), ?_, lM, lo rfl rfl 94 hy66, lo rfl rfl 94 hy66, lo rfl rfl 94 hy66, lo rfl rfl 94 hy66, lo rfl rfl 94 hy66, lo rfl rfl 94 hy66, lo rfl rfl 94 hy66, lo rfl rfl 94 hy66, lc rfl rfl fun hs hh => stp_pick_fB (sv hs 94 rfl) hy66 rfl qy66, lM, lo rfl rfl 104 hy75, lo rfl rfl 104 hy75, lo rfl rfl 104 hy75, lo rfl rfl 104 hy75, lo rfl rfl 104 hy75, lo rfl rfl 104 hy75, lo rfl rfl 104 hy75, lo rfl rfl 104 hy75, lo rfl rfl 104 hy75, lo rfl rfl 104 hy75, lo rfl rfl 104 hy75, lo rfl rfl 104 hy75, lo rfl rfl 104 hy75, lo rfl rfl 104 hy75, lo rfl rfl 104 hy75, lo rfl rfl 104 hy75, lo rfl rfl 104 hy75, lo rfl rfl 104 hy75, lo rfl rfl 104 hy75, lo rfl rfl 104 hy75, lo rfl rfl 104 hy75, lo rfl rfl 104 hy75, lo rfl rfl 104 hy75, lc rfl rfl fun hs hh => stp_pick_fB (sv hs 104 rfl) hy75 rfl qy75, lS, trivial⟩
   refine le rfl rfl (fun g hΦ s h hs hh => (stpU_call (fun i => 13 + i) cf18 (fun w hw => c_i_SystemValid fl w x16.1 rfl (OwnC.pass (id := 4) (hh.get 4 _ rfl) o20 hw) rfl (OwnC.pass (id := 5) (hh.get 5 _ rfl) o24 hw) rfl (OwnD.pass (id := 6) (hh.get 6 _ rfl) o28 hw) (RO.pass hg hw) x65 e65) (yA (sv hs 92 rfl)))) ?_
   rintro g _ _ ⟨_, ⟨rfl, rfl⟩, rfl⟩
   exact ⟨⟨[], [], []⟩, trivial, .inr rfl, rfl⟩
  intro g hΦ
  exact kw_join () trivial ⟨rfl, trivial⟩ trivial
 rintro _ -
 dsimp only
 refine kw_nx (cw_ret ?_)
 obtain rfl := sI H0
 exact kr Tryd.results8 (rT rfl) [] ⟨rfl, rfl⟩
end Go.Proofs.YtfnliecmagnkdaaDoor
