/- The walks: functions of the program return what their pure functions say. Printed by a program (gen.py). -/
import Derived.Test.YtfnliecmagnkdaaDoorGp
import Derived.Test.YtfnliecmagnkdaaDoorGt
import Derived.Test.YtfnliecmagnkdaaDoorMan
import Derived.Test.YtfnliecmagnkdaaDoorMap
import Derived.Test.YtfnliecmagnkdaaDoorCpy
import Derived.Test.YtfnliecmagnkdaaDoorClr
import Derived.Test.YtfnliecmagnkdaaDoorDp
import Derived.Test.YtfnliecmagnkdaaDoorSrt
import Derived.Test.YtfnliecmagnkdaaDoorE8
import Derived.Test.YtfnliecmagnkdaaDoorGwam
import Derived.Test.YtfnliecmagnkdaaDoorGwan
import Derived.Test.YtfnliecmagnkdaaDoorGwas
import Derived.Test.YtfnliecmagnkdaaDoorGwat
import Derived.Test.YtfnliecmagnkdaaDoorGwba
set_option linter.unusedSimpArgs false
set_option linter.unusedVariables false
set_option linter.unusedSectionVars false
namespace Go.Proofs.YtfnliecmagnkdaaDoor
open Go.RowKit
set_option maxHeartbeats 4000000
set_option maxRecDepth 20000
variable {p0_0 : Option Addr} {n0_0 : Nat} {c0_0 : Nat}
theorem c_s_DrawHeldFrames (fl : Nat) (w : World) (a0 : (List UInt8)) (hn0_0 : n0_0 = (a0).length) (hr0_0 : RO w (hkeys []) (RdL p0_0 c0_0 a0)) (r : Sy) (H0 : s_DrawHeldFrames fl a0 = some r) :
  Ct Tryd.prog 93 [.slice p0_0 n0_0 c0_0] w [] (fun rv h' => ∃ (x0 : Option Addr) (y0 z0 : Nat) (C0 : Res) (x1 : Option Addr) (y1 z1 : Nat) (C1 : Res) (x2 : Option Addr) (y2 z2 : Nat) (C2 : Res), rv = .agg #[.slice x0 y0 z0, .slice x1 y1 z1, .slice x2 y2 z2] ∧ h' = [(0, C0), (1, C1), (2, C2)] ∧ y0 = (r.t.b).length ∧ OwnC 3 x0 z0 r.t.b C0 ∧ y1 = (r.t.f).length ∧ OwnC 84 x1 z1 r.t.f C1 ∧ y2 = (r.c).length ∧ OwnD 44 48 x2 z2 r.c C2) := by
 subst hn0_0
 unfold s_DrawHeldFrames at H0
 refine ct_of_cw Tryd.func93 rfl Tryd.ntmps93 rfl (Sat.refl _ _) ?_
 refine sr (oE (stpU_alloc 0 tz36 rfl) rfl ?_)
 rintro _ _ ⟨b1, rfl, rfl⟩
 obtain ⟨x2, e2, H0⟩ := bS H0
 refine nn (sr (oM rfl (oE (stpU_call (fun i => 1 + i) cf70 (fun w hw => c_s_l8At fl w a0 rfl (RO.pass hr0_0 hw) x2 e2) (yA rfl)) rfl ?_)))
 rintro _ _ ⟨_, ⟨p3, _, c5, C6, p7, _, c9, C10, p11, _, c13, C14, rfl, rfl, rfl, o6, rfl, o10, rfl, o14⟩, rfl⟩
 refine oM rfl (oT rfl (oT rfl (oT rfl (oE (stpU_alloc 4 tz36 rfl) rfl ?_))))
 rintro _ _ ⟨b15, rfl, rfl⟩
 refine oE (stpU_alloc 5 tz46 rfl) rfl ?_
 rintro _ _ ⟨b16, rfl, rfl⟩
 refine oC3 4 ts36 rfl rfl (oS rfl (oC2 5 ts46 rfl rfl (nn (sr (oB3 4 ts36 rfl (oC3 0 ts36 rfl rfl (nn (cw_ret ?_))))))))
 obtain rfl := sI H0
 exact kr Tryd.results93 (rC3 0 ts36 rfl rfl) [1, 2, 3] ⟨_, _, _, _, _, _, _, _, _, _, _, _, rfl, rfl, rfl, o6, rfl, o10, rfl, o14⟩

theorem c_s_DrawSettleSystem (fl : Nat) (w : World) (a0 : (List UInt8)) (hn0_0 : n0_0 = (a0).length) (hr0_0 : RO w (hkeys []) (RdL p0_0 c0_0 a0)) (r : Sy) (H0 : s_DrawSettleSystem fl a0 = some r) :
  Ct Tryd.prog 39 [.slice p0_0 n0_0 c0_0] w [] (fun rv h' => ∃ (x0 : Option Addr) (y0 z0 : Nat) (C0 : Res) (x1 : Option Addr) (y1 z1 : Nat) (C1 : Res) (x2 : Option Addr) (y2 z2 : Nat) (C2 : Res), rv = .agg #[.slice x0 y0 z0, .slice x1 y1 z1, .slice x2 y2 z2] ∧ h' = [(0, C0), (1, C1), (2, C2)] ∧ y0 = (r.t.b).length ∧ OwnC 3 x0 z0 r.t.b C0 ∧ y1 = (r.t.f).length ∧ OwnC 84 x1 z1 r.t.f C1 ∧ y2 = (r.c).length ∧ OwnD 44 48 x2 z2 r.c C2) := by
 subst hn0_0
 unfold s_DrawSettleSystem at H0
 refine ct_of_cw Tryd.func39 rfl Tryd.ntmps39 rfl (Sat.refl _ _) ?_
 refine sr (oE (stpU_alloc 0 tz36 rfl) rfl ?_)
 rintro _ _ ⟨b1, rfl, rfl⟩
 obtain ⟨x2, e2, H0⟩ := bS H0
 refine nn (sr (oM rfl (oE (stpU_call (fun i => 1 + i) cf93 (fun w hw => c_s_DrawHeldFrames fl w a0 rfl (RO.pass hr0_0 hw) x2 e2) (yA rfl)) rfl ?_)))
 rintro _ _ ⟨_, ⟨p3, _, c5, C6, p7, _, c9, C10, p11, _, c13, C14, rfl, rfl, rfl, o6, rfl, o10, rfl, o14⟩, rfl⟩
 refine oC3 0 ts36 rfl rfl (nn (cw_ret ?_))
 obtain rfl := sI H0
 exact kr Tryd.results39 (rC3 0 ts36 rfl rfl) [1, 2, 3] ⟨_, _, _, _, _, _, _, _, _, _, _, _, rfl, rfl, rfl, o6, rfl, o10, rfl, o14⟩

theorem c_l_FnSettleLook (fl : Nat) (w : World) (a0 : (List UInt8)) (hn0_0 : n0_0 = (a0).length) (hr0_0 : RO w (hkeys []) (RdL p0_0 c0_0 a0)) (hg : RO w (hkeys []) (fun w' => w'.rangeAt 0 0 [.bool false, .int .i64 0, .int .i64 0, .int .i64 0, .int .i64 (-1)])) (r : Bool) (H0 : l_FnSettleLook fl a0 = some r) :
  Ct Tryd.prog 13 [.slice p0_0 n0_0 c0_0] w [] (fun rv h' => rv = .bool r ∧ h' = []) := by
 subst hn0_0
 unfold l_FnSettleLook at H0
 refine ct_of_cw Tryd.func13 rfl Tryd.ntmps13 rfl (Sat.refl _ _) ?_
 refine sr (oS rfl (nn (cw_seq (sr (oM rfl (oD (stp_len Tryd.underlying40 rfl) rfl (oJ rfl (nn (cw_cond rfl (fun h1 => ?_) (fun h1 => ?_))))))))))
 ·have H0 := cond_t H0 h1
  refine sr (oS rfl (nn (cw_ret (kw_nx_ret ?_))))
  obtain rfl := sI H0
  exact kr Tryd.results13 (rT rfl) [] ⟨rfl, rfl⟩
 have H0 := cond_f H0 h1
 obtain ⟨x2, e2, H0⟩ := bS H0
 refine cw_skip (kw_nx (sr (oM rfl (oE (stpU_call (fun i => 0 + i) cf39 (fun w hw => c_s_DrawSettleSystem fl w a0 rfl (RO.pass hr0_0 hw) x2 e2) (yA rfl)) rfl ?_))))
 rintro _ _ ⟨_, ⟨p3, _, c5, C6, p7, _, c9, C10, p11, _, c13, C14, rfl, rfl, rfl, o6, rfl, o10, rfl, o14⟩, rfl⟩
 refine oE (stpU_alloc 3 tz36 rfl) rfl ?_
 rintro _ _ ⟨b15, rfl, rfl⟩
 obtain ⟨x16, e16, H0⟩ := bS H0
 refine oC3 3 ts36 rfl rfl (nn (sr (oB3 3 ts36 rfl (oE (stpU_call (fun i => 4 + i) cf36 (fun w hw => c_i_SettleSystem fl w x2 rfl (OwnC.pass (id := 0) rfl o6 hw) rfl (OwnC.pass (id := 1) rfl o10 hw) rfl (OwnD.pass (id := 2) rfl o14 hw) (RO.pass hg hw) x16 e16) (yA rfl)) rfl ?_))))
 rintro _ _ ⟨_, ⟨p17, _, c19, C20, p21, _, c23, C24, p25, _, c27, C28, rfl, rfl, rfl, o20, rfl, o24, rfl, o28⟩, rfl⟩
 refine oM rfl (oT rfl (oT rfl (oE (stpU_alloc 7 tz36 rfl) rfl ?_)))
 rintro _ _ ⟨b29, rfl, rfl⟩
 obtain ⟨x30, e30, H0⟩ := bS H0
 refine oC3 7 ts36 rfl rfl (oS rfl (nn (sr (oB3 3 ts36 rfl (oE (stpU_call (fun i => 8 + i) cf35 (fun w hw => c_s_SettleSystem fl w x2 rfl (OwnC.pass (id := 0) rfl o6 hw) rfl (OwnC.pass (id := 1) rfl o10 hw) rfl (OwnD.pass (id := 2) rfl o14 hw) x30 e30) (yA rfl)) rfl ?_)))))
 rintro _ _ ⟨_, ⟨p31, _, c33, C34, p35, _, c37, C38, p39, _, c41, C42, rfl, rfl, rfl, o34, rfl, o38, rfl, o42⟩, rfl⟩
 refine oM rfl (oT rfl (oT rfl (oE (stpU_alloc 11 tz36 rfl) rfl ?_)))
 rintro _ _ ⟨b43, rfl, rfl⟩
 obtain ⟨x44, e44, H0⟩ := bS H0
 refine oC3 11 ts36 rfl rfl (oS rfl (nn (cw_seq (sr (oB3 7 ts36 rfl (oB3 11 ts36 rfl (oE (stpU_call (fun i => 12 + i) cf23 (fun w hw => c_i_SystemSame fl w x16.1 x30.1 rfl (OwnC.pass (id := 4) rfl o20 hw) rfl (OwnC.pass (id := 5) rfl o24 hw) rfl (OwnD.pass (id := 6) rfl o28 hw) rfl (OwnC.pass (id := 8) rfl o34 hw) rfl (OwnC.pass (id := 9) rfl o38 hw) rfl (OwnD.pass (id := 10) rfl o42 hw) x44 e44) (yB rfl rfl)) rfl ?_)))))))
 rintro _ _ ⟨_, ⟨rfl, rfl⟩, rfl⟩
 obtain ⟨y45, ey45, H0⟩ := bS H0
 refine oK rfl (oM rfl (ow_cutY 4 41 y45 ?_ ?_))
 ·rcases Bool.eq_false_or_eq_true (!x44) with hy45 | hy45
  ·have ey45 := cond_t ey45 hy45
   refine oO rfl hy45 rfl (oO rfl hy45 rfl (oO rfl hy45 rfl (oD (stp_pick_t rfl hy45 rfl) rfl ?_)))
   obtain rfl := sI ey45
   exact ow_nil (jy 4 0)
  have ey45 := cond_f ey45 hy45
  refine oG rfl hy45 (mv rfl) rfl (oG rfl hy45 (mv rfl) rfl (oG rfl hy45 (stp_neqB Tryd.underlying4 rfl rfl) rfl (oD (stp_pick_f rfl hy45 rfl) rfl ?_)))
  obtain rfl := sI ey45
  exact ow_nil (jy 4 0)
 obtain ⟨y46, ey46, H0⟩ := bS H0
 refine oM rfl (ow_cutY 3 45 y46 ?_ ?_)
 ·rcases Bool.eq_false_or_eq_true y45 with hy46 | hy46
  ·have ey46 := cond_t ey46 hy46
   refine oO rfl hy46 rfl (oO rfl hy46 rfl (oD (stp_pick_t rfl hy46 rfl) rfl ?_))
   obtain rfl := sI ey46
   exact ow_nil (jy 3 0)
  have ey46 := cond_f ey46 hy46
  refine oG rfl hy46 (mv rfl) rfl (oG rfl hy46 (stp_not rfl) rfl (oD (stp_pick_f rfl hy46 rfl) rfl ?_))
  obtain rfl := sI ey46
  exact ow_nil (jy 3 0)
 refine ow_nil (kw_nx (cw_cond rfl (fun h47 => ?_) (fun h47 => ?_)))
 ·have H0 := cond_t H0 h47
  refine sr (oB3 7 ts36 rfl (oB3 11 ts36 rfl (oE (stpU_call (fun i => 12 + i) cf23 (fun w hw => c_i_SystemSame fl w x16.1 x30.1 rfl (OwnC.pass (id := 4) rfl o20 hw) rfl (OwnC.pass (id := 5) rfl o24 hw) rfl (OwnD.pass (id := 6) rfl o28 hw) rfl (OwnC.pass (id := 8) rfl o34 hw) rfl (OwnC.pass (id := 9) rfl o38 hw) rfl (OwnD.pass (id := 10) rfl o42 hw) x44 e44) (yB rfl rfl)) rfl ?_)))
  rintro _ _ ⟨_, ⟨rfl, rfl⟩, rfl⟩
  obtain ⟨y48, ey48, H0⟩ := bS H0
  refine oM rfl (ow_cutY 4 53 y48 ?_ ?_)
  ·rcases Bool.eq_false_or_eq_true x44 with hy48 | hy48
   ·have ey48 := cond_t ey48 hy48
    refine oG rfl hy48 (mv rfl) rfl (oG rfl hy48 (mv rfl) rfl (oG rfl hy48 (stp_eqlB Tryd.underlying4 rfl rfl) rfl (oD (stp_pick_t rfl hy48 rfl) rfl ?_)))
    obtain rfl := sI ey48
    exact ow_nil (jy 4 0)
   have ey48 := cond_f ey48 hy48
   refine oO rfl hy48 rfl (oO rfl hy48 rfl (oO rfl hy48 rfl (oD (stp_pick_f rfl hy48 rfl) rfl ?_)))
   obtain rfl := sI ey48
   exact ow_nil (jy 4 0)
  refine oS rfl (nn (cw_ret (kw_nx_ret ?_)))
  obtain rfl := sI H0
  exact kr Tryd.results13 (rT rfl) [] ⟨rfl, rfl⟩
 have H0 := cond_f H0 h47
 obtain ⟨o0_0, eo0_0, H0⟩ := bS H0
 refine cw_skip (kw_nx (cw_seq (sr (oS rfl (nn (cw_join (ι := Int) (fun | v49 => o0_0 = .out v49) (fun | v49 => [(3, .pointer (some ⟨b15, 0, none⟩)), (4, .pointer (some ⟨b29, 0, none⟩)), (8, .int .i64 v49)]) (fun | v49 => [(0, C6), (1, C10), (2, C14), (3, [(b15, .cells #[.slice p3 ((x2.t.b).length) c5, .slice p7 ((x2.t.f).length) c9, .slice p11 ((x2.c).length) c13] 36 (0, 0))]), (4, C20), (5, C24), (6, C28), (7, [(b29, .cells #[.slice p17 ((x16.1.t.b).length) c19, .slice p21 ((x16.1.t.f).length) c23, .slice p25 ((x16.1.c).length) c27] 36 (0, 0))])]) ?_ ?_))))))
 ·refine cw_block (cw_loopS (ι := Nat × Int) (js := [0, 1, 2, 3, 4, 5, 6, 7]) (fun x => x.1) (fun | (fuel, v49) => l_FnSettleLook_L0 fl x2 x16 fuel v49 = some o0_0) (fun | (_, v49) => [(3, .pointer (some ⟨b15, 0, none⟩)), (4, .pointer (some ⟨b29, 0, none⟩)), (8, .int .i64 v49)]) (fun | (_, v49) => [(0, C6), (1, C10), (2, C14), (3, [(b15, .cells #[.slice p3 ((x2.t.b).length) c5, .slice p7 ((x2.t.f).length) c9, .slice p11 ((x2.c).length) c13] 36 (0, 0))]), (4, C20), (5, C24), (6, C28), (7, [(b29, .cells #[.slice p17 ((x16.1.t.b).length) c19, .slice p21 ((x16.1.t.f).length) c23, .slice p25 ((x16.1.c).length) c27] 36 (0, 0))])]) (fl, 0) eo0_0 ⟨rfl, rfl, rfl, trivial⟩ ⟨0, [1, 2, 3, 4, 5, 6, 7], rfl, rfl, 1, [2, 3, 4, 5, 6, 7], rfl, rfl, 2, [3, 4, 5, 6, 7], rfl, rfl, 3, [4, 5, 6, 7], rfl, rfl, 4, [5, 6, 7], rfl, rfl, 5, [6, 7], rfl, rfl, 6, [7], rfl, rfl, 7, [], rfl, rfl, trivial⟩ (by decide) ?_)
  rintro ⟨fuel, v49⟩ H1
  have H1 : l_FnSettleLook_L0 fl x2 x16 fuel v49 = some o0_0 := H1
  rcases fuel with _ | fuel
  ·rw [l_FnSettleLook_L0.eq_1] at H1; cases H1
  rw [l_FnSettleLook_L0.eq_2] at H1
  dsimp only
  refine cw_seq (sr (oM rfl (oA 2 Tryd.underlying36 rfl ts34 rfl (oL 3 ts34 rfl (oD (stp_len Tryd.underlying34 rfl) rfl (oW rfl (nn (cw_cond rfl (fun h50 => ?_) (fun h50 => ?_)))))))))
  ·have H1 := cond_t H1 h50
   obtain ⟨o1_1, eo1_1, H1⟩ := bS H1
   refine cw_skip (kw_nx (cw_seq (cw_block (sr (oS rfl (nn (cw_join (ι := Int) (fun | v51 => o1_1 = .out v51) (fun | v51 => [(3, .pointer (some ⟨b15, 0, none⟩)), (4, .pointer (some ⟨b29, 0, none⟩)), (8, .int .i64 v49), (9, .int .i64 v51)]) (fun | v51 => [(0, C6), (1, C10), (2, C14), (3, [(b15, .cells #[.slice p3 ((x2.t.b).length) c5, .slice p7 ((x2.t.f).length) c9, .slice p11 ((x2.c).length) c13] 36 (0, 0))]), (4, C20), (5, C24), (6, C28), (7, [(b29, .cells #[.slice p17 ((x16.1.t.b).length) c19, .slice p21 ((x16.1.t.f).length) c23, .slice p25 ((x16.1.c).length) c27] 36 (0, 0))])]) ?_ ?_)))))))
   ·refine cw_block (cw_loopS (ι := Nat × Int) (js := [0, 1, 2, 3, 4, 5, 6, 7]) (fun x => x.1) (fun | (fuel, v51) => l_FnSettleLook_L1 fl x2 x16 v49 fuel v51 = some o1_1) (fun | (_, v51) => [(3, .pointer (some ⟨b15, 0, none⟩)), (4, .pointer (some ⟨b29, 0, none⟩)), (8, .int .i64 v49), (9, .int .i64 v51)]) (fun | (_, v51) => [(0, C6), (1, C10), (2, C14), (3, [(b15, .cells #[.slice p3 ((x2.t.b).length) c5, .slice p7 ((x2.t.f).length) c9, .slice p11 ((x2.c).length) c13] 36 (0, 0))]), (4, C20), (5, C24), (6, C28), (7, [(b29, .cells #[.slice p17 ((x16.1.t.b).length) c19, .slice p21 ((x16.1.t.f).length) c23, .slice p25 ((x16.1.c).length) c27] 36 (0, 0))])]) (fl, 0) eo1_1 ⟨rfl, rfl, rfl, rfl, trivial⟩ ⟨0, [1, 2, 3, 4, 5, 6, 7], rfl, rfl, 1, [2, 3, 4, 5, 6, 7], rfl, rfl, 2, [3, 4, 5, 6, 7], rfl, rfl, 3, [4, 5, 6, 7], rfl, rfl, 4, [5, 6, 7], rfl, rfl, 5, [6, 7], rfl, rfl, 6, [7], rfl, rfl, 7, [], rfl, rfl, trivial⟩ (by decide) ?_)
    rintro ⟨fuel, v51⟩ H2
    have H2 : l_FnSettleLook_L1 fl x2 x16 v49 fuel v51 = some o1_1 := H2
    rcases fuel with _ | fuel
    ·rw [l_FnSettleLook_L1.eq_1] at H2; cases H2
    rw [l_FnSettleLook_L1.eq_2] at H2
    dsimp only
    obtain ⟨x52, e52, H2⟩ := bS H2
    refine cw_seq (sr (oM rfl (oA 2 Tryd.underlying36 rfl ts34 rfl (oL 3 ts34 rfl (oM rfl ?_)))))
    obtain ⟨u53, p54, n55, c56, p57, n58, c59, hl53, hx53, rfl, rfl, hw53, hr53, hs53⟩ := OwnD.view o14 e52
    refine oD (stp_indexAddr Tryd.underlying34 ts44 (by decide) rfl hl53 rfl (RdC.rdb (id := 2) hw53 rfl) hx53) rfl (oA 0 Tryd.underlying44 rfl ts42 rfl (oD (stp_load1 ts42 rfl (Cells.el (RdC.rdb (id := 2) hw53 rfl) (by decide) hx53 0 1 rfl)) rfl (oD (stp_len Tryd.underlying42 rfl) rfl (oW rfl (nn (cw_cond rfl (fun h60 => ?_) (fun h60 => ?_)))))))
    ·have H2 := cond_t H2 h60
     obtain ⟨x61, e61, H2⟩ := bS H2
     refine cw_skip (kw_nx (cw_seq (cw_block (sr (oA 2 Tryd.underlying36 rfl ts34 rfl (oL 3 ts34 rfl (oM rfl (oD (stp_indexAddr Tryd.underlying34 ts44 (by decide) rfl hl53 rfl (RdC.rdb (id := 2) hw53 rfl) hx53) rfl (oA 0 Tryd.underlying44 rfl ts42 rfl (oD (stp_load1 ts42 rfl (Cells.el (RdC.rdb (id := 2) hw53 rfl) (by decide) hx53 0 1 rfl)) rfl (oM rfl (oD (stp_indexAddr Tryd.underlying42 ts48 (by decide) rfl rfl rfl (RdC.rdb (id := 2) hr53 rfl) e61) rfl (oA 0 Tryd.underlying48 rfl ts46 rfl ?_)))))))))))))
     refine oD (stp_loadN (us := [_, _]) ts46 rfl (Cells.el (RdC.rdb (id := 2) hr53 rfl) (by decide) e61 0 2 rfl)) rfl (oE (stpU_alloc 12 tz46 rfl) rfl ?_)
     rintro _ _ ⟨b62, rfl, rfl⟩
     obtain ⟨x63, e63, H2⟩ := bS H2
     refine oC2 12 ts46 rfl rfl (nn (sr (oB3 7 ts36 rfl (oM rfl (oB2 12 ts46 rfl (oE (stpU_call (fun i => 13 + i) cf26 (fun w hw => c_i_LookCpu fl w x16.1 v49 x61.k rfl (OwnC.pass (id := 4) rfl o20 hw) rfl (OwnC.pass (id := 5) rfl o24 hw) rfl (OwnD.pass (id := 6) rfl o28 hw) (RO.pass hg hw) x63 e63) (yC rfl rfl rfl)) rfl ?_))))))
     rintro _ _ ⟨_, ⟨p64, _, c66, C67, p68, _, c70, C71, p72, _, c74, C75, rfl, rfl, rfl, o67, rfl, o71, rfl, o75⟩, rfl⟩
     refine oM rfl (oT rfl (oT rfl (oT rfl (oT rfl (oE (stpU_alloc 16 tz36 rfl) rfl ?_)))))
     rintro _ _ ⟨b76, rfl, rfl⟩
     obtain ⟨x77, e77, H2⟩ := bS H2
     refine oC3 16 ts36 rfl rfl (oS rfl (oS rfl (oS rfl (nn (sr (oA 0 Tryd.underlying36 rfl ts33 rfl (oB2 7 ts33 rfl (oB2 12 ts46 rfl (oE (stpU_call (fun i => 17 + i) cf21 (fun w hw => c_i_FindPage fl w x16.1.t x61.k rfl (OwnC.pass (id := 4) rfl o20 hw) rfl (OwnC.pass (id := 5) rfl o24 hw) (RO.pass hg hw) x77 e77) (yB rfl rfl)) rfl ?_)))))))))
     rintro _ _ ⟨_, ⟨rfl, rfl⟩, rfl⟩
     obtain ⟨y78, ey78, H2⟩ := bS H2
     refine oM rfl (oT rfl (oT rfl (oT rfl (oS rfl (oS rfl (oS rfl (nn (sr (oM rfl (oK rfl (oM rfl (ow_cutY 5 106 y78 ?_ ?_))))))))))))
     ·rcases Bool.eq_false_or_eq_true (!x63.2.2.2) with hy78 | hy78
      ·have ey78 := cond_t ey78 hy78
       refine oO rfl hy78 rfl (oO rfl hy78 rfl (oO rfl hy78 rfl (oO rfl hy78 rfl (oD (stp_pick_t rfl hy78 rfl) rfl ?_))))
       obtain rfl := sI ey78
       exact ow_nil (jy 5 0)
      have ey78 := cond_f ey78 hy78
      refine oG rfl hy78 (mv rfl) rfl (oG rfl hy78 (mv rfl) rfl (oG rfl hy78 (stp_neq rfl rfl) rfl (oG rfl hy78 (stp_neqB Tryd.underlying4 rfl rfl) rfl (oD (stp_pick_f rfl hy78 rfl) rfl ?_))))
      obtain rfl := sI ey78
      exact ow_nil (jy 5 0)
     obtain ⟨y79, ey79, H2⟩ := bS H2
     refine oM rfl (ow_cutY 7 114 y79 ?_ ?_)
     ·rcases Bool.eq_false_or_eq_true y78 with hy79 | hy79
      ·have ey79 := cond_t ey79 hy79
       refine oO rfl hy79 rfl (oO rfl hy79 rfl (oX rfl rfl rfl (oX rfl rfl rfl (oX rfl rfl rfl (oO rfl hy79 rfl (oD (stp_pick_t rfl hy79 rfl) rfl ?_))))))
       obtain rfl := sI ey79
       exact ow_nil (jy 7 0)
      have ey79 := cond_f ey79 hy79
      obtain ⟨y80, ey80, ey79⟩ := bS ey79
      refine oG rfl hy79 (mv rfl) rfl (oG rfl hy79 (mv rfl) rfl (ow_cutY 4 113 y80 ?_ ?_))
      ·rcases Bool.eq_false_or_eq_true x77.2.2 with hy80 | hy80
       ·have ey80 := cond_t ey80 hy80
        refine oG rfl hy80 (mv rfl) rfl (oG rfl hy80 (mv rfl) rfl (oG rfl hy80 (stp_neq rfl rfl) rfl (oG rfl hy79 (stp_pick_t rfl hy80 rfl) rfl ?_)))
        obtain rfl := sI ey80
        exact ow_nil (jy 4 0)
       have ey80 := cond_f ey80 hy80
       refine oO rfl hy80 rfl (oO rfl hy80 rfl (oO rfl hy80 rfl (oG rfl hy79 (stp_pick_f rfl hy80 rfl) rfl ?_)))
       obtain rfl := sI ey80
       exact ow_nil (jy 4 0)
      refine oD (stp_pick_f rfl hy79 rfl) rfl ?_
      obtain rfl := sI ey79
      exact ow_nil (jy 4 0)
     refine ow_nil (kw_nx (cw_cond rfl (fun h81 => ?_) (fun h81 => ?_)))
     ·have H2 := cond_t H2 h81
      refine sr (oS rfl (nn (cw_ret (kw_bl_ret (kw_nx_ret (kw_lq_ret (kw_bl_ret (kw_join_ret (kw_bl_ret (kw_nx_ret (kw_lq_ret (kw_bl_ret (kw_join_ret ?_)))))))))))))
      refine kw_nx_ret ?_
      obtain rfl := sI H2
      obtain rfl := sI H1
      obtain rfl := sI H0
      exact kr Tryd.results13 (rT rfl) [] ⟨rfl, rfl⟩
     have H2 := cond_f H2 h81
     obtain ⟨x82, e82, H2⟩ := bS H2
     exact cw_skip (kw_bl_normal (kw_nx (cw_region (oM rfl (oP e82 rfl (oS rfl (ow_nil (kw_lqS (js := [0, 1, 2, 3, 4, 5, 6, 7]) (fuel, x82) H2 (Nat.lt_succ_self _) ⟨rfl, rfl, rfl, rfl, trivial⟩ ⟨0, [1, 2, 3, 4, 5, 6, 7], rfl, rfl, 1, [2, 3, 4, 5, 6, 7], rfl, rfl, 2, [3, 4, 5, 6, 7], rfl, rfl, 3, [4, 5, 6, 7], rfl, rfl, 4, [5, 6, 7], rfl, rfl, 5, [6, 7], rfl, rfl, 6, [7], rfl, rfl, 7, [], rfl, rfl, trivial⟩ (by decide)))))))))
    have H2 := cond_f H2 h60
    refine cw_exit (kw_nx_exit (kw_lq_exit (kw_bl ?_)))
    obtain rfl := sI H2
    exact kw_joinS (js := [0, 1, 2, 3, 4, 5, 6, 7]) v51 rfl ⟨rfl, rfl, rfl, rfl, trivial⟩ ⟨0, [1, 2, 3, 4, 5, 6, 7], rfl, rfl, 1, [2, 3, 4, 5, 6, 7], rfl, rfl, 2, [3, 4, 5, 6, 7], rfl, rfl, 3, [4, 5, 6, 7], rfl, rfl, 4, [5, 6, 7], rfl, rfl, 5, [6, 7], rfl, rfl, 6, [7], rfl, rfl, 7, [], rfl, rfl, trivial⟩ (by decide)
   rintro v51 rfl
   dsimp only
   obtain ⟨x83, e83, H1⟩ := bS H1
   exact kw_bl_normal (kw_nx (cw_region (oM rfl (oP e83 rfl (oS rfl (ow_nil (kw_lqS (js := [0, 1, 2, 3, 4, 5, 6, 7]) (fuel, x83) H1 (Nat.lt_succ_self _) ⟨rfl, rfl, rfl, trivial⟩ ⟨0, [1, 2, 3, 4, 5, 6, 7], rfl, rfl, 1, [2, 3, 4, 5, 6, 7], rfl, rfl, 2, [3, 4, 5, 6, 7], rfl, rfl, 3, [4, 5, 6, 7], rfl, rfl, 4, [5, 6, 7], rfl, rfl, 5, [6, 7], rfl, rfl, 6, [7], rfl, rfl, 7, [], rfl, rfl, trivial⟩ (by decide))))))))
  have H1 := cond_f H1 h50
  refine cw_exit (kw_nx_exit (kw_lq_exit (kw_bl ?_)))
  obtain rfl := sI H1
  exact kw_joinS (js := [0, 1, 2, 3, 4, 5, 6, 7]) v49 rfl ⟨rfl, rfl, rfl, trivial⟩ ⟨0, [1, 2, 3, 4, 5, 6, 7], rfl, rfl, 1, [2, 3, 4, 5, 6, 7], rfl, rfl, 2, [3, 4, 5, 6, 7], rfl, rfl, 3, [4, 5, 6, 7], rfl, rfl, 4, [5, 6, 7], rfl, rfl, 5, [6, 7], rfl, rfl, 6, [7], rfl, rfl, 7, [], rfl, rfl, trivial⟩ (by decide)
 rintro v49 rfl
 dsimp only
 refine kw_nx (sr (oS rfl (nn (cw_ret ?_))))
 obtain rfl := sI H0
 exact kr Tryd.results13 (rT rfl) [] ⟨rfl, rfl⟩
end Go.Proofs.YtfnliecmagnkdaaDoor
