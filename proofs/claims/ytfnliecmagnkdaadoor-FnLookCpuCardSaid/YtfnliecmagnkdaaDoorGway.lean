/- The walks: functions of the program return what their pure functions say. Printed by a program (gen.py). -/
import Derived.Test.YtfnliecmagnkdaaDoorGp
import Derived.Test.YtfnliecmagnkdaaDoorGt
import Derived.Test.YtfnliecmagnkdaaDoorMan
import Derived.Test.YtfnliecmagnkdaaDoorMap
import Derived.Test.YtfnliecmagnkdaaDoorCpy
import Derived.Test.YtfnliecmagnkdaaDoorClr
import Derived.Test.YtfnliecmagnkdaaDoorDp
import Derived.Test.YtfnliecmagnkdaaDoorSrt
import Derived.Test.YtfnliecmagnkdaaDoorE8
import Derived.Test.YtfnliecmagnkdaaDoorGwac
import Derived.Test.YtfnliecmagnkdaaDoorGwaf
import Derived.Test.YtfnliecmagnkdaaDoorGwam
import Derived.Test.YtfnliecmagnkdaaDoorGwao
import Derived.Test.YtfnliecmagnkdaaDoorGwas
import Derived.Test.YtfnliecmagnkdaaDoorGwat
set_option linter.unusedSimpArgs false
set_option linter.unusedVariables false
set_option linter.unusedSectionVars false
namespace Go.Proofs.YtfnliecmagnkdaaDoor
open Go.RowKit
set_option maxHeartbeats 4000000
set_option maxRecDepth 20000
variable {p0_0 : Option Addr} {n0_0 : Nat} {c0_0 : Nat}
theorem c_l_FnLookCpu (fl : Nat) (w : World) (a0 : (List UInt8)) (hn0_0 : n0_0 = (a0).length) (hr0_0 : RO w (hkeys []) (RdL p0_0 c0_0 a0)) (hg : RO w (hkeys []) (fun w' => w'.rangeAt 0 0 [.bool false, .int .i64 0, .int .i64 0, .int .i64 0, .int .i64 (-1)])) (r : Bool) (H0 : l_FnLookCpu fl a0 = some r) :
  Ct Tryd.prog 9 [.slice p0_0 n0_0 c0_0] w [] (fun rv h' => rv = .bool r ∧ h' = []) := by
 subst hn0_0
 unfold l_FnLookCpu at H0
 refine ct_of_cw Tryd.func9 rfl Tryd.ntmps9 rfl (Sat.refl _ _) ?_
 refine sr (oS rfl (nn (cw_seq (sr (oM rfl (oD (stp_len Tryd.underlying40 rfl) rfl (oJ rfl (nn (cw_cond rfl (fun h1 => ?_) (fun h1 => ?_))))))))))
 ·have H0 := cond_t H0 h1
  refine sr (oS rfl (nn (cw_ret (kw_nx_ret ?_))))
  obtain rfl := sI H0
  exact kr Tryd.results9 (rT rfl) [] ⟨rfl, rfl⟩
 have H0 := cond_f H0 h1
 obtain ⟨x2, e2, H0⟩ := bS H0
 refine cw_skip (kw_nx (sr (oM rfl (oE (stpU_call (fun i => 0 + i) cf25 (fun w hw => c_s_DrawLookCpu fl w a0 rfl (RO.pass hr0_0 hw) x2 e2) (yA rfl)) rfl ?_))))
 rintro _ _ ⟨_, ⟨p3, _, c5, C6, p7, _, c9, C10, p11, _, c13, C14, rfl, rfl, rfl, o6, rfl, o10, rfl, o14⟩, rfl⟩
 refine oM rfl (oT rfl (oT rfl (oT rfl (oE (stpU_alloc 3 tz36 rfl) rfl ?_))))
 rintro _ _ ⟨b15, rfl, rfl⟩
 refine oE (stpU_alloc 4 tz46 rfl) rfl ?_
 rintro _ _ ⟨b16, rfl, rfl⟩
 obtain ⟨x17, e17, H0⟩ := bS H0
 refine oC3 3 ts36 rfl rfl (oS rfl (oC2 4 ts46 rfl rfl (nn (sr (oB3 3 ts36 rfl (oM rfl (oB2 4 ts46 rfl (oE (stpU_call (fun i => 5 + i) cf26 (fun w hw => c_i_LookCpu fl w x2.1 x2.2.1 x2.2.2 rfl (OwnC.pass (id := 0) rfl o6 hw) rfl (OwnC.pass (id := 1) rfl o10 hw) rfl (OwnD.pass (id := 2) rfl o14 hw) (RO.pass hg hw) x17 e17) (yC rfl rfl rfl)) rfl ?_))))))))
 rintro _ _ ⟨_, ⟨p18, _, c20, C21, p22, _, c24, C25, p26, _, c28, C29, rfl, rfl, rfl, o21, rfl, o25, rfl, o29⟩, rfl⟩
 refine oM rfl (oT rfl (oT rfl (oT rfl (oT rfl (oE (stpU_alloc 8 tz36 rfl) rfl ?_)))))
 rintro _ _ ⟨b30, rfl, rfl⟩
 obtain ⟨x31, e31, H0⟩ := bS H0
 refine oC3 8 ts36 rfl rfl (oS rfl (oS rfl (oS rfl (nn (sr (oB3 3 ts36 rfl (oM rfl (oB2 4 ts46 rfl (oE (stpU_call (fun i => 9 + i) cf27 (fun w hw => c_s_LookCpu fl w x2.1 x2.2.1 x2.2.2 rfl (OwnC.pass (id := 0) rfl o6 hw) rfl (OwnC.pass (id := 1) rfl o10 hw) rfl (OwnD.pass (id := 2) rfl o14 hw) x31 e31) (yC rfl rfl rfl)) rfl ?_)))))))))
 rintro _ _ ⟨_, ⟨p32, _, c34, C35, p36, _, c38, C39, p40, _, c42, C43, rfl, rfl, rfl, o35, rfl, o39, rfl, o43⟩, rfl⟩
 refine oM rfl (oT rfl (oT rfl (oT rfl (oT rfl (oE (stpU_alloc 12 tz36 rfl) rfl ?_)))))
 rintro _ _ ⟨b44, rfl, rfl⟩
 obtain ⟨x45, e45, H0⟩ := bS H0
 refine oC3 12 ts36 rfl rfl (oS rfl (oS rfl (oS rfl (nn (cw_seq (sr (oB3 8 ts36 rfl (oB3 12 ts36 rfl (oE (stpU_call (fun i => 13 + i) cf23 (fun w hw => c_i_SystemSame fl w x17.1 x31.1 rfl (OwnC.pass (id := 5) rfl o21 hw) rfl (OwnC.pass (id := 6) rfl o25 hw) rfl (OwnD.pass (id := 7) rfl o29 hw) rfl (OwnC.pass (id := 9) rfl o35 hw) rfl (OwnC.pass (id := 10) rfl o39 hw) rfl (OwnD.pass (id := 11) rfl o43 hw) x45 e45) (yB rfl rfl)) rfl ?_)))))))))
 rintro _ _ ⟨_, ⟨rfl, rfl⟩, rfl⟩
 obtain ⟨y46, ey46, H0⟩ := bS H0
 refine oK rfl (oM rfl (ow_cutY 4 54 y46 ?_ ?_))
 ·rcases Bool.eq_false_or_eq_true (!x45) with hy46 | hy46
  ·have ey46 := cond_t ey46 hy46
   refine oO rfl hy46 rfl (oO rfl hy46 rfl (oO rfl hy46 rfl (oD (stp_pick_t rfl hy46 rfl) rfl ?_)))
   obtain rfl := sI ey46
   exact ow_nil (jy 4 0)
  have ey46 := cond_f ey46 hy46
  refine oG rfl hy46 (mv rfl) rfl (oG rfl hy46 (mv rfl) rfl (oG rfl hy46 (stp_neq rfl rfl) rfl (oD (stp_pick_f rfl hy46 rfl) rfl ?_)))
  obtain rfl := sI ey46
  exact ow_nil (jy 4 0)
 obtain ⟨y47, ey47, H0⟩ := bS H0
 refine oM rfl (ow_cutY 4 59 y47 ?_ ?_)
 ·rcases Bool.eq_false_or_eq_true y46 with hy47 | hy47
  ·have ey47 := cond_t ey47 hy47
   refine oO rfl hy47 rfl (oO rfl hy47 rfl (oO rfl hy47 rfl (oD (stp_pick_t rfl hy47 rfl) rfl ?_)))
   obtain rfl := sI ey47
   exact ow_nil (jy 4 0)
  have ey47 := cond_f ey47 hy47
  refine oG rfl hy47 (mv rfl) rfl (oG rfl hy47 (mv rfl) rfl (oG rfl hy47 (stp_neq rfl rfl) rfl (oD (stp_pick_f rfl hy47 rfl) rfl ?_)))
  obtain rfl := sI ey47
  exact ow_nil (jy 4 0)
 obtain ⟨y48, ey48, H0⟩ := bS H0
 refine oM rfl (ow_cutY 4 64 y48 ?_ ?_)
 ·rcases Bool.eq_false_or_eq_true y47 with hy48 | hy48
  ·have ey48 := cond_t ey48 hy48
   refine oO rfl hy48 rfl (oO rfl hy48 rfl (oO rfl hy48 rfl (oD (stp_pick_t rfl hy48 rfl) rfl ?_)))
   obtain rfl := sI ey48
   exact ow_nil (jy 4 0)
  have ey48 := cond_f ey48 hy48
  refine oG rfl hy48 (mv rfl) rfl (oG rfl hy48 (mv rfl) rfl (oG rfl hy48 (stp_neqB Tryd.underlying4 rfl rfl) rfl (oD (stp_pick_f rfl hy48 rfl) rfl ?_)))
  obtain rfl := sI ey48
  exact ow_nil (jy 4 0)
 obtain ⟨y49, ey49, H0⟩ := bS H0
 refine oM rfl (ow_cutY 3 68 y49 ?_ ?_)
 ·rcases Bool.eq_false_or_eq_true y48 with hy49 | hy49
  ·have ey49 := cond_t ey49 hy49
   refine oO rfl hy49 rfl (oO rfl hy49 rfl (oD (stp_pick_t rfl hy49 rfl) rfl ?_))
   obtain rfl := sI ey49
   exact ow_nil (jy 3 0)
  have ey49 := cond_f ey49 hy49
  refine oG rfl hy49 (mv rfl) rfl (oG rfl hy49 (stp_not rfl) rfl (oD (stp_pick_f rfl hy49 rfl) rfl ?_))
  obtain rfl := sI ey49
  exact ow_nil (jy 3 0)
 refine ow_nil (kw_nx (cw_cond rfl (fun h50 => ?_) (fun h50 => ?_)))
 ·have H0 := cond_t H0 h50
  refine sr (oB3 8 ts36 rfl (oB3 12 ts36 rfl (oE (stpU_call (fun i => 13 + i) cf23 (fun w hw => c_i_SystemSame fl w x17.1 x31.1 rfl (OwnC.pass (id := 5) rfl o21 hw) rfl (OwnC.pass (id := 6) rfl o25 hw) rfl (OwnD.pass (id := 7) rfl o29 hw) rfl (OwnC.pass (id := 9) rfl o35 hw) rfl (OwnC.pass (id := 10) rfl o39 hw) rfl (OwnD.pass (id := 11) rfl o43 hw) x45 e45) (yB rfl rfl)) rfl ?_)))
  rintro _ _ ⟨_, ⟨rfl, rfl⟩, rfl⟩
  obtain ⟨y51, ey51, H0⟩ := bS H0
  refine oM rfl (ow_cutY 4 76 y51 ?_ ?_)
  ·rcases Bool.eq_false_or_eq_true x45 with hy51 | hy51
   ·have ey51 := cond_t ey51 hy51
    refine oG rfl hy51 (mv rfl) rfl (oG rfl hy51 (mv rfl) rfl (oG rfl hy51 (stp_eql rfl rfl) rfl (oD (stp_pick_t rfl hy51 rfl) rfl ?_)))
    obtain rfl := sI ey51
    exact ow_nil (jy 4 0)
   have ey51 := cond_f ey51 hy51
   refine oO rfl hy51 rfl (oO rfl hy51 rfl (oO rfl hy51 rfl (oD (stp_pick_f rfl hy51 rfl) rfl ?_)))
   obtain rfl := sI ey51
   exact ow_nil (jy 4 0)
  obtain ⟨y52, ey52, H0⟩ := bS H0
  refine oM rfl (ow_cutY 4 81 y52 ?_ ?_)
  ·rcases Bool.eq_false_or_eq_true y51 with hy52 | hy52
   ·have ey52 := cond_t ey52 hy52
    refine oG rfl hy52 (mv rfl) rfl (oG rfl hy52 (mv rfl) rfl (oG rfl hy52 (stp_eql rfl rfl) rfl (oD (stp_pick_t rfl hy52 rfl) rfl ?_)))
    obtain rfl := sI ey52
    exact ow_nil (jy 4 0)
   have ey52 := cond_f ey52 hy52
   refine oO rfl hy52 rfl (oO rfl hy52 rfl (oO rfl hy52 rfl (oD (stp_pick_f rfl hy52 rfl) rfl ?_)))
   obtain rfl := sI ey52
   exact ow_nil (jy 4 0)
  obtain ⟨y53, ey53, H0⟩ := bS H0
  refine oM rfl (ow_cutY 4 86 y53 ?_ ?_)
  ·rcases Bool.eq_false_or_eq_true y52 with hy53 | hy53
   ·have ey53 := cond_t ey53 hy53
    refine oG rfl hy53 (mv rfl) rfl (oG rfl hy53 (mv rfl) rfl (oG rfl hy53 (stp_eqlB Tryd.underlying4 rfl rfl) rfl (oD (stp_pick_t rfl hy53 rfl) rfl ?_)))
    obtain rfl := sI ey53
    exact ow_nil (jy 4 0)
   have ey53 := cond_f ey53 hy53
   refine oO rfl hy53 rfl (oO rfl hy53 rfl (oO rfl hy53 rfl (oD (stp_pick_f rfl hy53 rfl) rfl ?_)))
   obtain rfl := sI ey53
   exact ow_nil (jy 4 0)
  refine oS rfl (nn (cw_ret (kw_nx_ret ?_)))
  obtain rfl := sI H0
  exact kr Tryd.results9 (rT rfl) [] ⟨rfl, rfl⟩
 have H0 := cond_f H0 h50
 obtain ⟨o0_0, eo0_0, H0⟩ := bS H0
 refine cw_skip (kw_nx (sr (oS rfl (nn (cw_seq (sr (oS rfl (nn (cw_join (ι := Bool × Int) (fun | (v54, v55) => o0_0 = .out (v54, v55)) (fun | (v54, v55) => [(3, .pointer (some ⟨b15, 0, none⟩)), (4, .int .i64 x2.2.1), (5, .pointer (some ⟨b16, 0, none⟩)), (6, .pointer (some ⟨b30, 0, none⟩)), (7, .int .i64 x17.2.1), (8, .int .i64 x17.2.2.1), (14, .bool v54), (15, .int .i64 v55)]) (fun | (v54, v55) => [(0, C6), (1, C10), (2, C14), (3, [(b15, .cells #[.slice p3 ((x2.1.t.b).length) c5, .slice p7 ((x2.1.t.f).length) c9, .slice p11 ((x2.1.c).length) c13] 36 (0, 0))]), (4, [(b16, .cells #[.int .i64 x2.2.2.s, .int .i64 x2.2.2.p] 46 (0, 0))]), (5, C21), (6, C25), (7, C29), (8, [(b30, .cells #[.slice p18 ((x17.1.t.b).length) c20, .slice p22 ((x17.1.t.f).length) c24, .slice p26 ((x17.1.c).length) c28] 36 (0, 0))])]) ?_ ?_)))))))))
 ·refine cw_block (cw_loopS (ι := Nat × Bool × Int) (js := [0, 1, 2, 3, 4, 5, 6, 7, 8]) (fun x => x.1) (fun | (fuel, v54, v55) => l_FnLookCpu_L0 fl x2 fuel v54 v55 = some o0_0) (fun | (_, v54, v55) => [(3, .pointer (some ⟨b15, 0, none⟩)), (4, .int .i64 x2.2.1), (5, .pointer (some ⟨b16, 0, none⟩)), (6, .pointer (some ⟨b30, 0, none⟩)), (7, .int .i64 x17.2.1), (8, .int .i64 x17.2.2.1), (14, .bool v54), (15, .int .i64 v55)]) (fun | (_, v54, v55) => [(0, C6), (1, C10), (2, C14), (3, [(b15, .cells #[.slice p3 ((x2.1.t.b).length) c5, .slice p7 ((x2.1.t.f).length) c9, .slice p11 ((x2.1.c).length) c13] 36 (0, 0))]), (4, [(b16, .cells #[.int .i64 x2.2.2.s, .int .i64 x2.2.2.p] 46 (0, 0))]), (5, C21), (6, C25), (7, C29), (8, [(b30, .cells #[.slice p18 ((x17.1.t.b).length) c20, .slice p22 ((x17.1.t.f).length) c24, .slice p26 ((x17.1.c).length) c28] 36 (0, 0))])]) (fl, false, 0) eo0_0 ⟨rfl, rfl, rfl, rfl, rfl, rfl, rfl, rfl, trivial⟩ ⟨0, [1, 2, 3, 4, 5, 6, 7, 8], rfl, rfl, 1, [2, 3, 4, 5, 6, 7, 8], rfl, rfl, 2, [3, 4, 5, 6, 7, 8], rfl, rfl, 3, [4, 5, 6, 7, 8], rfl, rfl, 4, [5, 6, 7, 8], rfl, rfl, 5, [6, 7, 8], rfl, rfl, 6, [7, 8], rfl, rfl, 7, [8], rfl, rfl, 8, [], rfl, rfl, trivial⟩ (by decide) ?_)
  rintro ⟨fuel, v54, v55⟩ H1
  have H1 : l_FnLookCpu_L0 fl x2 fuel v54 v55 = some o0_0 := H1
  rcases fuel with _ | fuel
  ·rw [l_FnLookCpu_L0.eq_1] at H1; cases H1
  rw [l_FnLookCpu_L0.eq_2] at H1
  dsimp only
  obtain ⟨x56, e56, H1⟩ := bS H1
  refine cw_seq (sr (oM rfl (oA 2 Tryd.underlying36 rfl ts34 rfl (oL 3 ts34 rfl (oM rfl ?_)))))
  obtain ⟨u57, p58, n59, c60, p61, n62, c63, hl57, hx57, rfl, rfl, hw57, hr57, hs57⟩ := OwnD.view o14 e56
  refine oD (stp_indexAddr Tryd.underlying34 ts44 (by decide) rfl hl57 rfl (RdC.rdb (id := 2) hw57 rfl) hx57) rfl (oA 1 Tryd.underlying44 rfl ts42 rfl (oD (stp_load1 ts42 rfl (Cells.el (RdC.rdb (id := 2) hw57 rfl) (by decide) hx57 1 1 rfl)) rfl (oD (stp_len Tryd.underlying42 rfl) rfl (oW rfl (nn (cw_cond rfl (fun h64 => ?_) (fun h64 => ?_)))))))
  ·have H1 := cond_t H1 h64
   obtain ⟨y65, ey65, H1⟩ := bS H1
   refine cw_skip (kw_nx (cw_seq (cw_block (cw_join (ι := Unit) (fun | _ => True) (fun | _ => [(3, .pointer (some ⟨b15, 0, none⟩)), (4, .int .i64 x2.2.1), (5, .pointer (some ⟨b16, 0, none⟩)), (6, .pointer (some ⟨b30, 0, none⟩)), (7, .int .i64 x17.2.1), (8, .int .i64 x17.2.2.1), (14, .bool y65), (15, .int .i64 v55)]) (fun | _ => [(0, C6), (1, C10), (2, C14), (3, [(b15, .cells #[.slice p3 ((x2.1.t.b).length) c5, .slice p7 ((x2.1.t.f).length) c9, .slice p11 ((x2.1.c).length) c13] 36 (0, 0))]), (4, [(b16, .cells #[.int .i64 x2.2.2.s, .int .i64 x2.2.2.p] 46 (0, 0))]), (5, C21), (6, C25), (7, C29), (8, [(b30, .cells #[.slice p18 ((x17.1.t.b).length) c20, .slice p22 ((x17.1.t.f).length) c24, .slice p26 ((x17.1.c).length) c28] 36 (0, 0))])]) ?_ ?_))))
   ·rcases Bool.eq_false_or_eq_true v54 with hy65 | hy65
    ·have ey65 := cond_t ey65 hy65
     have qy65 := sI ey65
     refine rdq g_mixed [14] [] { dst := dS [99, 100, 101, 102, 103, 104, 105, 106, 107, 108, 109, 110, 111, 112, 113, 15], pre := gA [] [[], [0], [0, 1], [0, 1, 2], [0, 1], rn 0 5, rn 0 6, rn 0 7, [0, 1], rn 0 9, rn 0 10, rn 0 11, [0, 1], rn 0 13, rn 0 14, rn 0 15], ids := fun _ => [], rs := rL [[(14, 0)], [(98, 1)], [(99, 2)], [(99, 2)], [(99, 2)], [(99, 2)], [(99, 2)], [(99, 2)], [(99, 2)], [(99, 2)], [(99, 2)], [(99, 2)], [(99, 2)], [(99, 2)], [(99, 2), (111, 14)], [(112, 15)]], rh := fun _ => [], V := fun i g => gA undef [.bool v54, .bool v54, undef, undef, undef, undef, undef, undef, undef, undef, undef, undef, undef, undef, .bool y65, .bool y65] i, U := fun _ _ => [], Φ := fun _ _ => True } ?_ ?_
     ·exact ⟨lM, lM, lo rfl rfl 99 hy65, lo rfl rfl 99 hy65, lo rfl rfl 99 hy65, lo rfl rfl 99 hy65, lo rfl rfl 99 hy65, lo rfl rfl 99 hy65, lo rfl rfl 99 hy65, lo rfl rfl 99 hy65, lo rfl rfl 99 hy65, lo rfl rfl 99 hy65, lo rfl rfl 99 hy65, lo rfl rfl 99 hy65, lc rfl rfl fun hs hh => stp_pick_tB (sv hs 99 rfl) hy65 rfl qy65, lS, trivial⟩
     intro g hΦ
     exact kw_join () trivial ⟨rfl, rfl, rfl, rfl, rfl, rfl, rfl, rfl, trivial⟩ ⟨rfl, rfl, rfl, rfl, rfl, rfl, rfl, rfl, rfl, trivial⟩
    have ey65 := cond_f ey65 hy65
    obtain ⟨x66, e66, ey65⟩ := bS ey65
    have qy65 := sI ey65
    refine rdq g_mixed [3, 4, 5, 14, 15] [2, 3, 4] { dst := dS [99, 100, 101, 102, 103, 104, 105, 106, 107, 108, 109, 110, 111, 112, 113, 15], pre := gA [] [[], [0], [0, 1], [0, 1, 2], [0, 1], rn 0 5, rn 0 6, rn 0 7, [0, 1], rn 0 9, rn 0 10, rn 0 11, [0, 1], rn 0 13, rn 0 14, rn 0 15], ids := fun _ => [], rs := rL [[(14, 0)], [(98, 1)], [(3, 0), (99, 2)], [(100, 3), (99, 2)], [(4, 0), (99, 2)], [(101, 4), (102, 5), (99, 2)], [(103, 6), (99, 2)], [(104, 7), (99, 2)], [(15, 0), (99, 2)], [(105, 8), (106, 9), (99, 2)], [(107, 10), (99, 2)], [(108, 11), (99, 2)], [(5, 0), (99, 2)], [(109, 12), (110, 13), (99, 2)], [(99, 2), (111, 14)], [(112, 15)]], rh := rL [[], [], [], [(3, 0)], [], [(2, 0)], [], [(2, 0)], [], [(2, 0)], [], [(2, 0)], [(4, 0)]], V := fun i g => gA undef [.bool v54, .bool v54, .pointer (some ⟨b15, 2, none⟩), .slice p11 ((x2.1.c).length) c13, .int .i64 x2.2.1, .pointer (some ⟨eB p11, eO p11 + Int.toNat x2.2.1 * Enc.sz CpS + 0, none⟩), .pointer (some ⟨eB p11, eO p11 + Int.toNat x2.2.1 * Enc.sz CpS + 1, none⟩), .slice p61 ((x56.w).length) c63, .int .i64 v55, .pointer (some ⟨eB p61, eO p61 + Int.toNat v55 * Enc.sz Nt + 0, none⟩), .pointer (some ⟨eB p61, eO p61 + Int.toNat v55 * Enc.sz Nt + 0, none⟩), .agg #[.int .i64 x66.k.s, .int .i64 x66.k.p], .agg #[.int .i64 x2.2.2.s, .int .i64 x2.2.2.p], .bool (x66.k == x2.2.2), .bool y65, .bool y65] i, U := fun _ _ => [], Φ := fun _ _ => True } ?_ ?_
    ·exact ⟨lM, lM, lg rfl rfl 99 hy65 fun hs hh => stp_fieldAddr (j := 2) Tryd.underlying36 rfl ts34 rfl (sv hs 3 rfl) rfl, lg rfl rfl 99 hy65 fun hs hh => stp_load1 ts34 (sv hs 100 rfl) (Cells.box (id := 3) (hh.get 3 _ rfl) 1 rfl), lg rfl rfl 99 hy65 fun hs hh => stp_move (sv hs 4 rfl), lg rfl rfl 99 hy65 fun hs hh => stp_indexAddr Tryd.underlying34 ts44 (by decide) (sv hs 101 rfl) hl57 (sv hs 102 rfl) (RdC.rdb (id := 2) hw57 (hh.get 2 _ rfl)) hx57, lg rfl rfl 99 hy65 fun hs hh => stp_fieldAddr (j := 1) Tryd.underlying44 rfl ts42 rfl (sv hs 103 rfl) rfl, lg rfl rfl 99 hy65 fun hs hh => stp_load1 ts42 (sv hs 104 rfl) (Cells.el (RdC.rdb (id := 2) hw57 (hh.get 2 _ rfl)) (by decide) hx57 1 1 rfl), lg rfl rfl 99 hy65 fun hs hh => stp_move (sv hs 15 rfl), lg rfl rfl 99 hy65 fun hs hh => stp_indexAddr Tryd.underlying42 ts48 (by decide) (sv hs 105 rfl) rfl (sv hs 106 rfl) (RdC.rdb (id := 2) hs57 (hh.get 2 _ rfl)) e66, lg rfl rfl 99 hy65 fun hs hh => stp_fieldAddr (j := 0) Tryd.underlying48 rfl ts46 rfl (sv hs 107 rfl) rfl, lg rfl rfl 99 hy65 fun hs hh => stp_loadN (us := [_, _]) ts46 (sv hs 108 rfl) (Cells.el (RdC.rdb (id := 2) hs57 (hh.get 2 _ rfl)) (by decide) e66 0 2 rfl), lg rfl rfl 99 hy65 fun hs hh => stp_loadN (us := [_, _]) ts46 (sv hs 5 rfl) (Cells.box (id := 4) (hh.get 4 _ rfl) 2 rfl), lg rfl rfl 99 hy65 fun hs hh => stp_eqlS te46 x66.k x2.2.2 (sv hs 109 rfl) (sv hs 110 rfl), lc rfl rfl fun hs hh => stp_pick_fB (sv hs 99 rfl) hy65 (sv hs 111 rfl) qy65, lS, trivial⟩
    intro g hΦ
    exact kw_join () trivial ⟨rfl, rfl, rfl, rfl, rfl, rfl, rfl, rfl, trivial⟩ ⟨rfl, rfl, rfl, rfl, rfl, rfl, rfl, rfl, rfl, trivial⟩
   rintro _ -
   dsimp only
   obtain ⟨x67, e67, H1⟩ := bS H1
   exact kw_bl_normal (kw_nx (cw_region (oM rfl (oP e67 rfl (oS rfl (ow_nil (kw_lqS (js := [0, 1, 2, 3, 4, 5, 6, 7, 8]) (fuel, y65, x67) H1 (Nat.lt_succ_self _) ⟨rfl, rfl, rfl, rfl, rfl, rfl, rfl, rfl, trivial⟩ ⟨0, [1, 2, 3, 4, 5, 6, 7, 8], rfl, rfl, 1, [2, 3, 4, 5, 6, 7, 8], rfl, rfl, 2, [3, 4, 5, 6, 7, 8], rfl, rfl, 3, [4, 5, 6, 7, 8], rfl, rfl, 4, [5, 6, 7, 8], rfl, rfl, 5, [6, 7, 8], rfl, rfl, 6, [7, 8], rfl, rfl, 7, [8], rfl, rfl, 8, [], rfl, rfl, trivial⟩ (by decide))))))))
  have H1 := cond_f H1 h64
  refine cw_exit (kw_nx_exit (kw_lq_exit (kw_bl ?_)))
  obtain rfl := sI H1
  exact kw_joinS (js := [0, 1, 2, 3, 4, 5, 6, 7, 8]) (v54, v55) rfl ⟨rfl, rfl, rfl, rfl, rfl, rfl, rfl, rfl, trivial⟩ ⟨0, [1, 2, 3, 4, 5, 6, 7, 8], rfl, rfl, 1, [2, 3, 4, 5, 6, 7, 8], rfl, rfl, 2, [3, 4, 5, 6, 7, 8], rfl, rfl, 3, [4, 5, 6, 7, 8], rfl, rfl, 4, [5, 6, 7, 8], rfl, rfl, 5, [6, 7, 8], rfl, rfl, 6, [7, 8], rfl, rfl, 7, [8], rfl, rfl, 8, [], rfl, rfl, trivial⟩ (by decide)
 rintro ⟨v54, v55⟩ rfl
 dsimp only
 obtain ⟨x68, e68, H0⟩ := bS H0
 refine kw_nx (sr (oA 0 Tryd.underlying36 rfl ts33 rfl (oB2 3 ts33 rfl (oB2 4 ts46 rfl (oE (stpU_call (fun i => 13 + i) cf21 (fun w hw => c_i_FindPage fl w x2.1.t x2.2.2 rfl (OwnC.pass (id := 0) rfl o6 hw) rfl (OwnC.pass (id := 1) rfl o10 hw) (RO.pass hg hw) x68 e68) (yB rfl rfl)) rfl ?_)))))
 rintro _ _ ⟨_, ⟨rfl, rfl⟩, rfl⟩
 refine oM rfl (oT rfl (oT rfl (oT rfl (oS rfl (oS rfl (oS rfl (nn (cw_seq (sr (oM rfl (nn (cw_cond rfl (fun h69 => ?_) (fun h69 => ?_)))))))))))))
 ·have H0 := cond_t H0 h69
  obtain ⟨x70, e70, H0⟩ := bS H0
  refine sr (oB3 8 ts36 rfl (oE (stpU_call (fun i => 13 + i) cf18 (fun w hw => c_i_SystemValid fl w x17.1 rfl (OwnC.pass (id := 5) rfl o21 hw) rfl (OwnC.pass (id := 6) rfl o25 hw) rfl (OwnD.pass (id := 7) rfl o29 hw) (RO.pass hg hw) x70 e70) (yA rfl)) rfl ?_))
  rintro _ _ ⟨_, ⟨rfl, rfl⟩, rfl⟩
  obtain ⟨y71, ey71, H0⟩ := bS H0
  refine oM rfl (ow_cutY 3 127 y71 ?_ ?_)
  ·rcases Bool.eq_false_or_eq_true x70 with hy71 | hy71
   ·have ey71 := cond_t ey71 hy71
    refine oG rfl hy71 (mv rfl) rfl (oG rfl hy71 (stp_eql rfl rfl) rfl (oD (stp_pick_t rfl hy71 rfl) rfl ?_))
    obtain rfl := sI ey71
    exact ow_nil (jy 3 0)
   have ey71 := cond_f ey71 hy71
   refine oO rfl hy71 rfl (oO rfl hy71 rfl (oD (stp_pick_f rfl hy71 rfl) rfl ?_))
   obtain rfl := sI ey71
   exact ow_nil (jy 3 0)
  obtain ⟨y72, ey72, H0⟩ := bS H0
  refine oM rfl (ow_cutY 3 131 y72 ?_ ?_)
  ·rcases Bool.eq_false_or_eq_true y71 with hy72 | hy72
   ·have ey72 := cond_t ey72 hy72
    refine oG rfl hy72 (mv rfl) rfl (oG rfl hy72 (stp_not rfl) rfl (oD (stp_pick_t rfl hy72 rfl) rfl ?_))
    obtain rfl := sI ey72
    exact ow_nil (jy 3 0)
   have ey72 := cond_f ey72 hy72
   refine oO rfl hy72 rfl (oO rfl hy72 rfl (oD (stp_pick_f rfl hy72 rfl) rfl ?_))
   obtain rfl := sI ey72
   exact ow_nil (jy 3 0)
  refine oS rfl (nn (cw_ret (kw_nx_ret ?_)))
  obtain rfl := sI H0
  exact kr Tryd.results9 (rT rfl) [] ⟨rfl, rfl⟩
 have H0 := cond_f H0 h69
 obtain ⟨x73, e73, H0⟩ := bS H0
 refine cw_skip (kw_nx (sr (oB3 8 ts36 rfl (oE (stpU_call (fun i => 13 + i) cf18 (fun w hw => c_i_SystemValid fl w x17.1 rfl (OwnC.pass (id := 5) rfl o21 hw) rfl (OwnC.pass (id := 6) rfl o25 hw) rfl (OwnD.pass (id := 7) rfl o29 hw) (RO.pass hg hw) x73 e73) (yA rfl)) rfl ?_))))
 rintro _ _ ⟨_, ⟨rfl, rfl⟩, rfl⟩
 obtain ⟨y74, ey74, H0⟩ := bS H0
 refine oM rfl (ow_cutY 5 139 y74 ?_ ?_)
 ·rcases Bool.eq_false_or_eq_true x73 with hy74 | hy74
  ·have ey74 := cond_t ey74 hy74
   refine oG rfl hy74 (mv rfl) rfl (oG rfl hy74 (mv rfl) rfl (oG rfl hy74 (stp_neq rfl rfl) rfl (oG rfl hy74 (stp_eqlB Tryd.underlying4 rfl rfl) rfl (oD (stp_pick_t rfl hy74 rfl) rfl ?_))))
   obtain rfl := sI ey74
   exact ow_nil (jy 5 0)
  have ey74 := cond_f ey74 hy74
  refine oO rfl hy74 rfl (oO rfl hy74 rfl (oO rfl hy74 rfl (oO rfl hy74 rfl (oD (stp_pick_f rfl hy74 rfl) rfl ?_))))
  obtain rfl := sI ey74
  exact ow_nil (jy 5 0)
 obtain ⟨y75, ey75, H0⟩ := bS H0
 refine oM rfl (ow_cutY 8 148 y75 ?_ ?_)
 ·rcases Bool.eq_false_or_eq_true y74 with hy75 | hy75
  ·have ey75 := cond_t ey75 hy75
   obtain ⟨y76, ey76, ey75⟩ := bS ey75
   refine oG rfl hy75 (mv rfl) rfl (oG rfl hy75 (stp_not rfl) rfl (oG rfl hy75 (mv rfl) rfl (ow_cutY 4 147 y76 ?_ ?_)))
   ·rcases Bool.eq_false_or_eq_true (!x68.2.2) with hy76 | hy76
    ·have ey76 := cond_t ey76 hy76
     refine oO rfl hy76 rfl (oO rfl hy76 rfl (oO rfl hy76 rfl (oG rfl hy75 (stp_pick_t rfl hy76 rfl) rfl ?_)))
     obtain rfl := sI ey76
     exact ow_nil (jy 4 0)
    have ey76 := cond_f ey76 hy76
    refine oG rfl hy76 (mv rfl) rfl (oG rfl hy76 (mv rfl) rfl (oG rfl hy76 (stp_eql rfl rfl) rfl (oG rfl hy75 (stp_pick_f rfl hy76 rfl) rfl ?_)))
    obtain rfl := sI ey76
    exact ow_nil (jy 4 0)
   refine oD (stp_pick_t rfl hy75 rfl) rfl ?_
   obtain rfl := sI ey75
   exact ow_nil (jy 5 0)
  have ey75 := cond_f ey75 hy75
  refine oO rfl hy75 rfl (oO rfl hy75 rfl (oO rfl hy75 rfl (oX rfl rfl rfl (oX rfl rfl rfl (oX rfl rfl rfl (oO rfl hy75 rfl (oD (stp_pick_f rfl hy75 rfl) rfl ?_)))))))
  obtain rfl := sI ey75
  exact ow_nil (jy 8 0)
 refine oS rfl (nn (cw_ret ?_))
 obtain rfl := sI H0
 exact kr Tryd.results9 (rT rfl) [] ⟨rfl, rfl⟩
end Go.Proofs.YtfnliecmagnkdaaDoor
