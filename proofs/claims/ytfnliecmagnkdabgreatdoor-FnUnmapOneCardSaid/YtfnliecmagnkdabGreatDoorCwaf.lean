/- The walks: functions of the program return what their pure functions say. Printed by a program (gen.py). -/
import Derived.Test.YtfnliecmagnkdabGreatDoorCp
import Derived.Test.YtfnliecmagnkdabGreatDoorCt
import Derived.Test.YtfnliecmagnkdabGreatDoorMan
import Derived.Test.YtfnliecmagnkdabGreatDoorMap
import Derived.Test.YtfnliecmagnkdabGreatDoorCpy
import Derived.Test.YtfnliecmagnkdabGreatDoorClr
import Derived.Test.YtfnliecmagnkdabGreatDoorDp
import Derived.Test.YtfnliecmagnkdabGreatDoorSrt
import Derived.Test.YtfnliecmagnkdabGreatDoorE8
import Derived.Test.YtfnliecmagnkdabGreatDoorCwab
import Derived.Test.YtfnliecmagnkdabGreatDoorCwac
import Derived.Test.YtfnliecmagnkdabGreatDoorCwae
set_option linter.unusedSimpArgs false
set_option linter.unusedVariables false
set_option linter.unusedSectionVars false
namespace Go.Proofs.YtfnliecmagnkdabGreatDoor
open Go.RowKit
set_option maxHeartbeats 4000000
set_option maxRecDepth 20000
variable {p0_0 p1_0 : Option Addr} {n0_0 n1_0 : Nat} {c0_0 c1_0 : Nat}
theorem c_l_ipInts (fl : Nat) (w : World) (a0 : (List Int)) (a1 : (List Int)) (hn0_0 : n0_0 = (a0).length) (hr0_0 : RO w (hkeys []) (RdL p0_0 c0_0 a0)) (hn1_0 : n1_0 = (a1).length) (hr1_0 : RO w (hkeys []) (RdL p1_0 c1_0 a1)) (r : Bool) (H0 : l_ipInts fl a0 a1 = some r) :
  Ct Tryz.prog 19 [.slice p0_0 n0_0 c0_0, .slice p1_0 n1_0 c1_0] w [] (fun rv h' => rv = .bool r ∧ h' = []) := by
 subst hn0_0 hn1_0
 unfold l_ipInts at H0
 refine ct_of_cw Tryz.func19 rfl Tryz.ntmps19 rfl (Sat.refl _ _) ?_
 refine sr (oS rfl (nn (cw_seq (sr (oM rfl (oD (stp_len Tryz.underlying23 rfl) rfl (oM rfl (oD (stp_len Tryz.underlying23 rfl) rfl (oU rfl (nn (cw_cond rfl (fun h1 => ?_) (fun h1 => ?_))))))))))))
 ·have H0 := cond_t H0 h1
  refine sr (oS rfl (nn (cw_ret (kw_nx_ret ?_))))
  obtain rfl := sI H0
  exact kr Tryz.results19 (rT rfl) [] ⟨rfl, rfl⟩
 have H0 := cond_f H0 h1
 obtain ⟨o0_0, eo0_0, H0⟩ := bS H0
 refine cw_skip (kw_nx (cw_seq (sr (oS rfl (nn (cw_join (ι := Int) (fun | v2 => o0_0 = .out v2) (fun | v2 => [(0, .slice p0_0 ((a0).length) c0_0), (1, .slice p1_0 ((a1).length) c1_0), (5, .int .i64 v2)]) (fun | v2 => []) ?_ ?_))))))
 ·refine cw_block (cw_loopS (ι := Nat × Int) (js := []) (fun x => x.1) (fun | (fuel, v2) => l_ipInts_L0 fl a0 a1 fuel v2 = some o0_0) (fun | (_, v2) => [(0, .slice p0_0 ((a0).length) c0_0), (1, .slice p1_0 ((a1).length) c1_0), (5, .int .i64 v2)]) (fun | (_, v2) => []) (fl, 0) eo0_0 ⟨rfl, rfl, rfl, trivial⟩ trivial (by decide) ?_)
  rintro ⟨fuel, v2⟩ H1
  have H1 : l_ipInts_L0 fl a0 a1 fuel v2 = some o0_0 := H1
  rcases fuel with _ | fuel
  ·rw [l_ipInts_L0.eq_1] at H1; cases H1
  rw [l_ipInts_L0.eq_2] at H1
  dsimp only
  refine cw_seq (sr (oM rfl (oM rfl (oD (stp_len Tryz.underlying23 rfl) rfl (oW rfl (nn (cw_cond rfl (fun h3 => ?_) (fun h3 => ?_))))))))
  ·have H1 := cond_t H1 h3
   obtain ⟨x4, e4, H1⟩ := bS H1
   obtain ⟨x5, e5, H1⟩ := bS H1
   refine cw_skip (kw_nx (cw_seq (cw_block (cw_seq (rdq g_mixed [0, 1, 5] [] { dst := dS [18, 19, 20, 21, 22, 23, 24, 25, 26], pre := gA [] [[], [], [0, 1], [0, 1, 2], [], [], [4, 5], [4, 5, 6], rn 0 8], ids := fun _ => [], rs := rL [[(0, 0)], [(5, 0)], [(17, 1), (18, 2)], [(19, 3)], [(1, 0)], [(5, 0)], [(21, 5), (22, 6)], [(23, 7)], [(20, 4), (24, 8)]], rh := fun _ => [], V := fun i g => gA undef [.slice p0_0 ((a0).length) c0_0, .int .i64 v2, .pointer (some ⟨eB p0_0, eO p0_0 + Int.toNat v2 * Enc.sz Int + 0, none⟩), .int .i64 x4, .slice p1_0 ((a1).length) c1_0, .int .i64 v2, .pointer (some ⟨eB p1_0, eO p1_0 + Int.toNat v2 * Enc.sz Int + 0, none⟩), .int .i64 x5, .bool (x4 != x5)] i, U := fun _ _ => [], Φ := fun _ _ => True } ?_ ?_)))))
   ·exact ⟨lM, lM, lc rfl rfl fun hs hh => stp_indexAddr Tryz.underlying23 ts3 (by decide) (sv hs 17 rfl) rfl (sv hs 18 rfl) (Rdb.ro hr0_0) e4, lc rfl rfl fun hs hh => stp_load1 ts3 (sv hs 19 rfl) (Cells.el (Rdb.ro hr0_0) (by decide) e4 0 1 rfl), lM, lM, lc rfl rfl fun hs hh => stp_indexAddr Tryz.underlying23 ts3 (by decide) (sv hs 21 rfl) rfl (sv hs 22 rfl) (Rdb.ro hr1_0) e5, lc rfl rfl fun hs hh => stp_load1 ts3 (sv hs 23 rfl) (Cells.el (Rdb.ro hr1_0) (by decide) e5 0 1 rfl), lc rfl rfl fun hs hh => stp_neq (sv hs 20 rfl) (sv hs 24 rfl), trivial⟩
   intro g hΦ
   refine KW.sub (s' := [(0, .slice p0_0 ((a0).length) c0_0), (1, .slice p1_0 ((a1).length) c1_0), (5, .int .i64 v2), (25, .bool (x4 != x5))]) (h' := []) ?_ ⟨rfl, rfl, rfl, rfl, trivial⟩ trivial
   refine kw_nx (cw_cond rfl (fun h6 => ?_) (fun h6 => ?_))
   ·have H1 := cond_t H1 h6
    refine sr (oS rfl (nn (cw_ret (kw_bl_ret (kw_nx_ret (kw_lq_ret (kw_bl_ret (kw_join_ret (kw_nx_ret ?_)))))))))
    obtain rfl := sI H1
    obtain rfl := sI H0
    exact kr Tryz.results19 (rT rfl) [] ⟨rfl, rfl⟩
   have H1 := cond_f H1 h6
   obtain ⟨x7, e7, H1⟩ := bS H1
   exact cw_skip (kw_bl_normal (kw_nx (cw_region (oM rfl (oP e7 rfl (oS rfl (ow_nil (kw_lqS (js := []) (fuel, x7) H1 (Nat.lt_succ_self _) ⟨rfl, rfl, rfl, trivial⟩ trivial (by decide)))))))))
  have H1 := cond_f H1 h3
  refine cw_exit (kw_nx_exit (kw_lq_exit (kw_bl ?_)))
  obtain rfl := sI H1
  exact kw_joinS (js := []) v2 rfl ⟨rfl, rfl, rfl, trivial⟩ trivial (by decide)
 rintro v2 rfl
 dsimp only
 refine kw_nx (sr (oS rfl (nn (cw_ret ?_))))
 obtain rfl := sI H0
 exact kr Tryz.results19 (rT rfl) [] ⟨rfl, rfl⟩

theorem c_l_FnUnmapOne (fl : Nat) (w : World) (a0 : (List UInt8)) (hn0_0 : n0_0 = (a0).length) (hr0_0 : RO w (hkeys []) (RdL p0_0 c0_0 a0)) (hg : RO w (hkeys []) (fun w' => w'.rangeAt 0 0 [.bool false, .int .i64 0, .int .i64 0, .int .i64 0, .int .i64 (-1)])) (r : Bool) (H0 : l_FnUnmapOne fl a0 = some r) :
  Ct Tryz.prog 5 [.slice p0_0 n0_0 c0_0] w [] (fun rv h' => rv = .bool r ∧ h' = []) := by
 subst hn0_0
 unfold l_FnUnmapOne at H0
 refine ct_of_cw Tryz.func5 rfl Tryz.ntmps5 rfl (Sat.refl _ _) ?_
 refine sr (oS rfl (nn (cw_seq (sr (oM rfl (oD (stp_len Tryz.underlying22 rfl) rfl (oJ rfl (nn (cw_cond rfl (fun h1 => ?_) (fun h1 => ?_))))))))))
 ·have H0 := cond_t H0 h1
  refine sr (oS rfl (nn (cw_ret (kw_nx_ret ?_))))
  obtain rfl := sI H0
  exact kr Tryz.results5 (rT rfl) [] ⟨rfl, rfl⟩
 have H0 := cond_f H0 h1
 obtain ⟨x2, e2, H0⟩ := bS H0
 refine cw_skip (kw_nx (sr (oM rfl (oE (stpU_call (fun i => 0 + i) cf16 (fun w hw => c_s_DrawUnmapSystem fl w a0 rfl (RO.pass hr0_0 hw) x2 e2) (yA rfl)) rfl ?_))))
 rintro _ _ ⟨_, ⟨p3, _, c5, C6, p7, _, c9, C10, p11, _, c13, C14, rfl, rfl, rfl, o6, rfl, o10, rfl, o14⟩, rfl⟩
 refine oM rfl (oT rfl (oT rfl (oT rfl (oE (stpU_alloc 3 tz29 rfl) rfl ?_))))
 rintro _ _ ⟨b15, rfl, rfl⟩
 refine oE (stpU_alloc 4 tz44 rfl) rfl ?_
 rintro _ _ ⟨b16, rfl, rfl⟩
 obtain ⟨x17, e17, H0⟩ := bS H0
 refine oC3 3 ts29 rfl rfl (oS rfl (oC2 4 ts44 rfl rfl (nn (sr (oB3 3 ts29 rfl (oM rfl (oB2 4 ts44 rfl (oE (stpU_call (fun i => 5 + i) cf17 (fun w hw => c_i_UnmapSystem fl w x2.1 x2.2.1 x2.2.2 rfl (OwnC.pass (id := 0) rfl o6 hw) rfl (OwnC.pass (id := 1) rfl o10 hw) rfl (OwnD.pass (id := 2) rfl o14 hw) (RO.pass hg hw) x17 e17) (yC rfl rfl rfl)) rfl ?_))))))))
 rintro _ _ ⟨_, ⟨p18, _, c20, C21, p22, _, c24, C25, p26, _, c28, C29, rfl, rfl, rfl, o21, rfl, o25, rfl, o29⟩, rfl⟩
 refine oM rfl (oT rfl (oT rfl (oT rfl (oE (stpU_alloc 8 tz29 rfl) rfl ?_))))
 rintro _ _ ⟨b30, rfl, rfl⟩
 obtain ⟨x31, e31, H0⟩ := bS H0
 refine oC3 8 ts29 rfl rfl (oS rfl (oS rfl (nn (sr (oB3 3 ts29 rfl (oM rfl (oB2 4 ts44 rfl (oE (stpU_call (fun i => 9 + i) cf18 (fun w hw => c_s_UnmapSystem fl w x2.1 x2.2.1 x2.2.2 rfl (OwnC.pass (id := 0) rfl o6 hw) rfl (OwnC.pass (id := 1) rfl o10 hw) rfl (OwnD.pass (id := 2) rfl o14 hw) x31 e31) (yC rfl rfl rfl)) rfl ?_))))))))
 rintro _ _ ⟨_, ⟨p32, _, c34, C35, p36, _, c38, C39, p40, _, c42, C43, rfl, rfl, rfl, o35, rfl, o39, rfl, o43⟩, rfl⟩
 refine oM rfl (oT rfl (oT rfl (oT rfl (oE (stpU_alloc 12 tz29 rfl) rfl ?_))))
 rintro _ _ ⟨b44, rfl, rfl⟩
 obtain ⟨x45, e45, H0⟩ := bS H0
 refine oC3 12 ts29 rfl rfl (oS rfl (oS rfl (nn (cw_seq (sr (oB3 8 ts29 rfl (oB3 12 ts29 rfl (oE (stpU_call (fun i => 13 + i) cf10 (fun w hw => c_i_SystemSame fl w x17.1 x31.1 rfl (OwnC.pass (id := 5) rfl o21 hw) rfl (OwnC.pass (id := 6) rfl o25 hw) rfl (OwnD.pass (id := 7) rfl o29 hw) rfl (OwnC.pass (id := 9) rfl o35 hw) rfl (OwnC.pass (id := 10) rfl o39 hw) rfl (OwnD.pass (id := 11) rfl o43 hw) x45 e45) (yB rfl rfl)) rfl ?_))))))))
 rintro _ _ ⟨_, ⟨rfl, rfl⟩, rfl⟩
 obtain ⟨y46, ey46, H0⟩ := bS H0
 refine oK rfl (oM rfl (ow_cutY 4 48 y46 ?_ ?_))
 ·rcases Bool.eq_false_or_eq_true (!x45) with hy46 | hy46
  ·have ey46 := cond_t ey46 hy46
   refine oO rfl hy46 rfl (oO rfl hy46 rfl (oO rfl hy46 rfl (oD (stp_pick_t rfl hy46 rfl) rfl ?_)))
   obtain rfl := sI ey46
   exact ow_nil (jy 4 0)
  have ey46 := cond_f ey46 hy46
  refine oG rfl hy46 (mv rfl) rfl (oG rfl hy46 (mv rfl) rfl (oG rfl hy46 (stp_neq rfl rfl) rfl (oD (stp_pick_f rfl hy46 rfl) rfl ?_)))
  obtain rfl := sI ey46
  exact ow_nil (jy 4 0)
 obtain ⟨y47, ey47, H0⟩ := bS H0
 refine oM rfl (ow_cutY 4 53 y47 ?_ ?_)
 ·rcases Bool.eq_false_or_eq_true y46 with hy47 | hy47
  ·have ey47 := cond_t ey47 hy47
   refine oO rfl hy47 rfl (oO rfl hy47 rfl (oO rfl hy47 rfl (oD (stp_pick_t rfl hy47 rfl) rfl ?_)))
   obtain rfl := sI ey47
   exact ow_nil (jy 4 0)
  have ey47 := cond_f ey47 hy47
  refine oG rfl hy47 (mv rfl) rfl (oG rfl hy47 (mv rfl) rfl (oG rfl hy47 (stp_neqB Tryz.underlying4 rfl rfl) rfl (oD (stp_pick_f rfl hy47 rfl) rfl ?_)))
  obtain rfl := sI ey47
  exact ow_nil (jy 4 0)
 obtain ⟨y48, ey48, H0⟩ := bS H0
 refine oM rfl (ow_cutY 3 57 y48 ?_ ?_)
 ·rcases Bool.eq_false_or_eq_true y47 with hy48 | hy48
  ·have ey48 := cond_t ey48 hy48
   refine oO rfl hy48 rfl (oO rfl hy48 rfl (oD (stp_pick_t rfl hy48 rfl) rfl ?_))
   obtain rfl := sI ey48
   exact ow_nil (jy 3 0)
  have ey48 := cond_f ey48 hy48
  refine oG rfl hy48 (mv rfl) rfl (oG rfl hy48 (stp_not rfl) rfl (oD (stp_pick_f rfl hy48 rfl) rfl ?_))
  obtain rfl := sI ey48
  exact ow_nil (jy 3 0)
 refine ow_nil (kw_nx (cw_cond rfl (fun h49 => ?_) (fun h49 => ?_)))
 ·have H0 := cond_t H0 h49
  refine sr (oB3 8 ts29 rfl (oB3 12 ts29 rfl (oE (stpU_call (fun i => 13 + i) cf10 (fun w hw => c_i_SystemSame fl w x17.1 x31.1 rfl (OwnC.pass (id := 5) rfl o21 hw) rfl (OwnC.pass (id := 6) rfl o25 hw) rfl (OwnD.pass (id := 7) rfl o29 hw) rfl (OwnC.pass (id := 9) rfl o35 hw) rfl (OwnC.pass (id := 10) rfl o39 hw) rfl (OwnD.pass (id := 11) rfl o43 hw) x45 e45) (yB rfl rfl)) rfl ?_)))
  rintro _ _ ⟨_, ⟨rfl, rfl⟩, rfl⟩
  obtain ⟨y50, ey50, H0⟩ := bS H0
  refine oM rfl (ow_cutY 4 65 y50 ?_ ?_)
  ·rcases Bool.eq_false_or_eq_true x45 with hy50 | hy50
   ·have ey50 := cond_t ey50 hy50
    refine oG rfl hy50 (mv rfl) rfl (oG rfl hy50 (mv rfl) rfl (oG rfl hy50 (stp_eql rfl rfl) rfl (oD (stp_pick_t rfl hy50 rfl) rfl ?_)))
    obtain rfl := sI ey50
    exact ow_nil (jy 4 0)
   have ey50 := cond_f ey50 hy50
   refine oO rfl hy50 rfl (oO rfl hy50 rfl (oO rfl hy50 rfl (oD (stp_pick_f rfl hy50 rfl) rfl ?_)))
   obtain rfl := sI ey50
   exact ow_nil (jy 4 0)
  obtain ⟨y51, ey51, H0⟩ := bS H0
  refine oM rfl (ow_cutY 4 70 y51 ?_ ?_)
  ·rcases Bool.eq_false_or_eq_true y50 with hy51 | hy51
   ·have ey51 := cond_t ey51 hy51
    refine oG rfl hy51 (mv rfl) rfl (oG rfl hy51 (mv rfl) rfl (oG rfl hy51 (stp_eqlB Tryz.underlying4 rfl rfl) rfl (oD (stp_pick_t rfl hy51 rfl) rfl ?_)))
    obtain rfl := sI ey51
    exact ow_nil (jy 4 0)
   have ey51 := cond_f ey51 hy51
   refine oO rfl hy51 rfl (oO rfl hy51 rfl (oO rfl hy51 rfl (oD (stp_pick_f rfl hy51 rfl) rfl ?_)))
   obtain rfl := sI ey51
   exact ow_nil (jy 4 0)
  refine oS rfl (nn (cw_ret (kw_nx_ret ?_)))
  obtain rfl := sI H0
  exact kr Tryz.results5 (rT rfl) [] ⟨rfl, rfl⟩
 have H0 := cond_f H0 h49
 refine cw_skip (kw_nx (cw_seq (sr (oA 2 Tryz.underlying29 rfl ts27 rfl (oL 3 ts27 rfl (oD (stp_len Tryz.underlying27 rfl) rfl (oQ rfl (nn (cw_cond rfl (fun h52 => ?_) (fun h52 => ?_))))))))))
 ·have H0 := cond_t H0 h52
  obtain ⟨y53, ey53, H0⟩ := bS H0
  refine cw_seq (cw_join (ι := Unit) (fun | _ => True) (fun | _ => [(2, .bool y53)]) (fun | _ => []) ?_ ?_)
  ·rcases Bool.eq_false_or_eq_true (x17.2.1 == 0) with hy53 | hy53
   ·have ey53 := cond_t ey53 hy53
    obtain ⟨x54, e54, ey53⟩ := bS ey53
    obtain ⟨x59, e59, ey53⟩ := bS ey53
    obtain ⟨x64, e64, ey53⟩ := bS ey53
    have qy53 := sI ey53
    refine rdq g_mixed [3, 6, 7] [0, 1, 2, 3, 5, 6, 7, 8] { dst := dS [76, 77, 78, 79, 80, 81, 82, 83, 84, 3], pre := gA [] [[], [0], [0, 1], [0, 1, 2], rn 0 4, [0, 1, 2], rn 0 6, rn 0 7, rn 0 8, rn 0 9], ids := gA [] [[], [], [], [], [13], [], [14]], rs := rL [[(7, 0)], [(75, 1)], [(76, 2)], [(6, 0), (77, 3)], [(78, 4), (77, 3)], [(3, 0), (77, 3)], [(80, 6), (77, 3)], [(79, 5), (81, 7), (77, 3)], [(77, 3), (82, 8)], [(83, 9)]], rh := rL [[], [], [], [(8, 0)], [(5, 0), (6, 0), (7, 0)], [(3, 0)], [(0, 0), (1, 0), (2, 0)], [(13, 5), (14, 7)]], V := fun i g => gA undef [.int .i64 x17.2.1, .bool (x17.2.1 == 0), .bool (x17.2.1 == 0), .agg #[.slice p18 ((x17.1.t.b).length) c20, .slice p22 ((x17.1.t.f).length) c24, .slice p26 ((x17.1.c).length) c28], .slice ((g 4).A 0) ((x54).length) ((g 4).C 0), .agg #[.slice p3 ((x2.1.t.b).length) c5, .slice p7 ((x2.1.t.f).length) c9, .slice p11 ((x2.1.c).length) c13], .slice ((g 6).A 0) ((x59).length) ((g 6).C 0), .bool x64, .bool y53, .bool y53] i, U := fun i g => gA [] [[], [], [], [], [(13, ((g 4).R 0))], [], [(14, ((g 6).R 0))]] i, Φ := fun i x => match i with | 4 => OwnC 3 (x.A 0) (x.C 0) x54 (x.R 0) | 6 => OwnC 3 (x.A 0) (x.C 0) x59 (x.R 0) | _ => True } ?_ ?_
    ·refine ⟨lM, lc rfl rfl fun hs hh => stp_eql (sv hs 75 rfl) rfl, lM, lg rfl rfl 77 hy53 fun hs hh => stp_loadN (us := [_, _, _]) ts29 (sv hs 6 rfl) (Cells.box (id := 8) (hh.get 8 _ rfl) 3 rfl), ?_, lg rfl rfl 77 hy53 fun hs hh => stp_loadN (us := [_, _, _]) ts29 (sv hs 3 rfl) (Cells.box (id := 3) (hh.get 3 _ rfl) 3 rfl), ?_, ?_, lc rfl rfl fun hs hh => stp_pick_tB (sv hs 77 rfl) hy53 (sv hs 82 rfl) qy53, lS, trivial⟩
     ·refine loc_eff rfl rfl (fun g hΦ s h hs hh => ⟨(.some (gval_of rfl (sv hs 77 rfl)) hy53), (stpU_call (fun i => 13 + i) cf11 (fun w hw => c_i_HeldFrames fl w x17.1 rfl (OwnC.pass (id := 5) (hh.get 5 _ rfl) o21 hw) rfl (OwnC.pass (id := 6) (hh.get 6 _ rfl) o25 hw) rfl (OwnD.pass (id := 7) (hh.get 7 _ rfl) o29 hw) (RO.pass hg hw) x54 e54) (yA (sv hs 78 rfl)))⟩) ?_
      rintro g _ _ ⟨_, ⟨p55, _, c57, C58, rfl, rfl, rfl, o58⟩, rfl⟩
      exact ⟨⟨[p55], [c57], [C58]⟩, o58, .inr rfl, rfl⟩
     ·refine loc_eff rfl rfl (fun g hΦ s h hs hh => ⟨(.some (gval_of rfl (sv hs 77 rfl)) hy53), (stpU_call (fun i => 14 + i) cf11 (fun w hw => c_i_HeldFrames fl w x2.1 rfl (OwnC.pass (id := 0) (hh.get 0 _ rfl) o6 hw) rfl (OwnC.pass (id := 1) (hh.get 1 _ rfl) o10 hw) rfl (OwnD.pass (id := 2) (hh.get 2 _ rfl) o14 hw) (RO.pass hg hw) x59 e59) (yA (sv hs 80 rfl)))⟩) ?_
      rintro g _ _ ⟨_, ⟨p60, _, c62, C63, rfl, rfl, rfl, o63⟩, rfl⟩
      exact ⟨⟨[p60], [c62], [C63]⟩, o63, .inr rfl, rfl⟩
     refine loc_eff rfl rfl (fun g hΦ s h hs hh => ⟨(.some (gval_of rfl (sv hs 77 rfl)) hy53), (stpU_call (fun i => 15 + i) cf19 (fun w hw => c_l_ipInts fl w x54 x59 rfl (OwnC.pass (id := 13) (hh.get 13 _ rfl) (hΦ 4 rfl) hw) rfl (OwnC.pass (id := 14) (hh.get 14 _ rfl) (hΦ 6 rfl) hw) x64 e64) (yB (sv hs 79 rfl) (sv hs 81 rfl)))⟩) ?_
     rintro g _ _ ⟨_, ⟨rfl, rfl⟩, rfl⟩
     exact ⟨⟨[], [], []⟩, trivial, .inr rfl, rfl⟩
    intro g hΦ
    exact kw_join () trivial ⟨rfl, trivial⟩ trivial
   have ey53 := cond_f ey53 hy53
   have qy53 := sI ey53
   refine rdq g_mixed [7] [] { dst := dS [76, 77, 78, 79, 80, 81, 82, 83, 84, 3], pre := gA [] [[], [0], [0, 1], [0, 1, 2], rn 0 4, [0, 1, 2], rn 0 6, rn 0 7, rn 0 8, rn 0 9], ids := fun _ => [], rs := rL [[(7, 0)], [(75, 1)], [(76, 2)], [(77, 3)], [(77, 3)], [(77, 3)], [(77, 3)], [(77, 3)], [(77, 3), (82, 8)], [(83, 9)]], rh := fun _ => [], V := fun i g => gA undef [.int .i64 x17.2.1, .bool (x17.2.1 == 0), .bool (x17.2.1 == 0), undef, undef, undef, undef, undef, .bool y53, .bool y53] i, U := fun _ _ => [], Φ := fun _ _ => True } ?_ ?_
   ·exact ⟨lM, lc rfl rfl fun hs hh => stp_eql (sv hs 75 rfl) rfl, lM, lo rfl rfl 77 hy53, lo rfl rfl 77 hy53, lo rfl rfl 77 hy53, lo rfl rfl 77 hy53, lo rfl rfl 77 hy53, lc rfl rfl fun hs hh => stp_pick_fB (sv hs 77 rfl) hy53 rfl qy53, lS, trivial⟩
   intro g hΦ
   exact kw_join () trivial ⟨rfl, trivial⟩ trivial
  rintro _ -
  dsimp only
  refine kw_nx (cw_ret (kw_nx_ret ?_))
  obtain rfl := sI H0
  exact kr Tryz.results5 (rT rfl) [] ⟨rfl, rfl⟩
 have H0 := cond_f H0 h52
 obtain ⟨o0_0, eo0_0, H0⟩ := bS H0
 refine cw_skip (kw_nx (sr (oS rfl (nn (cw_seq (sr (oS rfl (nn (cw_join (ι := Int × Int) (fun | (v65, v66) => o0_0 = .out (v65, v66)) (fun | (v65, v66) => [(3, .pointer (some ⟨b15, 0, none⟩)), (4, .int .i64 x2.2.1), (5, .pointer (some ⟨b16, 0, none⟩)), (7, .int .i64 x17.2.1), (12, .int .i64 v65), (13, .int .i64 v66)]) (fun | (v65, v66) => [(0, C6), (1, C10), (2, C14), (3, [(b15, .cells #[.slice p3 ((x2.1.t.b).length) c5, .slice p7 ((x2.1.t.f).length) c9, .slice p11 ((x2.1.c).length) c13] 29 (0, 0))]), (4, [(b16, .cells #[.int .i64 x2.2.2.s, .int .i64 x2.2.2.p] 44 (0, 0))])]) ?_ ?_)))))))))
 ·refine cw_block (cw_loopS (ι := Nat × Int × Int) (js := [0, 1, 2, 3, 4]) (fun x => x.1) (fun | (fuel, v65, v66) => l_FnUnmapOne_L0 fl x2 fuel v65 v66 = some o0_0) (fun | (_, v65, v66) => [(3, .pointer (some ⟨b15, 0, none⟩)), (4, .int .i64 x2.2.1), (5, .pointer (some ⟨b16, 0, none⟩)), (7, .int .i64 x17.2.1), (12, .int .i64 v65), (13, .int .i64 v66)]) (fun | (_, v65, v66) => [(0, C6), (1, C10), (2, C14), (3, [(b15, .cells #[.slice p3 ((x2.1.t.b).length) c5, .slice p7 ((x2.1.t.f).length) c9, .slice p11 ((x2.1.c).length) c13] 29 (0, 0))]), (4, [(b16, .cells #[.int .i64 x2.2.2.s, .int .i64 x2.2.2.p] 44 (0, 0))])]) (fl, 0, 0) eo0_0 ⟨rfl, rfl, rfl, rfl, rfl, rfl, trivial⟩ ⟨0, [1, 2, 3, 4], rfl, rfl, 1, [2, 3, 4], rfl, rfl, 2, [3, 4], rfl, rfl, 3, [4], rfl, rfl, 4, [], rfl, rfl, trivial⟩ (by decide) ?_)
  rintro ⟨fuel, v65, v66⟩ H1
  have H1 : l_FnUnmapOne_L0 fl x2 fuel v65 v66 = some o0_0 := H1
  rcases fuel with _ | fuel
  ·rw [l_FnUnmapOne_L0.eq_1] at H1; cases H1
  rw [l_FnUnmapOne_L0.eq_2] at H1
  dsimp only
  refine cw_seq (sr (oM rfl (oA 2 Tryz.underlying29 rfl ts27 rfl (oL 3 ts27 rfl (oD (stp_len Tryz.underlying27 rfl) rfl (oW rfl (nn (cw_cond rfl (fun h67 => ?_) (fun h67 => ?_)))))))))
  ·have H1 := cond_t H1 h67
   obtain ⟨o1_1, eo1_1, H1⟩ := bS H1
   refine cw_skip (kw_nx (cw_seq (cw_block (sr (oS rfl (nn (cw_join (ι := Int × Int) (fun | (v68, v69) => o1_1 = .out (v68, v69)) (fun | (v68, v69) => [(3, .pointer (some ⟨b15, 0, none⟩)), (4, .int .i64 x2.2.1), (5, .pointer (some ⟨b16, 0, none⟩)), (7, .int .i64 x17.2.1), (12, .int .i64 v68), (13, .int .i64 v66), (14, .int .i64 v69)]) (fun | (v68, v69) => [(0, C6), (1, C10), (2, C14), (3, [(b15, .cells #[.slice p3 ((x2.1.t.b).length) c5, .slice p7 ((x2.1.t.f).length) c9, .slice p11 ((x2.1.c).length) c13] 29 (0, 0))]), (4, [(b16, .cells #[.int .i64 x2.2.2.s, .int .i64 x2.2.2.p] 44 (0, 0))])]) ?_ ?_)))))))
   ·refine cw_block (cw_loopS (ι := Nat × Int × Int) (js := [0, 1, 2, 3, 4]) (fun x => x.1) (fun | (fuel, v68, v69) => l_FnUnmapOne_L1 fl x2 v66 fuel v68 v69 = some o1_1) (fun | (_, v68, v69) => [(3, .pointer (some ⟨b15, 0, none⟩)), (4, .int .i64 x2.2.1), (5, .pointer (some ⟨b16, 0, none⟩)), (7, .int .i64 x17.2.1), (12, .int .i64 v68), (13, .int .i64 v66), (14, .int .i64 v69)]) (fun | (_, v68, v69) => [(0, C6), (1, C10), (2, C14), (3, [(b15, .cells #[.slice p3 ((x2.1.t.b).length) c5, .slice p7 ((x2.1.t.f).length) c9, .slice p11 ((x2.1.c).length) c13] 29 (0, 0))]), (4, [(b16, .cells #[.int .i64 x2.2.2.s, .int .i64 x2.2.2.p] 44 (0, 0))])]) (fl, v65, 0) eo1_1 ⟨rfl, rfl, rfl, rfl, rfl, rfl, rfl, trivial⟩ ⟨0, [1, 2, 3, 4], rfl, rfl, 1, [2, 3, 4], rfl, rfl, 2, [3, 4], rfl, rfl, 3, [4], rfl, rfl, 4, [], rfl, rfl, trivial⟩ (by decide) ?_)
    rintro ⟨fuel, v68, v69⟩ H2
    have H2 : l_FnUnmapOne_L1 fl x2 v66 fuel v68 v69 = some o1_1 := H2
    rcases fuel with _ | fuel
    ·rw [l_FnUnmapOne_L1.eq_1] at H2; cases H2
    rw [l_FnUnmapOne_L1.eq_2] at H2
    dsimp only
    obtain ⟨x70, e70, H2⟩ := bS H2
    refine cw_seq (sr (oM rfl (oA 2 Tryz.underlying29 rfl ts27 rfl (oL 3 ts27 rfl (oM rfl ?_)))))
    obtain ⟨u71, p72, n73, c74, p75, n76, c77, hl71, hx71, rfl, rfl, hw71, hr71, hs71⟩ := OwnD.view o14 e70
    refine oD (stp_indexAddr Tryz.underlying27 ts37 (by decide) rfl hl71 rfl (RdC.rdb (id := 2) hw71 rfl) hx71) rfl (oA 0 Tryz.underlying37 rfl ts35 rfl (oD (stp_load1 ts35 rfl (Cells.el (RdC.rdb (id := 2) hw71 rfl) (by decide) hx71 0 1 rfl)) rfl (oD (stp_len Tryz.underlying35 rfl) rfl (oW rfl (nn (cw_cond rfl (fun h78 => ?_) (fun h78 => ?_)))))))
    ·have H2 := cond_t H2 h78
     obtain ⟨y79, ey79, H2⟩ := bS H2
     refine cw_skip (kw_nx (cw_seq (cw_block (cw_seq (cw_join (ι := Unit) (fun | _ => True) (fun | _ => [(3, .pointer (some ⟨b15, 0, none⟩)), (4, .int .i64 x2.2.1), (5, .pointer (some ⟨b16, 0, none⟩)), (7, .int .i64 x17.2.1), (12, .int .i64 v68), (13, .int .i64 v66), (14, .int .i64 v69), (118, .bool y79)]) (fun | _ => [(0, C6), (1, C10), (2, C14), (3, [(b15, .cells #[.slice p3 ((x2.1.t.b).length) c5, .slice p7 ((x2.1.t.f).length) c9, .slice p11 ((x2.1.c).length) c13] 29 (0, 0))]), (4, [(b16, .cells #[.int .i64 x2.2.2.s, .int .i64 x2.2.2.p] 44 (0, 0))])]) ?_ ?_)))))
     ·rcases Bool.eq_false_or_eq_true (v66 != x2.2.1) with hy79 | hy79
      ·have ey79 := cond_t ey79 hy79
       obtain ⟨x80, e80, ey79⟩ := bS ey79
       have qy79 := sI ey79
       refine rdq g_mixed [3, 4, 5, 13, 14] [2, 3, 4] { dst := dS [103, 104, 105, 106, 107, 108, 109, 110, 111, 112, 113, 114, 115, 116, 117, 118, 119], pre := gA [] [[], [], [0, 1], [0, 1, 2], rn 0 4, rn 0 5, rn 0 4, rn 0 7, rn 0 8, rn 0 9, rn 0 4, rn 0 11, rn 0 12, rn 0 13, rn 0 4, rn 0 15, rn 0 16], ids := fun _ => [], rs := rL [[(13, 0)], [(4, 0)], [(102, 1), (103, 2)], [(104, 3)], [(3, 0), (105, 4)], [(106, 5), (105, 4)], [(13, 0), (105, 4)], [(107, 6), (108, 7), (105, 4)], [(109, 8), (105, 4)], [(110, 9), (105, 4)], [(14, 0), (105, 4)], [(111, 10), (112, 11), (105, 4)], [(113, 12), (105, 4)], [(114, 13), (105, 4)], [(5, 0), (105, 4)], [(115, 14), (116, 15), (105, 4)], [(105, 4), (117, 16)]], rh := rL [[], [], [], [], [], [(3, 0)], [], [(2, 0)], [], [(2, 0)], [], [(2, 0)], [], [(2, 0)], [(4, 0)]], V := fun i g => gA undef [.int .i64 v66, .int .i64 x2.2.1, .bool (v66 != x2.2.1), .bool (v66 != x2.2.1), .pointer (some ⟨b15, 2, none⟩), .slice p11 ((x2.1.c).length) c13, .int .i64 v66, .pointer (some ⟨eB p11, eO p11 + Int.toNat v66 * Enc.sz CpS + 0, none⟩), .pointer (some ⟨eB p11, eO p11 + Int.toNat v66 * Enc.sz CpS + 0, none⟩), .slice p72 ((x70.n).length) c74, .int .i64 v69, .pointer (some ⟨eB p72, eO p72 + Int.toNat v69 * Enc.sz Nt + 0, none⟩), .pointer (some ⟨eB p72, eO p72 + Int.toNat v69 * Enc.sz Nt + 0, none⟩), .agg #[.int .i64 x80.k.s, .int .i64 x80.k.p], .agg #[.int .i64 x2.2.2.s, .int .i64 x2.2.2.p], .bool (x80.k == x2.2.2), .bool y79] i, U := fun _ _ => [], Φ := fun _ _ => True } ?_ ?_
       ·exact ⟨lM, lM, lc rfl rfl fun hs hh => stp_neq (sv hs 102 rfl) (sv hs 103 rfl), lM, lg rfl rfl 105 hy79 fun hs hh => stp_fieldAddr (j := 2) Tryz.underlying29 rfl ts27 rfl (sv hs 3 rfl) rfl, lg rfl rfl 105 hy79 fun hs hh => stp_load1 ts27 (sv hs 106 rfl) (Cells.box (id := 3) (hh.get 3 _ rfl) 1 rfl), lg rfl rfl 105 hy79 fun hs hh => stp_move (sv hs 13 rfl), lg rfl rfl 105 hy79 fun hs hh => stp_indexAddr Tryz.underlying27 ts37 (by decide) (sv hs 107 rfl) hl71 (sv hs 108 rfl) (RdC.rdb (id := 2) hw71 (hh.get 2 _ rfl)) hx71, lg rfl rfl 105 hy79 fun hs hh => stp_fieldAddr (j := 0) Tryz.underlying37 rfl ts35 rfl (sv hs 109 rfl) rfl, lg rfl rfl 105 hy79 fun hs hh => stp_load1 ts35 (sv hs 110 rfl) (Cells.el (RdC.rdb (id := 2) hw71 (hh.get 2 _ rfl)) (by decide) hx71 0 1 rfl), lg rfl rfl 105 hy79 fun hs hh => stp_move (sv hs 14 rfl), lg rfl rfl 105 hy79 fun hs hh => stp_indexAddr Tryz.underlying35 ts51 (by decide) (sv hs 111 rfl) rfl (sv hs 112 rfl) (RdC.rdb (id := 2) hr71 (hh.get 2 _ rfl)) e80, lg rfl rfl 105 hy79 fun hs hh => stp_fieldAddr (j := 0) Tryz.underlying51 rfl ts44 rfl (sv hs 113 rfl) rfl, lg rfl rfl 105 hy79 fun hs hh => stp_loadN (us := [_, _]) ts44 (sv hs 114 rfl) (Cells.el (RdC.rdb (id := 2) hr71 (hh.get 2 _ rfl)) (by decide) e80 0 2 rfl), lg rfl rfl 105 hy79 fun hs hh => stp_loadN (us := [_, _]) ts44 (sv hs 5 rfl) (Cells.box (id := 4) (hh.get 4 _ rfl) 2 rfl), lg rfl rfl 105 hy79 fun hs hh => stp_eqlS te44 x80.k x2.2.2 (sv hs 115 rfl) (sv hs 116 rfl), lc rfl rfl fun hs hh => stp_pick_tB (sv hs 105 rfl) hy79 (sv hs 117 rfl) qy79, trivial⟩
       intro g hΦ
       exact kw_join () trivial ⟨rfl, rfl, rfl, rfl, rfl, rfl, rfl, rfl, trivial⟩ ⟨rfl, rfl, rfl, rfl, rfl, trivial⟩
      have ey79 := cond_f ey79 hy79
      have qy79 := sI ey79
      refine rdq g_mixed [4, 13] [] { dst := dS [103, 104, 105, 106, 107, 108, 109, 110, 111, 112, 113, 114, 115, 116, 117, 118, 119], pre := gA [] [[], [], [0, 1], [0, 1, 2], rn 0 4, rn 0 5, rn 0 4, rn 0 7, rn 0 8, rn 0 9, rn 0 4, rn 0 11, rn 0 12, rn 0 13, rn 0 4, rn 0 15, rn 0 16], ids := fun _ => [], rs := rL [[(13, 0)], [(4, 0)], [(102, 1), (103, 2)], [(104, 3)], [(105, 4)], [(105, 4)], [(105, 4)], [(105, 4)], [(105, 4)], [(105, 4)], [(105, 4)], [(105, 4)], [(105, 4)], [(105, 4)], [(105, 4)], [(105, 4)], [(105, 4), (117, 16)]], rh := fun _ => [], V := fun i g => gA undef [.int .i64 v66, .int .i64 x2.2.1, .bool (v66 != x2.2.1), .bool (v66 != x2.2.1), undef, undef, undef, undef, undef, undef, undef, undef, undef, undef, undef, undef, .bool y79] i, U := fun _ _ => [], Φ := fun _ _ => True } ?_ ?_
      ·exact ⟨lM, lM, lc rfl rfl fun hs hh => stp_neq (sv hs 102 rfl) (sv hs 103 rfl), lM, lo rfl rfl 105 hy79, lo rfl rfl 105 hy79, lo rfl rfl 105 hy79, lo rfl rfl 105 hy79, lo rfl rfl 105 hy79, lo rfl rfl 105 hy79, lo rfl rfl 105 hy79, lo rfl rfl 105 hy79, lo rfl rfl 105 hy79, lo rfl rfl 105 hy79, lo rfl rfl 105 hy79, lo rfl rfl 105 hy79, lc rfl rfl fun hs hh => stp_pick_fB (sv hs 105 rfl) hy79 rfl qy79, trivial⟩
      intro g hΦ
      exact kw_join () trivial ⟨rfl, rfl, rfl, rfl, rfl, rfl, rfl, rfl, trivial⟩ ⟨rfl, rfl, rfl, rfl, rfl, trivial⟩
     rintro _ -
     dsimp only
     refine kw_nx (cw_cond rfl (fun h81 => ?_) (fun h81 => ?_))
     ·have H2 := cond_t H2 h81
      obtain ⟨x82, e82, H2⟩ := bS H2
      obtain ⟨x83, e83, H2⟩ := bS H2
      exact cw_region (oM rfl (oP e82 rfl (oS rfl (ow_nil (kw_bl_normal (kw_nx (cw_region (oM rfl (oP e83 rfl (oS rfl (ow_nil (kw_lqS (js := [0, 1, 2, 3, 4]) (fuel, x82, x83) H2 (Nat.lt_succ_self _) ⟨rfl, rfl, rfl, rfl, rfl, rfl, rfl, trivial⟩ ⟨0, [1, 2, 3, 4], rfl, rfl, 1, [2, 3, 4], rfl, rfl, 2, [3, 4], rfl, rfl, 3, [4], rfl, rfl, 4, [], rfl, rfl, trivial⟩ (by decide)))))))))))))
     have H2 := cond_f H2 h81
     obtain ⟨x84, e84, H2⟩ := bS H2
     exact cw_skip (kw_bl_normal (kw_nx (cw_region (oM rfl (oP e84 rfl (oS rfl (ow_nil (kw_lqS (js := [0, 1, 2, 3, 4]) (fuel, v68, x84) H2 (Nat.lt_succ_self _) ⟨rfl, rfl, rfl, rfl, rfl, rfl, rfl, trivial⟩ ⟨0, [1, 2, 3, 4], rfl, rfl, 1, [2, 3, 4], rfl, rfl, 2, [3, 4], rfl, rfl, 3, [4], rfl, rfl, 4, [], rfl, rfl, trivial⟩ (by decide)))))))))
    have H2 := cond_f H2 h78
    refine cw_exit (kw_nx_exit (kw_lq_exit (kw_bl ?_)))
    obtain rfl := sI H2
    exact kw_joinS (js := [0, 1, 2, 3, 4]) (v68, v69) rfl ⟨rfl, rfl, rfl, rfl, rfl, rfl, rfl, trivial⟩ ⟨0, [1, 2, 3, 4], rfl, rfl, 1, [2, 3, 4], rfl, rfl, 2, [3, 4], rfl, rfl, 3, [4], rfl, rfl, 4, [], rfl, rfl, trivial⟩ (by decide)
   rintro ⟨v68, v69⟩ rfl
   dsimp only
   obtain ⟨x85, e85, H1⟩ := bS H1
   exact kw_bl_normal (kw_nx (cw_region (oM rfl (oP e85 rfl (oS rfl (ow_nil (kw_lqS (js := [0, 1, 2, 3, 4]) (fuel, v68, x85) H1 (Nat.lt_succ_self _) ⟨rfl, rfl, rfl, rfl, rfl, rfl, trivial⟩ ⟨0, [1, 2, 3, 4], rfl, rfl, 1, [2, 3, 4], rfl, rfl, 2, [3, 4], rfl, rfl, 3, [4], rfl, rfl, 4, [], rfl, rfl, trivial⟩ (by decide))))))))
  have H1 := cond_f H1 h67
  refine cw_exit (kw_nx_exit (kw_lq_exit (kw_bl ?_)))
  obtain rfl := sI H1
  exact kw_joinS (js := [0, 1, 2, 3, 4]) (v65, v66) rfl ⟨rfl, rfl, rfl, rfl, rfl, rfl, trivial⟩ ⟨0, [1, 2, 3, 4], rfl, rfl, 1, [2, 3, 4], rfl, rfl, 2, [3, 4], rfl, rfl, 3, [4], rfl, rfl, 4, [], rfl, rfl, trivial⟩ (by decide)
 rintro ⟨v65, v66⟩ rfl
 dsimp only
 refine kw_nx (sr (oM rfl (oM rfl (oQ rfl (oS rfl (nn (cw_ret ?_)))))))
 obtain rfl := sI H0
 exact kr Tryz.results5 (rT rfl) [] ⟨rfl, rfl⟩
end Go.Proofs.YtfnliecmagnkdabGreatDoor
