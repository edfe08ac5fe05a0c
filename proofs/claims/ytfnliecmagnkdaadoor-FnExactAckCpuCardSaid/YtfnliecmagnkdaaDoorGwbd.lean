/- The walks: functions of the program return what their pure functions say. Printed by a program (gen.py). -/
import Derived.Test.YtfnliecmagnkdaaDoorGp
import Derived.Test.YtfnliecmagnkdaaDoorGt
import Derived.Test.YtfnliecmagnkdaaDoorMan
import Derived.Test.YtfnliecmagnkdaaDoorMap
import Derived.Test.YtfnliecmagnkdaaDoorCpy
import Derived.Test.YtfnliecmagnkdaaDoorClr
import Derived.Test.YtfnliecmagnkdaaDoorDp
import Derived.Test.YtfnliecmagnkdaaDoorSrt
import Derived.Test.YtfnliecmagnkdaaDoorE8
import Derived.Test.YtfnliecmagnkdaaDoorGwaa
import Derived.Test.YtfnliecmagnkdaaDoorGwai
import Derived.Test.YtfnliecmagnkdaaDoorGwax
import Derived.Test.YtfnliecmagnkdaaDoorGwbb
set_option linter.unusedSimpArgs false
set_option linter.unusedVariables false
set_option linter.unusedSectionVars false
namespace Go.Proofs.YtfnliecmagnkdaaDoor
open Go.RowKit
set_option maxHeartbeats 4000000
set_option maxRecDepth 20000
variable {p0_0 p0_1 p0_2 : Option Addr} {n0_0 n0_1 n0_2 : Nat} {c0_0 c0_1 c0_2 : Nat}
theorem c_l_FnExactAckCpu (fl : Nat) (w : World) (a0 : Sy) (a1 : Int) (hn0_0 : n0_0 = (a0.t.b).length) (hr0_0 : RO w (hkeys []) (RdL p0_0 c0_0 a0.t.b)) (hn0_1 : n0_1 = (a0.t.f).length) (hr0_1 : RO w (hkeys []) (RdL p0_1 c0_1 a0.t.f)) (hn0_2 : n0_2 = (a0.c).length) (hr0_2 : ROD w (hkeys []) p0_2 c0_2 a0.c) (hg : RO w (hkeys []) (fun w' => w'.rangeAt 0 0 [.bool false, .int .i64 0, .int .i64 0, .int .i64 0, .int .i64 (-1)])) (r : Bool) (H0 : l_FnExactAckCpu fl a0 a1 = some r) :
  Ct Tryd.prog 12 [.agg #[.slice p0_0 n0_0 c0_0, .slice p0_1 n0_1 c0_1, .slice p0_2 n0_2 c0_2], .int .i64 a1] w [] (fun rv h' => rv = .bool r ∧ h' = []) := by
 subst hn0_0 hn0_1 hn0_2
 unfold l_FnExactAckCpu at H0
 refine ct_of_cw Tryd.func12 rfl Tryd.ntmps12 rfl (Sat.refl _ _) ?_
 refine sr (oE (stpU_box 0 rfl rfl) rfl ?_)
 rintro _ _ ⟨b1, rfl, rfl⟩
 obtain ⟨x2, e2, H0⟩ := bS H0
 refine oS rfl (nn (sr (oS rfl (nn (sr (oB3 0 ts28 rfl (oM rfl (oE (stpU_call (fun i => 1 + i) cf15 (fun w hw => c_l_szSystem fl w a0 1048576 rfl (RO.pass hr0_0 hw) rfl (RO.pass hr0_1 hw) rfl (ROD.pass hr0_2 hw) x2 e2) (yB rfl rfl)) rfl ?_))))))))
 rintro _ _ ⟨_, ⟨rfl, rfl⟩, rfl⟩
 refine oS rfl (nn (cw_seq (sr (oM rfl (oW rfl (nn (cw_cond rfl (fun h3 => ?_) (fun h3 => ?_))))))))
 ·have H0 := cond_t H0 h3
  refine sr (oS rfl (nn (cw_ret (kw_nx_ret ?_))))
  obtain rfl := sI H0
  exact kr Tryd.results12 (rT rfl) [] ⟨rfl, rfl⟩
 have H0 := cond_f H0 h3
 obtain ⟨x4, e4, H0⟩ := bS H0
 refine cw_skip (kw_nx (sr (oB3 0 ts28 rfl (oE (stpU_call (fun i => 1 + i) cf17 (fun w hw => c_l_toSystem fl w a0 rfl (RO.pass hr0_0 hw) rfl (RO.pass hr0_1 hw) rfl (ROD.pass hr0_2 hw) x4 e4) (yA rfl)) rfl ?_))))
 rintro _ _ ⟨_, ⟨p5, _, c7, C8, p9, _, c11, C12, p13, _, c15, C16, rfl, rfl, rfl, o8, rfl, o12, rfl, o16⟩, rfl⟩
 obtain ⟨x17, e17, H0⟩ := bS H0
 refine oM rfl (oE (stpU_call (fun i => 4 + i) cf30 (fun w hw => c_s_AckCpu fl w x4 a1 rfl (OwnC.pass (id := 1) rfl o8 hw) rfl (OwnC.pass (id := 2) rfl o12 hw) rfl (OwnD.pass (id := 3) rfl o16 hw) x17 e17) (yB rfl rfl)) rfl ?_)
 rintro _ _ ⟨_, ⟨p18, _, c20, C21, p22, _, c24, C25, p26, _, c28, C29, rfl, rfl, rfl, o21, rfl, o25, rfl, o29⟩, rfl⟩
 refine oM rfl (oT rfl (oT rfl (oE (stpU_alloc 7 tz36 rfl) rfl ?_)))
 rintro _ _ ⟨b30, rfl, rfl⟩
 obtain ⟨x31, e31, H0⟩ := bS H0
 refine oC3 7 ts36 rfl rfl (oS rfl (nn (sr (oB3 0 ts28 rfl (oE (stpU_call (fun i => 8 + i) cf17 (fun w hw => c_l_toSystem fl w a0 rfl (RO.pass hr0_0 hw) rfl (RO.pass hr0_1 hw) rfl (ROD.pass hr0_2 hw) x31 e31) (yA rfl)) rfl ?_)))))
 rintro _ _ ⟨_, ⟨p32, _, c34, C35, p36, _, c38, C39, p40, _, c42, C43, rfl, rfl, rfl, o35, rfl, o39, rfl, o43⟩, rfl⟩
 refine oE (stpU_alloc 11 tz36 rfl) rfl ?_
 rintro _ _ ⟨b44, rfl, rfl⟩
 obtain ⟨x45, e45, H0⟩ := bS H0
 refine oC3 11 ts36 rfl rfl (nn (sr (oB3 11 ts36 rfl (oM rfl (oE (stpU_call (fun i => 12 + i) cf29 (fun w hw => c_i_AckCpu fl w x31 a1 rfl (OwnC.pass (id := 8) rfl o35 hw) rfl (OwnC.pass (id := 9) rfl o39 hw) rfl (OwnD.pass (id := 10) rfl o43 hw) (RO.pass hg hw) x45 e45) (yB rfl rfl)) rfl ?_)))))
 rintro _ _ ⟨_, ⟨p46, _, c48, C49, p50, _, c52, C53, p54, _, c56, C57, rfl, rfl, rfl, o49, rfl, o53, rfl, o57⟩, rfl⟩
 refine oM rfl (oT rfl (oT rfl (oE (stpU_alloc 15 tz36 rfl) rfl ?_)))
 rintro _ _ ⟨b58, rfl, rfl⟩
 obtain ⟨x59, e59, H0⟩ := bS H0
 refine oC3 15 ts36 rfl rfl (oS rfl (nn (cw_seq (sr (oB3 15 ts36 rfl (oB3 7 ts36 rfl (oE (stpU_call (fun i => 16 + i) cf19 (fun w hw => c_l_eqSystem fl w x45.1 x17.1 rfl (OwnC.pass (id := 12) rfl o49 hw) rfl (OwnC.pass (id := 13) rfl o53 hw) rfl (OwnD.pass (id := 14) rfl o57 hw) rfl (OwnC.pass (id := 4) rfl o21 hw) rfl (OwnC.pass (id := 5) rfl o25 hw) rfl (OwnD.pass (id := 6) rfl o29 hw) x59 e59) (yB rfl rfl)) rfl ?_)))))))
 rintro _ _ ⟨_, ⟨rfl, rfl⟩, rfl⟩
 obtain ⟨y60, ey60, H0⟩ := bS H0
 refine oK rfl (oM rfl (ow_cutY 4 44 y60 ?_ ?_))
 ·rcases Bool.eq_false_or_eq_true (!x59) with hy60 | hy60
  ·have ey60 := cond_t ey60 hy60
   refine oO rfl hy60 rfl (oO rfl hy60 rfl (oO rfl hy60 rfl (oD (stp_pick_t rfl hy60 rfl) rfl ?_)))
   obtain rfl := sI ey60
   exact ow_nil (jy 4 0)
  have ey60 := cond_f ey60 hy60
  refine oG rfl hy60 (mv rfl) rfl (oG rfl hy60 (mv rfl) rfl (oG rfl hy60 (stp_neqB Tryd.underlying4 rfl rfl) rfl (oD (stp_pick_f rfl hy60 rfl) rfl ?_)))
  obtain rfl := sI ey60
  exact ow_nil (jy 4 0)
 refine ow_nil (kw_nx (cw_cond rfl (fun h61 => ?_) (fun h61 => ?_)))
 ·have H0 := cond_t H0 h61
  refine sr (oS rfl (nn (cw_ret (kw_nx_ret ?_))))
  obtain rfl := sI H0
  exact kr Tryd.results12 (rT rfl) [] ⟨rfl, rfl⟩
 have H0 := cond_f H0 h61
 obtain ⟨x62, e62, H0⟩ := bS H0
 obtain ⟨x75, e75, H0⟩ := bS H0
 refine cw_skip (kw_nx (cw_seq (cw_seq (rdq g_mixed [2, 8] [0, 8, 9, 10, 11] { dst := dS [46, 47, 48, 49, 50], pre := gA [] [[], [], [1], [0, 1, 2], rn 0 4], ids := gA [] [[], [], [16, 17, 18]], rs := rL [[(8, 0)], [(2, 0)], [(46, 2)], [(45, 1), (47, 3)], [(48, 4)]], rh := rL [[(11, 0)], [(0, 0)], [], [(8, 0), (9, 0), (10, 0), (16, 3), (17, 3), (18, 3)]], V := fun i g => gA undef [.agg #[.slice p32 ((x31.t.b).length) c34, .slice p36 ((x31.t.f).length) c38, .slice p40 ((x31.c).length) c42], .agg #[.slice p0_0 ((a0.t.b).length) c0_0, .slice p0_1 ((a0.t.f).length) c0_1, .slice p0_2 ((a0.c).length) c0_2], .agg #[.slice ((g 2).A 0) ((x62.t.b).length) ((g 2).C 0), .slice ((g 2).A 1) ((x62.t.f).length) ((g 2).C 1), .slice ((g 2).A 2) ((x62.c).length) ((g 2).C 2)], .bool x75, .bool (!x75)] i, U := fun i g => gA [] [[], [], [(16, ((g 2).R 0)), (17, ((g 2).R 1)), (18, ((g 2).R 2))]] i, Φ := fun i x => gA True [True, True, OwnC 3 (x.A 0) (x.C 0) x62.t.b (x.R 0) ∧ OwnC 84 (x.A 1) (x.C 1) x62.t.f (x.R 1) ∧ OwnD 44 48 (x.A 2) (x.C 2) x62.c (x.R 2)] i } ?_ ?_))))
 ·refine ⟨lc rfl rfl fun hs hh => stp_loadN (us := [_, _, _]) ts36 (sv hs 8 rfl) (Cells.box (id := 11) (hh.get 11 _ rfl) 3 rfl), lc rfl rfl fun hs hh => stp_loadN (us := [_, _, _]) ts28 (sv hs 2 rfl) (Cells.box (id := 0) (hh.get 0 _ rfl) 3 rfl), ?_, ?_, lc rfl rfl fun hs hh => stp_not (sv hs 48 rfl), trivial⟩
  ·refine le rfl rfl (fun g hΦ s h hs hh => (stpU_call (fun i => 16 + i) cf17 (fun w hw => c_l_toSystem fl w a0 rfl (RO.pass hr0_0 hw) rfl (RO.pass hr0_1 hw) rfl (ROD.pass hr0_2 hw) x62 e62) (yA (sv hs 46 rfl)))) ?_
   rintro g _ _ ⟨_, ⟨p63, _, c65, C66, p67, _, c69, C70, p71, _, c73, C74, rfl, rfl, rfl, o66, rfl, o70, rfl, o74⟩, rfl⟩
   exact ⟨⟨[p63, p67, p71], [c65, c69, c73], [C66, C70, C74]⟩, ⟨o66, o70, o74⟩, .inr rfl, rfl⟩
  refine le rfl rfl (fun g hΦ s h hs hh => (stpU_call (fun i => 19 + i) cf19 (fun w hw => c_l_eqSystem fl w x31 x62 rfl (OwnC.pass (id := 8) (hh.get 8 _ rfl) o35 hw) rfl (OwnC.pass (id := 9) (hh.get 9 _ rfl) o39 hw) rfl (OwnD.pass (id := 10) (hh.get 10 _ rfl) o43 hw) rfl (OwnC.pass (id := 16) (hh.get 16 _ rfl) (hΦ 2 rfl).1 hw) rfl (OwnC.pass (id := 17) (hh.get 17 _ rfl) (hΦ 2 rfl).2.1 hw) rfl (OwnD.pass (id := 18) (hh.get 18 _ rfl) (hΦ 2 rfl).2.2 hw) x75 e75) (yB (sv hs 45 rfl) (sv hs 47 rfl)))) ?_
  rintro g _ _ ⟨_, ⟨rfl, rfl⟩, rfl⟩
  exact ⟨⟨[], [], []⟩, trivial, .inr rfl, rfl⟩
 intro g hΦ
 refine kw_gen (ι := Option Addr × Option Addr × Option Addr × Nat × Nat × Nat × Res × Res × Res) (((g 2).A 0), ((g 2).A 1), ((g 2).A 2), ((g 2).C 0), ((g 2).C 1), ((g 2).C 2), ((g 2).R 0), ((g 2).R 1), ((g 2).R 2)) (fun | (p63, p67, p71, c65, c69, c73, C66, C70, C74) => OwnC 3 p63 c65 x62.t.b C66 ∧ OwnC 84 p67 c69 x62.t.f C70 ∧ OwnD 44 48 p71 c73 x62.c C74) (fun | (p63, p67, p71, c65, c69, c73, C66, C70, C74) => [(1, .int .i64 a1), (2, .pointer (some ⟨b1, 0, none⟩)), (6, .pointer (some ⟨b30, 0, none⟩)), (7, .bool x17.2), (8, .pointer (some ⟨b44, 0, none⟩)), (9, .pointer (some ⟨b58, 0, none⟩)), (10, .bool x45.2), (49, .bool (!x75))]) (fun | (p63, p67, p71, c65, c69, c73, C66, C70, C74) => [(0, [(b1, .cells #[.slice p0_0 ((a0.t.b).length) c0_0, .slice p0_1 ((a0.t.f).length) c0_1, .slice p0_2 ((a0.c).length) c0_2] 28 (0, 0))]), (4, C21), (5, C25), (6, C29), (7, [(b30, .cells #[.slice p18 ((x17.1.t.b).length) c20, .slice p22 ((x17.1.t.f).length) c24, .slice p26 ((x17.1.c).length) c28] 36 (0, 0))]), (8, C35), (9, C39), (10, C43), (11, [(b44, .cells #[.slice p32 ((x31.t.b).length) c34, .slice p36 ((x31.t.f).length) c38, .slice p40 ((x31.c).length) c42] 36 (0, 0))]), (12, C49), (13, C53), (14, C57), (15, [(b58, .cells #[.slice p46 ((x45.1.t.b).length) c48, .slice p50 ((x45.1.t.f).length) c52, .slice p54 ((x45.1.c).length) c56] 36 (0, 0))])]) ⟨(hΦ 2 (by decide)).1, (hΦ 2 (by decide)).2.1, (hΦ 2 (by decide)).2.2⟩ ⟨rfl, rfl, rfl, rfl, rfl, rfl, rfl, rfl, trivial⟩ ⟨rfl, rfl, rfl, rfl, rfl, rfl, rfl, rfl, rfl, rfl, rfl, rfl, rfl, trivial⟩ ?_
 rintro ⟨p63, p67, p71, c65, c69, c73, C66, C70, C74⟩ ⟨o66, o70, o74⟩
 dsimp only
 refine kw_nx (cw_cond rfl (fun h76 => ?_) (fun h76 => ?_))
 ·have H0 := cond_t H0 h76
  refine sr (oS rfl (nn (cw_ret (kw_nx_ret ?_))))
  obtain rfl := sI H0
  exact kr Tryd.results12 (rT rfl) [] ⟨rfl, rfl⟩
 have H0 := cond_f H0 h76
 obtain ⟨x77, e77, H0⟩ := bS H0
 refine cw_skip (kw_nx (sr (oS rfl (nn (sr (oB3 11 ts36 rfl (oM rfl (oE (stpU_callM (fun i => bif Nat.beq i 0 then 8 else bif Nat.beq i 1 then 9 else bif Nat.beq i 2 then 10 else 19 + i) cf37 (fun w hw hb => c_l_markSystem fl w x31 1 rfl o35 rfl o39 rfl o43 (hw.pass (js := [8, 9, 10]) ⟨8, [9, 10], rfl, rfl, 9, [10], rfl, rfl, 10, [], rfl, rfl, trivial⟩ (by decide)) x77 e77) (yB rfl rfl) ⟨rfl, (fun _ _ hp => by obtain ⟨_, _, _, _, rfl, _⟩ := hp; exact ⟨_, rfl⟩), rfl, (fun _ _ hp => by obtain ⟨_, _, _, _, rfl, _⟩ := hp; exact ⟨_, rfl⟩), rfl, (fun _ _ hp => by obtain ⟨_, _, _, _, rfl, _⟩ := hp; exact ⟨_, rfl⟩), trivial⟩) rfl ?_))))))))
 rintro _ _ ⟨_, ⟨C78, C79, C80, rfl, rfl, hl78, o78, hl79, o79, hl80, o80⟩, rfl⟩
 obtain ⟨y81, ey81, H0⟩ := bS H0
 refine oS rfl (nn (cw_seq (sr (oM rfl (oW rfl (oM rfl (ow_cutY 5 60 y81 ?_ ?_)))))))
 ·rcases Bool.eq_false_or_eq_true (decide (x77.1 < 0)) with hy81 | hy81
  ·have ey81 := cond_t ey81 hy81
   refine oO rfl hy81 rfl (oO rfl hy81 rfl (oO rfl hy81 rfl (oO rfl hy81 rfl (oD (stp_pick_t rfl hy81 rfl) rfl ?_))))
   obtain rfl := sI ey81
   exact ow_nil (jy 5 0)
  have ey81 := cond_f ey81 hy81
  refine oG rfl hy81 (stp_loadN (us := [_, _, _]) ts36 rfl (Cells.box (id := 15) rfl 3 rfl)) rfl (oG rfl hy81 (stp_loadN (us := [_, _, _]) ts36 rfl (Cells.box (id := 7) rfl 3 rfl)) rfl (ow_eff (.some rfl hy81) (stpU_call (fun i => 22 + i) cf19 (fun w hw => c_l_eqSystem fl w x45.1 x17.1 rfl (OwnC.pass (id := 12) rfl o49 hw) rfl (OwnC.pass (id := 13) rfl o53 hw) rfl (OwnD.pass (id := 14) rfl o57 hw) rfl (OwnC.pass (id := 4) rfl o21 hw) rfl (OwnC.pass (id := 5) rfl o25 hw) rfl (OwnD.pass (id := 6) rfl o29 hw) x59 e59) (yB rfl rfl)) rfl ?_))
  rintro _ _ ⟨_, ⟨rfl, rfl⟩, rfl⟩
  refine oG rfl hy81 (stp_not rfl) rfl (oD (stp_pick_f rfl hy81 rfl) rfl ?_)
  obtain rfl := sI ey81
  exact ow_nil (jy 5 0)
 obtain ⟨y82, ey82, H0⟩ := bS H0
 refine oM rfl (ow_cutY 4 65 y82 ?_ ?_)
 ·rcases Bool.eq_false_or_eq_true y81 with hy82 | hy82
  ·have ey82 := cond_t ey82 hy82
   refine oO rfl hy82 rfl (oO rfl hy82 rfl (oO rfl hy82 rfl (oD (stp_pick_t rfl hy82 rfl) rfl ?_)))
   obtain rfl := sI ey82
   exact ow_nil (jy 4 0)
  have ey82 := cond_f ey82 hy82
  refine oG rfl hy82 (mv rfl) rfl (oG rfl hy82 (mv rfl) rfl (oG rfl hy82 (stp_neqB Tryd.underlying4 rfl rfl) rfl (oD (stp_pick_f rfl hy82 rfl) rfl ?_)))
  obtain rfl := sI ey82
  exact ow_nil (jy 4 0)
 refine ow_nil (kw_nx (cw_cond rfl (fun h83 => ?_) (fun h83 => ?_)))
 ·have H0 := cond_t H0 h83
  refine sr (oS rfl (nn (cw_ret (kw_nx_ret ?_))))
  obtain rfl := sI H0
  exact kr Tryd.results12 (rT rfl) [] ⟨rfl, rfl⟩
 have H0 := cond_f H0 h83
 obtain ⟨x84, e84, H0⟩ := bS H0
 refine cw_skip (kw_nx (sr (oS rfl (nn (sr (oB3 15 ts36 rfl (oM rfl (oE (stpU_callM (fun i => bif Nat.beq i 0 then 12 else bif Nat.beq i 1 then 13 else bif Nat.beq i 2 then 14 else 22 + i) cf37 (fun w hw hb => c_l_markSystem fl w x45.1 1 rfl o49 rfl o53 rfl o57 (hw.pass (js := [12, 13, 14]) ⟨12, [13, 14], rfl, rfl, 13, [14], rfl, rfl, 14, [], rfl, rfl, trivial⟩ (by decide)) x84 e84) (yB rfl rfl) ⟨rfl, (fun _ _ hp => by obtain ⟨_, _, _, _, rfl, _⟩ := hp; exact ⟨_, rfl⟩), rfl, (fun _ _ hp => by obtain ⟨_, _, _, _, rfl, _⟩ := hp; exact ⟨_, rfl⟩), rfl, (fun _ _ hp => by obtain ⟨_, _, _, _, rfl, _⟩ := hp; exact ⟨_, rfl⟩), trivial⟩) rfl ?_))))))))
 rintro _ _ ⟨_, ⟨C85, C86, C87, rfl, rfl, hl85, o85, hl86, o86, hl87, o87⟩, rfl⟩
 obtain ⟨x88, e88, H0⟩ := bS H0
 refine oS rfl (nn (sr (oS rfl (nn (sr (oB3 15 ts36 rfl (oM rfl (oE (stpU_call (fun i => 25 + i) cf38 (fun w hw => c_l_heldSystem fl w (⟨(⟨x84.2.1, x84.2.2.1⟩ : T), x84.2.2.2⟩ : Sy) 1 (by simp [hl85]) (OwnC.pass (id := 12) rfl o85 hw) (by simp [hl86]) (OwnC.pass (id := 13) rfl o86 hw) (by simp [hl87]) (OwnD.pass (id := 14) rfl o87 hw) x88 e88) (yB rfl rfl)) rfl ?_))))))))
 rintro _ _ ⟨_, ⟨rfl, rfl⟩, rfl⟩
 refine oS rfl (nn (cw_seq (sr (oM rfl (oW rfl (nn (cw_cond rfl (fun h89 => ?_) (fun h89 => ?_))))))))
 ·have H0 := cond_t H0 h89
  refine sr (oS rfl (nn (cw_ret (kw_nx_ret ?_))))
  obtain rfl := sI H0
  exact kr Tryd.results12 (rT rfl) [] ⟨rfl, rfl⟩
 have H0 := cond_f H0 h89
 refine cw_skip (kw_nx (cw_seq (sr (oM rfl (oM rfl (oU rfl (nn (cw_cond rfl (fun h90 => ?_) (fun h90 => ?_)))))))))
 ·have H0 := cond_t H0 h90
  refine sr (oS rfl (nn (cw_ret (kw_nx_ret ?_))))
  obtain rfl := sI H0
  exact kr Tryd.results12 (rT rfl) [] ⟨rfl, rfl⟩
 have H0 := cond_f H0 h90
 obtain ⟨x91, e91, H0⟩ := bS H0
 refine cw_skip (kw_nx (sr (oB3 0 ts28 rfl (oE (stpU_call (fun i => 25 + i) cf17 (fun w hw => c_l_toSystem fl w a0 rfl (RO.pass hr0_0 hw) rfl (RO.pass hr0_1 hw) rfl (ROD.pass hr0_2 hw) x91 e91) (yA rfl)) rfl ?_))))
 rintro _ _ ⟨_, ⟨p92, _, c94, C95, p96, _, c98, C99, p100, _, c102, C103, rfl, rfl, rfl, o95, rfl, o99, rfl, o103⟩, rfl⟩
 obtain ⟨x104, e104, H0⟩ := bS H0
 refine oM rfl (oE (stpU_call (fun i => 28 + i) cf29 (fun w hw => c_i_AckCpu fl w x91 a1 rfl (OwnC.pass (id := 25) rfl o95 hw) rfl (OwnC.pass (id := 26) rfl o99 hw) rfl (OwnD.pass (id := 27) rfl o103 hw) (RO.pass hg hw) x104 e104) (yB rfl rfl)) rfl ?_)
 rintro _ _ ⟨_, ⟨p105, _, c107, C108, p109, _, c111, C112, p113, _, c115, C116, rfl, rfl, rfl, o108, rfl, o112, rfl, o116⟩, rfl⟩
 refine oM rfl (oT rfl (oT rfl (oE (stpU_alloc 31 tz36 rfl) rfl ?_)))
 rintro _ _ ⟨b117, rfl, rfl⟩
 obtain ⟨x118, e118, H0⟩ := bS H0
 refine oC3 31 ts36 rfl rfl (oS rfl (nn (cw_seq (sr (oB3 31 ts36 rfl (oB3 7 ts36 rfl (oE (stpU_call (fun i => 32 + i) cf19 (fun w hw => c_l_eqSystem fl w x104.1 x17.1 rfl (OwnC.pass (id := 28) rfl o108 hw) rfl (OwnC.pass (id := 29) rfl o112 hw) rfl (OwnD.pass (id := 30) rfl o116 hw) rfl (OwnC.pass (id := 4) rfl o21 hw) rfl (OwnC.pass (id := 5) rfl o25 hw) rfl (OwnD.pass (id := 6) rfl o29 hw) x118 e118) (yB rfl rfl)) rfl ?_)))))))
 rintro _ _ ⟨_, ⟨rfl, rfl⟩, rfl⟩
 obtain ⟨y119, ey119, H0⟩ := bS H0
 refine oK rfl (oM rfl (ow_cutY 4 92 y119 ?_ ?_))
 ·rcases Bool.eq_false_or_eq_true (!x118) with hy119 | hy119
  ·have ey119 := cond_t ey119 hy119
   refine oO rfl hy119 rfl (oO rfl hy119 rfl (oO rfl hy119 rfl (oD (stp_pick_t rfl hy119 rfl) rfl ?_)))
   obtain rfl := sI ey119
   exact ow_nil (jy 4 0)
  have ey119 := cond_f ey119 hy119
  refine oG rfl hy119 (mv rfl) rfl (oG rfl hy119 (mv rfl) rfl (oG rfl hy119 (stp_neqB Tryd.underlying4 rfl rfl) rfl (oD (stp_pick_f rfl hy119 rfl) rfl ?_)))
  obtain rfl := sI ey119
  exact ow_nil (jy 4 0)
 refine ow_nil (kw_nx (cw_cond rfl (fun h120 => ?_) (fun h120 => ?_)))
 ·have H0 := cond_t H0 h120
  refine sr (oS rfl (nn (cw_ret (kw_nx_ret ?_))))
  obtain rfl := sI H0
  exact kr Tryd.results12 (rT rfl) [] ⟨rfl, rfl⟩
 have H0 := cond_f H0 h120
 refine cw_skip (kw_nx (sr (oS rfl (nn (sr (oB3 15 ts36 rfl (oM rfl (oE (stpU_call (fun i => 32 + i) cf38 (fun w hw => c_l_heldSystem fl w (⟨(⟨x84.2.1, x84.2.2.1⟩ : T), x84.2.2.2⟩ : Sy) 1 (by simp [hl85]) (OwnC.pass (id := 12) rfl o85 hw) (by simp [hl86]) (OwnC.pass (id := 13) rfl o86 hw) (by simp [hl87]) (OwnD.pass (id := 14) rfl o87 hw) x88 e88) (yB rfl rfl)) rfl ?_))))))))
 rintro _ _ ⟨_, ⟨rfl, rfl⟩, rfl⟩
 refine oS rfl (nn (cw_seq (sr (oM rfl (oW rfl (nn (cw_cond rfl (fun h121 => ?_) (fun h121 => ?_))))))))
 ·have H0 := cond_t H0 h121
  refine sr (oS rfl (nn (cw_ret (kw_nx_ret ?_))))
  obtain rfl := sI H0
  exact kr Tryd.results12 (rT rfl) [] ⟨rfl, rfl⟩
 have H0 := cond_f H0 h121
 refine cw_skip (kw_nx (cw_seq (sr (oM rfl (oM rfl (oU rfl (nn (cw_cond rfl (fun h122 => ?_) (fun h122 => ?_)))))))))
 ·have H0 := cond_t H0 h122
  refine sr (oS rfl (nn (cw_ret (kw_nx_ret ?_))))
  obtain rfl := sI H0
  exact kr Tryd.results12 (rT rfl) [] ⟨rfl, rfl⟩
 have H0 := cond_f H0 h122
 refine cw_skip (kw_nx (sr (oS rfl (nn (cw_ret ?_)))))
 obtain rfl := sI H0
 exact kr Tryd.results12 (rT rfl) [] ⟨rfl, rfl⟩
end Go.Proofs.YtfnliecmagnkdaaDoor
