/- The walks: functions of the program return what their pure functions say. Printed by a program (gen.py). -/
import Derived.Test.YtkccmjfhmkjnlaaGreatDoorQp
import Derived.Test.YtkccmjfhmkjnlaaGreatDoorQt
import Derived.Test.YtkccmjfhmkjnlaaGreatDoorMan
import Derived.Test.YtkccmjfhmkjnlaaGreatDoorMap
import Derived.Test.YtkccmjfhmkjnlaaGreatDoorCpy
import Derived.Test.YtkccmjfhmkjnlaaGreatDoorQe
import Derived.Test.YtkccmjfhmkjnlaaGreatDoorQwac
import Derived.Test.YtkccmjfhmkjnlaaGreatDoorQwae
set_option linter.unusedSimpArgs false
set_option linter.unusedVariables false
set_option linter.unusedSectionVars false
namespace Go.Proofs.YtkccmjfhmkjnlaaGreatDoor
open Go.RowKit
set_option maxHeartbeats 4000000
set_option maxRecDepth 20000
variable {p0_0 : Option Addr} {n0_0 : Nat} {c0_0 : Nat}
theorem c_l_FnFrameVictim (fl : Nat) (w : World) (a0 : (List UInt8)) (hn0_0 : n0_0 = (a0).length) (hr0_0 : RO w (hkeys []) (RdL p0_0 c0_0 a0)) (hg : RO w (hkeys []) (fun w' => w'.rangeAt 0 0 [.bool false, .int .i64 0, .int .i64 0, .int .i64 0, .int .i64 (-1)])) (r : Bool) (H0 : l_FnFrameVictim fl a0 = some r) :
  Ct Tryz.prog 4 [.slice p0_0 n0_0 c0_0] w [] (fun rv h' => rv = .bool r ∧ h' = []) := by
 subst hn0_0
 unfold l_FnFrameVictim at H0
 refine ct_of_cw Tryz.func4 rfl Tryz.ntmps4 rfl (Sat.refl _ _) ?_
 refine sr (oS rfl (nn (cw_seq (sr (oM rfl (oD (stp_len Tryz.underlying22 rfl) rfl (oJ rfl (nn (cw_cond rfl (fun h1 => ?_) (fun h1 => ?_))))))))))
 ·have H0 := cond_t H0 h1
  refine sr (oS rfl (nn (cw_ret (kw_nx_ret ?_))))
  obtain rfl := sI H0
  exact kr Tryz.results4 (rT rfl) [] ⟨rfl, rfl⟩
 have H0 := cond_f H0 h1
 obtain ⟨x2, e2, H0⟩ := bS H0
 refine cw_skip (kw_nx (sr (oM rfl (oE (stpU_call (fun i => 0 + i) cf13 (fun w hw => c_s_DrawFrameVictim fl w a0 rfl (RO.pass hr0_0 hw) x2 e2) (yA rfl)) rfl ?_))))
 rintro _ _ ⟨_, ⟨p3, _, c5, C6, p7, _, c9, C10, p11, _, c13, C14, p15, _, c17, C18, p19, _, c21, C22, rfl, rfl, rfl, o6, rfl, o10, rfl, o14, rfl, o18, rfl, o22⟩, rfl⟩
 refine oE (stpU_alloc 5 tz37 rfl) rfl ?_
 rintro _ _ ⟨b23, rfl, rfl⟩
 obtain ⟨x24, e24, H0⟩ := bS H0
 refine oC11 5 ts37 rfl rfl (nn (sr (oB11 5 ts37 rfl (oE (stpU_call (fun i => 6 + i) cf12 (fun w hw => c_i_FrameVictim fl w x2 rfl (OwnC.pass (id := 0) rfl o6 hw) rfl (OwnC.pass (id := 1) rfl o10 hw) rfl (OwnC.pass (id := 2) rfl o14 hw) rfl (OwnC.pass (id := 3) rfl o18 hw) rfl (OwnC.pass (id := 4) rfl o22 hw) (RO.pass hg hw) x24 e24) (yA rfl)) rfl ?_))))
 rintro _ _ ⟨_, ⟨p25, _, c27, C28, p29, _, c31, C32, p33, _, c35, C36, p37, _, c39, C40, p41, _, c43, C44, rfl, rfl, rfl, o28, rfl, o32, rfl, o36, rfl, o40, rfl, o44⟩, rfl⟩
 refine oM rfl (oT rfl (oT rfl (oT rfl (oE (stpU_alloc 11 tz37 rfl) rfl ?_))))
 rintro _ _ ⟨b45, rfl, rfl⟩
 obtain ⟨x46, e46, H0⟩ := bS H0
 refine oC11 11 ts37 rfl rfl (oS rfl (oS rfl (nn (sr (oB11 5 ts37 rfl (oE (stpU_call (fun i => 12 + i) cf14 (fun w hw => c_s_FrameVictim fl w x2 rfl (OwnC.pass (id := 0) rfl o6 hw) rfl (OwnC.pass (id := 1) rfl o10 hw) rfl (OwnC.pass (id := 2) rfl o14 hw) rfl (OwnC.pass (id := 3) rfl o18 hw) rfl (OwnC.pass (id := 4) rfl o22 hw) x46 e46) (yA rfl)) rfl ?_))))))
 rintro _ _ ⟨_, ⟨p47, _, c49, C50, p51, _, c53, C54, p55, _, c57, C58, p59, _, c61, C62, p63, _, c65, C66, rfl, rfl, rfl, o50, rfl, o54, rfl, o58, rfl, o62, rfl, o66⟩, rfl⟩
 refine oM rfl (oT rfl (oT rfl (oT rfl (oE (stpU_alloc 17 tz37 rfl) rfl ?_))))
 rintro _ _ ⟨b67, rfl, rfl⟩
 obtain ⟨x68, e68, H0⟩ := bS H0
 refine oC11 17 ts37 rfl rfl (oS rfl (oS rfl (nn (cw_seq (sr (oB11 11 ts37 rfl (oB11 17 ts37 rfl (oE (stpU_call (fun i => 18 + i) cf9 (fun w hw => c_i_MemorySame fl w x24.1 x46.1 rfl (OwnC.pass (id := 6) rfl o28 hw) rfl (OwnC.pass (id := 7) rfl o32 hw) rfl (OwnC.pass (id := 8) rfl o36 hw) rfl (OwnC.pass (id := 9) rfl o40 hw) rfl (OwnC.pass (id := 10) rfl o44 hw) rfl (OwnC.pass (id := 12) rfl o50 hw) rfl (OwnC.pass (id := 13) rfl o54 hw) rfl (OwnC.pass (id := 14) rfl o58 hw) rfl (OwnC.pass (id := 15) rfl o62 hw) rfl (OwnC.pass (id := 16) rfl o66 hw) x68 e68) (yB rfl rfl)) rfl ?_))))))))
 rintro _ _ ⟨_, ⟨rfl, rfl⟩, rfl⟩
 obtain ⟨y69, ey69, H0⟩ := bS H0
 refine oK rfl (oM rfl (ow_cutY 4 38 y69 ?_ ?_))
 ·rcases Bool.eq_false_or_eq_true (!x68) with hy69 | hy69
  ·have ey69 := cond_t ey69 hy69
   refine oO rfl hy69 rfl (oO rfl hy69 rfl (oO rfl hy69 rfl (oD (stp_pick_t rfl hy69 rfl) rfl ?_)))
   obtain rfl := sI ey69
   exact ow_nil (jy 4 0)
  have ey69 := cond_f ey69 hy69
  refine oG rfl hy69 (mv rfl) rfl (oG rfl hy69 (mv rfl) rfl (oG rfl hy69 (stp_neq rfl rfl) rfl (oD (stp_pick_f rfl hy69 rfl) rfl ?_)))
  obtain rfl := sI ey69
  exact ow_nil (jy 4 0)
 obtain ⟨y70, ey70, H0⟩ := bS H0
 refine oM rfl (ow_cutY 4 43 y70 ?_ ?_)
 ·rcases Bool.eq_false_or_eq_true y69 with hy70 | hy70
  ·have ey70 := cond_t ey70 hy70
   refine oO rfl hy70 rfl (oO rfl hy70 rfl (oO rfl hy70 rfl (oD (stp_pick_t rfl hy70 rfl) rfl ?_)))
   obtain rfl := sI ey70
   exact ow_nil (jy 4 0)
  have ey70 := cond_f ey70 hy70
  refine oG rfl hy70 (mv rfl) rfl (oG rfl hy70 (mv rfl) rfl (oG rfl hy70 (stp_neqB Tryz.underlying4 rfl rfl) rfl (oD (stp_pick_f rfl hy70 rfl) rfl ?_)))
  obtain rfl := sI ey70
  exact ow_nil (jy 4 0)
 obtain ⟨y71, ey71, H0⟩ := bS H0
 refine oM rfl (ow_cutY 3 47 y71 ?_ ?_)
 ·rcases Bool.eq_false_or_eq_true y70 with hy71 | hy71
  ·have ey71 := cond_t ey71 hy71
   refine oO rfl hy71 rfl (oO rfl hy71 rfl (oD (stp_pick_t rfl hy71 rfl) rfl ?_))
   obtain rfl := sI ey71
   exact ow_nil (jy 3 0)
  have ey71 := cond_f ey71 hy71
  refine oG rfl hy71 (mv rfl) rfl (oG rfl hy71 (stp_not rfl) rfl (oD (stp_pick_f rfl hy71 rfl) rfl ?_))
  obtain rfl := sI ey71
  exact ow_nil (jy 3 0)
 refine ow_nil (kw_nx (cw_cond rfl (fun h72 => ?_) (fun h72 => ?_)))
 ·have H0 := cond_t H0 h72
  refine sr (oB11 11 ts37 rfl (oB11 17 ts37 rfl (oE (stpU_call (fun i => 18 + i) cf9 (fun w hw => c_i_MemorySame fl w x24.1 x46.1 rfl (OwnC.pass (id := 6) rfl o28 hw) rfl (OwnC.pass (id := 7) rfl o32 hw) rfl (OwnC.pass (id := 8) rfl o36 hw) rfl (OwnC.pass (id := 9) rfl o40 hw) rfl (OwnC.pass (id := 10) rfl o44 hw) rfl (OwnC.pass (id := 12) rfl o50 hw) rfl (OwnC.pass (id := 13) rfl o54 hw) rfl (OwnC.pass (id := 14) rfl o58 hw) rfl (OwnC.pass (id := 15) rfl o62 hw) rfl (OwnC.pass (id := 16) rfl o66 hw) x68 e68) (yB rfl rfl)) rfl ?_)))
  rintro _ _ ⟨_, ⟨rfl, rfl⟩, rfl⟩
  obtain ⟨y73, ey73, H0⟩ := bS H0
  refine oM rfl (ow_cutY 4 55 y73 ?_ ?_)
  ·rcases Bool.eq_false_or_eq_true x68 with hy73 | hy73
   ·have ey73 := cond_t ey73 hy73
    refine oG rfl hy73 (mv rfl) rfl (oG rfl hy73 (mv rfl) rfl (oG rfl hy73 (stp_eql rfl rfl) rfl (oD (stp_pick_t rfl hy73 rfl) rfl ?_)))
    obtain rfl := sI ey73
    exact ow_nil (jy 4 0)
   have ey73 := cond_f ey73 hy73
   refine oO rfl hy73 rfl (oO rfl hy73 rfl (oO rfl hy73 rfl (oD (stp_pick_f rfl hy73 rfl) rfl ?_)))
   obtain rfl := sI ey73
   exact ow_nil (jy 4 0)
  obtain ⟨y74, ey74, H0⟩ := bS H0
  refine oM rfl (ow_cutY 4 60 y74 ?_ ?_)
  ·rcases Bool.eq_false_or_eq_true y73 with hy74 | hy74
   ·have ey74 := cond_t ey74 hy74
    refine oG rfl hy74 (mv rfl) rfl (oG rfl hy74 (mv rfl) rfl (oG rfl hy74 (stp_eqlB Tryz.underlying4 rfl rfl) rfl (oD (stp_pick_t rfl hy74 rfl) rfl ?_)))
    obtain rfl := sI ey74
    exact ow_nil (jy 4 0)
   have ey74 := cond_f ey74 hy74
   refine oO rfl hy74 rfl (oO rfl hy74 rfl (oO rfl hy74 rfl (oD (stp_pick_f rfl hy74 rfl) rfl ?_)))
   obtain rfl := sI ey74
   exact ow_nil (jy 4 0)
  refine oS rfl (nn (cw_ret (kw_nx_ret ?_)))
  obtain rfl := sI H0
  exact kr Tryz.results4 (rT rfl) [] ⟨rfl, rfl⟩
 have H0 := cond_f H0 h72
 obtain ⟨o0_0, eo0_0, H0⟩ := bS H0
 refine cw_skip (kw_nx (cw_seq (sr (oS rfl (nn (cw_join (ι := Int) (fun | v75 => o0_0 = .out v75) (fun | v75 => [(3, .pointer (some ⟨b23, 0, none⟩)), (4, .pointer (some ⟨b45, 0, none⟩)), (5, .int .i64 x24.2.1), (10, .int .i64 v75)]) (fun | v75 => [(0, C6), (1, C10), (2, C14), (3, C18), (4, C22), (5, [(b23, .cells #[.slice p3 ((x2.m.t.b).length) c5, .slice p7 ((x2.m.t.f).length) c9, .slice p11 ((x2.m.c.l).length) c13, .int .i64 x2.m.c.h, .int .i64 x2.m.g.c, .int .i64 x2.m.g.n, .int .i64 x2.m.g.r, .slice p15 ((x2.m.g.o).length) c17, .int .i64 x2.m.s, .slice p19 ((x2.k).length) c21, .int .i64 x2.h] 37 (0, 0))]), (6, C28), (7, C32), (8, C36), (9, C40), (10, C44), (11, [(b45, .cells #[.slice p25 ((x24.1.m.t.b).length) c27, .slice p29 ((x24.1.m.t.f).length) c31, .slice p33 ((x24.1.m.c.l).length) c35, .int .i64 x24.1.m.c.h, .int .i64 x24.1.m.g.c, .int .i64 x24.1.m.g.n, .int .i64 x24.1.m.g.r, .slice p37 ((x24.1.m.g.o).length) c39, .int .i64 x24.1.m.s, .slice p41 ((x24.1.k).length) c43, .int .i64 x24.1.h] 37 (0, 0))])]) ?_ ?_))))))
 ·refine cw_block (cw_loopS (ι := Nat × Int) (js := [0, 1, 2, 3, 4, 5, 6, 7, 8, 9, 10, 11]) (fun x => x.1) (fun | (fuel, v75) => l_FnFrameVictim_L0 fl x2 x24 fuel v75 = some o0_0) (fun | (_, v75) => [(3, .pointer (some ⟨b23, 0, none⟩)), (4, .pointer (some ⟨b45, 0, none⟩)), (5, .int .i64 x24.2.1), (10, .int .i64 v75)]) (fun | (_, v75) => [(0, C6), (1, C10), (2, C14), (3, C18), (4, C22), (5, [(b23, .cells #[.slice p3 ((x2.m.t.b).length) c5, .slice p7 ((x2.m.t.f).length) c9, .slice p11 ((x2.m.c.l).length) c13, .int .i64 x2.m.c.h, .int .i64 x2.m.g.c, .int .i64 x2.m.g.n, .int .i64 x2.m.g.r, .slice p15 ((x2.m.g.o).length) c17, .int .i64 x2.m.s, .slice p19 ((x2.k).length) c21, .int .i64 x2.h] 37 (0, 0))]), (6, C28), (7, C32), (8, C36), (9, C40), (10, C44), (11, [(b45, .cells #[.slice p25 ((x24.1.m.t.b).length) c27, .slice p29 ((x24.1.m.t.f).length) c31, .slice p33 ((x24.1.m.c.l).length) c35, .int .i64 x24.1.m.c.h, .int .i64 x24.1.m.g.c, .int .i64 x24.1.m.g.n, .int .i64 x24.1.m.g.r, .slice p37 ((x24.1.m.g.o).length) c39, .int .i64 x24.1.m.s, .slice p41 ((x24.1.k).length) c43, .int .i64 x24.1.h] 37 (0, 0))])]) (fl, 0) eo0_0 ⟨rfl, rfl, rfl, rfl, trivial⟩ ⟨0, [1, 2, 3, 4, 5, 6, 7, 8, 9, 10, 11], rfl, rfl, 1, [2, 3, 4, 5, 6, 7, 8, 9, 10, 11], rfl, rfl, 2, [3, 4, 5, 6, 7, 8, 9, 10, 11], rfl, rfl, 3, [4, 5, 6, 7, 8, 9, 10, 11], rfl, rfl, 4, [5, 6, 7, 8, 9, 10, 11], rfl, rfl, 5, [6, 7, 8, 9, 10, 11], rfl, rfl, 6, [7, 8, 9, 10, 11], rfl, rfl, 7, [8, 9, 10, 11], rfl, rfl, 8, [9, 10, 11], rfl, rfl, 9, [10, 11], rfl, rfl, 10, [11], rfl, rfl, 11, [], rfl, rfl, trivial⟩ (by decide) ?_)
  rintro ⟨fuel, v75⟩ H1
  have H1 : l_FnFrameVictim_L0 fl x2 x24 fuel v75 = some o0_0 := H1
  rcases fuel with _ | fuel
  ·rw [l_FnFrameVictim_L0.eq_1] at H1; cases H1
  rw [l_FnFrameVictim_L0.eq_2] at H1
  dsimp only
  refine cw_seq (sr (oM rfl (oA 0 Tryz.underlying37 rfl ts34 rfl (oA 2 Tryz.underlying34 rfl ts29 rfl (oA 0 Tryz.underlying29 rfl ts27 rfl (oL 5 ts27 rfl (oD (stp_len Tryz.underlying27 rfl) rfl (oW rfl (nn (cw_cond rfl (fun h76 => ?_) (fun h76 => ?_)))))))))))
  ·have H1 := cond_t H1 h76
   obtain ⟨x77, e77, H1⟩ := bS H1
   refine cw_skip (kw_nx (cw_seq (cw_block (sr (oA 0 Tryz.underlying37 rfl ts34 rfl (oA 2 Tryz.underlying34 rfl ts29 rfl (oA 0 Tryz.underlying29 rfl ts27 rfl (oL 5 ts27 rfl (oM rfl (oD (stp_indexAddr Tryz.underlying27 ts47 (by decide) rfl rfl rfl (Rdb.own (id := 2) rfl o14) e77) rfl (oD (stp_loadN (us := [_, _, _, _, _, _]) ts47 rfl (Cells.el (Rdb.own (id := 2) rfl o14) (by decide) e77 0 6 rfl)) rfl (oE (stpU_alloc 18 tz47 rfl) rfl ?_))))))))))))
   rintro _ _ ⟨b78, rfl, rfl⟩
   obtain ⟨y79, ey79, H1⟩ := bS H1
   refine oC6 18 ts47 rfl rfl (nn (sr (oA 0 Tryz.underlying47 rfl ts4 rfl (oL 18 ts4 rfl (oM rfl (ow_cutY 3 82 y79 ?_ ?_))))))
   ·rcases Bool.eq_false_or_eq_true x77.va with hy79 | hy79
    ·have ey79 := cond_t ey79 hy79
     refine oG rfl hy79 (fA 5 Tryz.underlying47 rfl ts4 rfl rfl rfl) rfl (oG rfl hy79 (lB 18 ts4 rfl rfl rfl) rfl (oD (stp_pick_t rfl hy79 rfl) rfl ?_))
     obtain rfl := sI ey79
     exact ow_nil (jy 3 0)
    have ey79 := cond_f ey79 hy79
    refine oO rfl hy79 rfl (oO rfl hy79 rfl (oD (stp_pick_f rfl hy79 rfl) rfl ?_))
    obtain rfl := sI ey79
    exact ow_nil (jy 3 0)
   obtain ⟨y80, ey80, H1⟩ := bS H1
   refine oM rfl (ow_cutY 5 88 y80 ?_ ?_)
   ·rcases Bool.eq_false_or_eq_true y79 with hy80 | hy80
    ·have ey80 := cond_t ey80 hy80
     refine oG rfl hy80 (fA 3 Tryz.underlying47 rfl ts3 rfl rfl rfl) rfl (oG rfl hy80 (lB 18 ts3 rfl rfl rfl) rfl (oG rfl hy80 (mv rfl) rfl (oG rfl hy80 (stp_eql rfl rfl) rfl (oD (stp_pick_t rfl hy80 rfl) rfl ?_))))
     obtain rfl := sI ey80
     exact ow_nil (jy 5 0)
    have ey80 := cond_f ey80 hy80
    refine oO rfl hy80 rfl (oO rfl hy80 rfl (oO rfl hy80 rfl (oO rfl hy80 rfl (oD (stp_pick_f rfl hy80 rfl) rfl ?_))))
    obtain rfl := sI ey80
    exact ow_nil (jy 5 0)
   refine ow_nil (kw_nx (cw_cond rfl (fun h81 => ?_) (fun h81 => ?_)))
   ·have H1 := cond_t H1 h81
    refine sr (oS rfl (nn (cw_ret (kw_bl_ret (kw_nx_ret (kw_lq_ret (kw_bl_ret (kw_join_ret (kw_nx_ret ?_)))))))))
    obtain rfl := sI H1
    obtain rfl := sI H0
    exact kr Tryz.results4 (rT rfl) [] ⟨rfl, rfl⟩
   have H1 := cond_f H1 h81
   obtain ⟨x82, e82, H1⟩ := bS H1
   exact cw_skip (kw_bl_normal (kw_nx (cw_region (oM rfl (oP e82 rfl (oS rfl (ow_nil (kw_lqS (js := [0, 1, 2, 3, 4, 5, 6, 7, 8, 9, 10, 11]) (fuel, x82) H1 (Nat.lt_succ_self _) ⟨rfl, rfl, rfl, rfl, trivial⟩ ⟨0, [1, 2, 3, 4, 5, 6, 7, 8, 9, 10, 11], rfl, rfl, 1, [2, 3, 4, 5, 6, 7, 8, 9, 10, 11], rfl, rfl, 2, [3, 4, 5, 6, 7, 8, 9, 10, 11], rfl, rfl, 3, [4, 5, 6, 7, 8, 9, 10, 11], rfl, rfl, 4, [5, 6, 7, 8, 9, 10, 11], rfl, rfl, 5, [6, 7, 8, 9, 10, 11], rfl, rfl, 6, [7, 8, 9, 10, 11], rfl, rfl, 7, [8, 9, 10, 11], rfl, rfl, 8, [9, 10, 11], rfl, rfl, 9, [10, 11], rfl, rfl, 10, [11], rfl, rfl, 11, [], rfl, rfl, trivial⟩ (by decide)))))))))
  have H1 := cond_f H1 h76
  refine cw_exit (kw_nx_exit (kw_lq_exit (kw_bl ?_)))
  obtain rfl := sI H1
  exact kw_joinS (js := [0, 1, 2, 3, 4, 5, 6, 7, 8, 9, 10, 11]) v75 rfl ⟨rfl, rfl, rfl, rfl, trivial⟩ ⟨0, [1, 2, 3, 4, 5, 6, 7, 8, 9, 10, 11], rfl, rfl, 1, [2, 3, 4, 5, 6, 7, 8, 9, 10, 11], rfl, rfl, 2, [3, 4, 5, 6, 7, 8, 9, 10, 11], rfl, rfl, 3, [4, 5, 6, 7, 8, 9, 10, 11], rfl, rfl, 4, [5, 6, 7, 8, 9, 10, 11], rfl, rfl, 5, [6, 7, 8, 9, 10, 11], rfl, rfl, 6, [7, 8, 9, 10, 11], rfl, rfl, 7, [8, 9, 10, 11], rfl, rfl, 8, [9, 10, 11], rfl, rfl, 9, [10, 11], rfl, rfl, 10, [11], rfl, rfl, 11, [], rfl, rfl, trivial⟩ (by decide)
 rintro v75 rfl
 dsimp only
 obtain ⟨o0_1, eo0_1, H0⟩ := bS H0
 refine kw_nx (cw_seq (sr (oS rfl (nn (cw_join (ι := Int) (fun | v83 => o0_1 = .out v83) (fun | v83 => [(3, .pointer (some ⟨b23, 0, none⟩)), (4, .pointer (some ⟨b45, 0, none⟩)), (5, .int .i64 x24.2.1), (12, .int .i64 v83)]) (fun | v83 => [(0, C6), (1, C10), (2, C14), (3, C18), (4, C22), (5, [(b23, .cells #[.slice p3 ((x2.m.t.b).length) c5, .slice p7 ((x2.m.t.f).length) c9, .slice p11 ((x2.m.c.l).length) c13, .int .i64 x2.m.c.h, .int .i64 x2.m.g.c, .int .i64 x2.m.g.n, .int .i64 x2.m.g.r, .slice p15 ((x2.m.g.o).length) c17, .int .i64 x2.m.s, .slice p19 ((x2.k).length) c21, .int .i64 x2.h] 37 (0, 0))]), (6, C28), (7, C32), (8, C36), (9, C40), (10, C44), (11, [(b45, .cells #[.slice p25 ((x24.1.m.t.b).length) c27, .slice p29 ((x24.1.m.t.f).length) c31, .slice p33 ((x24.1.m.c.l).length) c35, .int .i64 x24.1.m.c.h, .int .i64 x24.1.m.g.c, .int .i64 x24.1.m.g.n, .int .i64 x24.1.m.g.r, .slice p37 ((x24.1.m.g.o).length) c39, .int .i64 x24.1.m.s, .slice p41 ((x24.1.k).length) c43, .int .i64 x24.1.h] 37 (0, 0))])]) ?_ ?_)))))
 ·refine cw_block (cw_loopS (ι := Nat × Int) (js := [0, 1, 2, 3, 4, 5, 6, 7, 8, 9, 10, 11]) (fun x => x.1) (fun | (fuel, v83) => l_FnFrameVictim_L1 fl x2 x24 fuel v83 = some o0_1) (fun | (_, v83) => [(3, .pointer (some ⟨b23, 0, none⟩)), (4, .pointer (some ⟨b45, 0, none⟩)), (5, .int .i64 x24.2.1), (12, .int .i64 v83)]) (fun | (_, v83) => [(0, C6), (1, C10), (2, C14), (3, C18), (4, C22), (5, [(b23, .cells #[.slice p3 ((x2.m.t.b).length) c5, .slice p7 ((x2.m.t.f).length) c9, .slice p11 ((x2.m.c.l).length) c13, .int .i64 x2.m.c.h, .int .i64 x2.m.g.c, .int .i64 x2.m.g.n, .int .i64 x2.m.g.r, .slice p15 ((x2.m.g.o).length) c17, .int .i64 x2.m.s, .slice p19 ((x2.k).length) c21, .int .i64 x2.h] 37 (0, 0))]), (6, C28), (7, C32), (8, C36), (9, C40), (10, C44), (11, [(b45, .cells #[.slice p25 ((x24.1.m.t.b).length) c27, .slice p29 ((x24.1.m.t.f).length) c31, .slice p33 ((x24.1.m.c.l).length) c35, .int .i64 x24.1.m.c.h, .int .i64 x24.1.m.g.c, .int .i64 x24.1.m.g.n, .int .i64 x24.1.m.g.r, .slice p37 ((x24.1.m.g.o).length) c39, .int .i64 x24.1.m.s, .slice p41 ((x24.1.k).length) c43, .int .i64 x24.1.h] 37 (0, 0))])]) (fl, 0) eo0_1 ⟨rfl, rfl, rfl, rfl, trivial⟩ ⟨0, [1, 2, 3, 4, 5, 6, 7, 8, 9, 10, 11], rfl, rfl, 1, [2, 3, 4, 5, 6, 7, 8, 9, 10, 11], rfl, rfl, 2, [3, 4, 5, 6, 7, 8, 9, 10, 11], rfl, rfl, 3, [4, 5, 6, 7, 8, 9, 10, 11], rfl, rfl, 4, [5, 6, 7, 8, 9, 10, 11], rfl, rfl, 5, [6, 7, 8, 9, 10, 11], rfl, rfl, 6, [7, 8, 9, 10, 11], rfl, rfl, 7, [8, 9, 10, 11], rfl, rfl, 8, [9, 10, 11], rfl, rfl, 9, [10, 11], rfl, rfl, 10, [11], rfl, rfl, 11, [], rfl, rfl, trivial⟩ (by decide) ?_)
  rintro ⟨fuel, v83⟩ H1
  have H1 : l_FnFrameVictim_L1 fl x2 x24 fuel v83 = some o0_1 := H1
  rcases fuel with _ | fuel
  ·rw [l_FnFrameVictim_L1.eq_1] at H1; cases H1
  rw [l_FnFrameVictim_L1.eq_2] at H1
  dsimp only
  refine cw_seq (sr (oM rfl (oA 9 Tryz.underlying37 rfl ts35 rfl (oL 5 ts35 rfl (oD (stp_len Tryz.underlying35 rfl) rfl (oW rfl (nn (cw_cond rfl (fun h84 => ?_) (fun h84 => ?_)))))))))
  ·have H1 := cond_t H1 h84
   obtain ⟨x85, e85, H1⟩ := bS H1
   obtain ⟨y86, ey86, H1⟩ := bS H1
   refine cw_skip (kw_nx (cw_seq (cw_block (sr (oA 9 Tryz.underlying37 rfl ts35 rfl (oL 11 ts35 rfl (oM rfl (oD (stp_indexAddr Tryz.underlying35 ts4 (by decide) rfl rfl rfl (Rdb.own (id := 10) rfl o44) e85) rfl (oD (stp_load1 ts4 rfl (Cells.el (Rdb.own (id := 10) rfl o44) (by decide) e85 0 1 rfl)) rfl (oM rfl (ow_cutY 7 108 y86 ?_ ?_)))))))))))
   ·rcases Bool.eq_false_or_eq_true x85 with hy86 | hy86
    ·have ey86 := cond_t ey86 hy86
     obtain ⟨x87, e87, ey86⟩ := bS ey86
     refine oG rfl hy86 (fA 9 Tryz.underlying37 rfl ts35 rfl rfl rfl) rfl (oG rfl hy86 (lB 5 ts35 rfl rfl rfl) rfl (oG rfl hy86 (mv rfl) rfl (oG rfl hy86 (stp_indexAddr Tryz.underlying35 ts4 (by decide) rfl rfl rfl (Rdb.own (id := 4) rfl o22) e87) rfl (oG rfl hy86 (stp_load1 ts4 rfl (Cells.el (Rdb.own (id := 4) rfl o22) (by decide) e87 0 1 rfl)) rfl (oG rfl hy86 (stp_not rfl) rfl (oD (stp_pick_t rfl hy86 rfl) rfl ?_))))))
     obtain rfl := sI ey86
     exact ow_nil (jy 7 0)
    have ey86 := cond_f ey86 hy86
    refine oO rfl hy86 rfl (oO rfl hy86 rfl (oO rfl hy86 rfl (oO rfl hy86 rfl (oO rfl hy86 rfl (oO rfl hy86 rfl (oD (stp_pick_f rfl hy86 rfl) rfl ?_))))))
    obtain rfl := sI ey86
    exact ow_nil (jy 7 0)
   refine ow_nil (kw_nx (cw_cond rfl (fun h88 => ?_) (fun h88 => ?_)))
   ·have H1 := cond_t H1 h88
    refine sr (oS rfl (nn (cw_ret (kw_bl_ret (kw_nx_ret (kw_lq_ret (kw_bl_ret (kw_join_ret (kw_nx_ret ?_)))))))))
    obtain rfl := sI H1
    obtain rfl := sI H0
    exact kr Tryz.results4 (rT rfl) [] ⟨rfl, rfl⟩
   have H1 := cond_f H1 h88
   obtain ⟨x89, e89, H1⟩ := bS H1
   exact cw_skip (kw_bl_normal (kw_nx (cw_region (oM rfl (oP e89 rfl (oS rfl (ow_nil (kw_lqS (js := [0, 1, 2, 3, 4, 5, 6, 7, 8, 9, 10, 11]) (fuel, x89) H1 (Nat.lt_succ_self _) ⟨rfl, rfl, rfl, rfl, trivial⟩ ⟨0, [1, 2, 3, 4, 5, 6, 7, 8, 9, 10, 11], rfl, rfl, 1, [2, 3, 4, 5, 6, 7, 8, 9, 10, 11], rfl, rfl, 2, [3, 4, 5, 6, 7, 8, 9, 10, 11], rfl, rfl, 3, [4, 5, 6, 7, 8, 9, 10, 11], rfl, rfl, 4, [5, 6, 7, 8, 9, 10, 11], rfl, rfl, 5, [6, 7, 8, 9, 10, 11], rfl, rfl, 6, [7, 8, 9, 10, 11], rfl, rfl, 7, [8, 9, 10, 11], rfl, rfl, 8, [9, 10, 11], rfl, rfl, 9, [10, 11], rfl, rfl, 10, [11], rfl, rfl, 11, [], rfl, rfl, trivial⟩ (by decide)))))))))
  have H1 := cond_f H1 h84
  refine cw_exit (kw_nx_exit (kw_lq_exit (kw_bl ?_)))
  obtain rfl := sI H1
  exact kw_joinS (js := [0, 1, 2, 3, 4, 5, 6, 7, 8, 9, 10, 11]) v83 rfl ⟨rfl, rfl, rfl, rfl, trivial⟩ ⟨0, [1, 2, 3, 4, 5, 6, 7, 8, 9, 10, 11], rfl, rfl, 1, [2, 3, 4, 5, 6, 7, 8, 9, 10, 11], rfl, rfl, 2, [3, 4, 5, 6, 7, 8, 9, 10, 11], rfl, rfl, 3, [4, 5, 6, 7, 8, 9, 10, 11], rfl, rfl, 4, [5, 6, 7, 8, 9, 10, 11], rfl, rfl, 5, [6, 7, 8, 9, 10, 11], rfl, rfl, 6, [7, 8, 9, 10, 11], rfl, rfl, 7, [8, 9, 10, 11], rfl, rfl, 8, [9, 10, 11], rfl, rfl, 9, [10, 11], rfl, rfl, 10, [11], rfl, rfl, 11, [], rfl, rfl, trivial⟩ (by decide)
 rintro v83 rfl
 dsimp only
 obtain ⟨x90, e90, H0⟩ := bS H0
 obtain ⟨y91, ey91, H0⟩ := bS H0
 refine kw_nx (cw_seq (rdt g_mixed (rn 0 39) ⟨[[11],[6,7,8,9,10],[],[],[],[],[5],[],[1],[],[1],[],[],[],[11],[],[10],[10],[],[],[],[],[11],[],[],[],[5],[],[],[],[],[],[],[11],[],[5],[0,1,2,3,6,7,8,9]], [], []⟩ (dB11 11 ts37 rfl (dV rfl (fun hh => stpU_call (fun i => 19 + i) cf10 (fun w hw => c_i_MemoryValid fl w x24.1 rfl (OwnC.pass (id := 6) (hh _ _ rfl) o28 hw) rfl (OwnC.pass (id := 7) (hh _ _ rfl) o32 hw) rfl (OwnC.pass (id := 8) (hh _ _ rfl) o36 hw) rfl (OwnC.pass (id := 9) (hh _ _ rfl) o40 hw) rfl (OwnC.pass (id := 10) (hh _ _ rfl) o44 hw) (RO.pass hg hw) x90 e90) (yA rfl)) rfl (dM rfl (dcY 9 120 y91 ?_ ?_))))))
 ·rcases Bool.eq_false_or_eq_true x90 with hy91 | hy91
  ·have ey91 := cond_t ey91 hy91
   obtain ⟨x92, e92, ey91⟩ := bS ey91
   refine dG rfl hy91 (fA 0 Tryz.underlying37 rfl ts34 rfl rfl rfl) (dG rfl hy91 (fA 0 Tryz.underlying34 rfl ts26 rfl rfl rfl) (dG rfl hy91 (fA 1 Tryz.underlying26 rfl ts24 rfl rfl rfl) (dG rfl hy91 (lB 5 ts24 rfl rfl rfl) (dG rfl hy91 (mv rfl) (dG rfl hy91 (stp_indexAddr Tryz.underlying24 ts51 (by decide) rfl rfl rfl (Rdb.own (id := 1) rfl o10) e92) (dG rfl hy91 (fA 0 Tryz.underlying51 rfl ts4 rfl rfl rfl) (dG rfl hy91 (stp_load1 ts4 rfl (Cells.el (Rdb.own (id := 1) rfl o10) (by decide) e92 0 1 rfl)) (dD rfl (stp_pick_t rfl hy91 rfl) ?_))))))))
   obtain rfl := sI ey91
   exact dy 9 0
  have ey91 := cond_f ey91 hy91
  refine dO rfl hy91 (dO rfl hy91 (dO rfl hy91 (dO rfl hy91 (dO rfl hy91 (dO rfl hy91 (dO rfl hy91 (dO rfl hy91 (dD rfl (stp_pick_f rfl hy91 rfl) ?_))))))))
  obtain rfl := sI ey91
  exact dy 9 0
 obtain ⟨y93, ey93, H0⟩ := bS H0
 refine dM rfl (dcY 7 128 y93 ?_ ?_)
 ·rcases Bool.eq_false_or_eq_true y91 with hy93 | hy93
  ·have ey93 := cond_t ey93 hy93
   obtain ⟨x94, e94, ey93⟩ := bS ey93
   refine dG rfl hy93 (fA 9 Tryz.underlying37 rfl ts35 rfl rfl rfl) (dG rfl hy93 (lB 11 ts35 rfl rfl rfl) (dG rfl hy93 (mv rfl) (dG rfl hy93 (stp_indexAddr Tryz.underlying35 ts4 (by decide) rfl rfl rfl (Rdb.own (id := 10) rfl o44) e94) (dG rfl hy93 (stp_load1 ts4 rfl (Cells.el (Rdb.own (id := 10) rfl o44) (by decide) e94 0 1 rfl)) (dG rfl hy93 (stp_not rfl) (dD rfl (stp_pick_t rfl hy93 rfl) ?_))))))
   obtain rfl := sI ey93
   exact dy 7 0
  have ey93 := cond_f ey93 hy93
  refine dO rfl hy93 (dO rfl hy93 (dO rfl hy93 (dO rfl hy93 (dO rfl hy93 (dO rfl hy93 (dD rfl (stp_pick_f rfl hy93 rfl) ?_))))))
  obtain rfl := sI ey93
  exact dy 7 0
 obtain ⟨y95, ey95, H0⟩ := bS H0
 refine dM rfl (dcY 10 139 y95 ?_ ?_)
 ·rcases Bool.eq_false_or_eq_true y93 with hy95 | hy95
  ·have ey95 := cond_t ey95 hy95
   obtain ⟨x96, e96, ey95⟩ := bS ey95
   obtain ⟨x97, e97, ey95⟩ := bS ey95
   refine dG rfl hy95 (fA 10 Tryz.underlying37 rfl ts3 rfl rfl rfl) (dG rfl hy95 (lB 11 ts3 rfl rfl rfl) (dG rfl hy95 (mv rfl) (dG rfl hy95 (stp_add rfl rfl e96) (dG rfl hy95 (fA 9 Tryz.underlying37 rfl ts35 rfl rfl rfl) (dG rfl hy95 (lB 5 ts35 rfl rfl rfl) (dG rfl hy95 (stp_len Tryz.underlying35 rfl) (dG rfl hy95 (stp_rem rfl rfl e97) (dG rfl hy95 (stp_eql rfl rfl) (dD rfl (stp_pick_t rfl hy95 rfl) ?_)))))))))
   obtain rfl := sI ey95
   exact dy 10 0
  have ey95 := cond_f ey95 hy95
  refine dO rfl hy95 (dO rfl hy95 (dO rfl hy95 (dO rfl hy95 (dO rfl hy95 (dO rfl hy95 (dO rfl hy95 (dO rfl hy95 (dO rfl hy95 (dD rfl (stp_pick_f rfl hy95 rfl) ?_)))))))))
  obtain rfl := sI ey95
  exact dy 10 0
 obtain ⟨y98, ey98, H0⟩ := bS H0
 refine dM rfl (dcY 6 146 y98 ?_ ?_)
 ·rcases Bool.eq_false_or_eq_true y95 with hy98 | hy98
  ·have ey98 := cond_t ey98 hy98
   obtain ⟨x99, e99, ey98⟩ := bS ey98
   refine dG rfl hy98 (fA 0 Tryz.underlying37 rfl ts34 rfl rfl rfl) (dG rfl hy98 (stp_loadN (us := [_, _, _, _, _, _, _, _, _]) ts34 rfl (Cells.box (id := 11) rfl 9 rfl)) (dG rfl hy98 (fA 0 Tryz.underlying37 rfl ts34 rfl rfl rfl) (dG rfl hy98 (stp_loadN (us := [_, _, _, _, _, _, _, _, _]) ts34 rfl (Cells.box (id := 5) rfl 9 rfl)) (dVg rfl hy98 (fun hh => stpU_call (fun i => 19 + i) cf15 (fun w hw => c_i_MachineSame fl w x24.1.m x2.m rfl (OwnC.pass (id := 6) (hh _ _ rfl) o28 hw) rfl (OwnC.pass (id := 7) (hh _ _ rfl) o32 hw) rfl (OwnC.pass (id := 8) (hh _ _ rfl) o36 hw) rfl (OwnC.pass (id := 9) (hh _ _ rfl) o40 hw) rfl (OwnC.pass (id := 0) (hh _ _ rfl) o6 hw) rfl (OwnC.pass (id := 1) (hh _ _ rfl) o10 hw) rfl (OwnC.pass (id := 2) (hh _ _ rfl) o14 hw) rfl (OwnC.pass (id := 3) (hh _ _ rfl) o18 hw) x99 e99) (yB rfl rfl)) rfl (dD rfl (stp_pick_t rfl hy98 rfl) ?_)))))
   obtain rfl := sI ey98
   exact dy 6 0
  have ey98 := cond_f ey98 hy98
  refine dO rfl hy98 (dO rfl hy98 (dO rfl hy98 (dO rfl hy98 (dO rfl hy98 (dD rfl (stp_pick_f rfl hy98 rfl) ?_)))))
  obtain rfl := sI ey98
  exact dy 6 0
 refine dS rfl (dn (kw_nx (cw_ret ?_)))
 obtain rfl := sI H0
 exact kr Tryz.results4 (rT rfl) [] ⟨rfl, rfl⟩
end Go.Proofs.YtkccmjfhmkjnlaaGreatDoor
