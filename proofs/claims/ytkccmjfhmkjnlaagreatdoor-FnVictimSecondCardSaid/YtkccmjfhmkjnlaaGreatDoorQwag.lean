/- The walks: functions of the program return what their pure functions say. Printed by a program (gen.py). -/
import Derived.Test.YtkccmjfhmkjnlaaGreatDoorQp
import Derived.Test.YtkccmjfhmkjnlaaGreatDoorQt
import Derived.Test.YtkccmjfhmkjnlaaGreatDoorMan
import Derived.Test.YtkccmjfhmkjnlaaGreatDoorMap
import Derived.Test.YtkccmjfhmkjnlaaGreatDoorCpy
import Derived.Test.YtkccmjfhmkjnlaaGreatDoorQe
import Derived.Test.YtkccmjfhmkjnlaaGreatDoorQwac
import Derived.Test.YtkccmjfhmkjnlaaGreatDoorQwae
set_option linter.unusedSimpArgs false
set_option linter.unusedVariables false
set_option linter.unusedSectionVars false
namespace Go.Proofs.YtkccmjfhmkjnlaaGreatDoor
open Go.RowKit
set_option maxHeartbeats 4000000
set_option maxRecDepth 20000
variable {p0_0 : Option Addr} {n0_0 : Nat} {c0_0 : Nat}
theorem c_l_FnVictimSecond (fl : Nat) (w : World) (a0 : (List UInt8)) (hn0_0 : n0_0 = (a0).length) (hr0_0 : RO w (hkeys []) (RdL p0_0 c0_0 a0)) (hg : RO w (hkeys []) (fun w' => w'.rangeAt 0 0 [.bool false, .int .i64 0, .int .i64 0, .int .i64 0, .int .i64 (-1)])) (r : Bool) (H0 : l_FnVictimSecond fl a0 = some r) :
  Ct Tryz.prog 5 [.slice p0_0 n0_0 c0_0] w [] (fun rv h' => rv = .bool r ∧ h' = []) := by
 subst hn0_0
 unfold l_FnVictimSecond at H0
 refine ct_of_cw Tryz.func5 rfl Tryz.ntmps5 rfl (Sat.refl _ _) ?_
 refine sr (oS rfl (nn (cw_seq (sr (oM rfl (oD (stp_len Tryz.underlying22 rfl) rfl (oJ rfl (nn (cw_cond rfl (fun h1 => ?_) (fun h1 => ?_))))))))))
 ·have H0 := cond_t H0 h1
  refine sr (oS rfl (nn (cw_ret (kw_nx_ret ?_))))
  obtain rfl := sI H0
  exact kr Tryz.results5 (rT rfl) [] ⟨rfl, rfl⟩
 have H0 := cond_f H0 h1
 obtain ⟨x2, e2, H0⟩ := bS H0
 refine cw_skip (kw_nx (sr (oM rfl (oE (stpU_call (fun i => 0 + i) cf13 (fun w hw => c_s_DrawFrameVictim fl w a0 rfl (RO.pass hr0_0 hw) x2 e2) (yA rfl)) rfl ?_))))
 rintro _ _ ⟨_, ⟨p3, _, c5, C6, p7, _, c9, C10, p11, _, c13, C14, p15, _, c17, C18, p19, _, c21, C22, rfl, rfl, rfl, o6, rfl, o10, rfl, o14, rfl, o18, rfl, o22⟩, rfl⟩
 refine oE (stpU_alloc 5 tz37 rfl) rfl ?_
 rintro _ _ ⟨b23, rfl, rfl⟩
 obtain ⟨x24, e24, H0⟩ := bS H0
 refine oC11 5 ts37 rfl rfl (nn (sr (oB11 5 ts37 rfl (oE (stpU_call (fun i => 6 + i) cf12 (fun w hw => c_i_FrameVictim fl w x2 rfl (OwnC.pass (id := 0) rfl o6 hw) rfl (OwnC.pass (id := 1) rfl o10 hw) rfl (OwnC.pass (id := 2) rfl o14 hw) rfl (OwnC.pass (id := 3) rfl o18 hw) rfl (OwnC.pass (id := 4) rfl o22 hw) (RO.pass hg hw) x24 e24) (yA rfl)) rfl ?_))))
 rintro _ _ ⟨_, ⟨p25, _, c27, C28, p29, _, c31, C32, p33, _, c35, C36, p37, _, c39, C40, p41, _, c43, C44, rfl, rfl, rfl, o28, rfl, o32, rfl, o36, rfl, o40, rfl, o44⟩, rfl⟩
 refine oM rfl (oT rfl (oT rfl (oT rfl (oE (stpU_alloc 11 tz37 rfl) rfl ?_))))
 rintro _ _ ⟨b45, rfl, rfl⟩
 obtain ⟨x46, e46, H0⟩ := bS H0
 refine oC11 11 ts37 rfl rfl (oS rfl (oS rfl (nn (sr (oB11 5 ts37 rfl (oE (stpU_call (fun i => 12 + i) cf14 (fun w hw => c_s_FrameVictim fl w x2 rfl (OwnC.pass (id := 0) rfl o6 hw) rfl (OwnC.pass (id := 1) rfl o10 hw) rfl (OwnC.pass (id := 2) rfl o14 hw) rfl (OwnC.pass (id := 3) rfl o18 hw) rfl (OwnC.pass (id := 4) rfl o22 hw) x46 e46) (yA rfl)) rfl ?_))))))
 rintro _ _ ⟨_, ⟨p47, _, c49, C50, p51, _, c53, C54, p55, _, c57, C58, p59, _, c61, C62, p63, _, c65, C66, rfl, rfl, rfl, o50, rfl, o54, rfl, o58, rfl, o62, rfl, o66⟩, rfl⟩
 refine oM rfl (oT rfl (oT rfl (oT rfl (oE (stpU_alloc 17 tz37 rfl) rfl ?_))))
 rintro _ _ ⟨b67, rfl, rfl⟩
 obtain ⟨x68, e68, H0⟩ := bS H0
 refine oC11 17 ts37 rfl rfl (oS rfl (oS rfl (nn (cw_seq (sr (oB11 11 ts37 rfl (oB11 17 ts37 rfl (oE (stpU_call (fun i => 18 + i) cf9 (fun w hw => c_i_MemorySame fl w x24.1 x46.1 rfl (OwnC.pass (id := 6) rfl o28 hw) rfl (OwnC.pass (id := 7) rfl o32 hw) rfl (OwnC.pass (id := 8) rfl o36 hw) rfl (OwnC.pass (id := 9) rfl o40 hw) rfl (OwnC.pass (id := 10) rfl o44 hw) rfl (OwnC.pass (id := 12) rfl o50 hw) rfl (OwnC.pass (id := 13) rfl o54 hw) rfl (OwnC.pass (id := 14) rfl o58 hw) rfl (OwnC.pass (id := 15) rfl o62 hw) rfl (OwnC.pass (id := 16) rfl o66 hw) x68 e68) (yB rfl rfl)) rfl ?_))))))))
 rintro _ _ ⟨_, ⟨rfl, rfl⟩, rfl⟩
 obtain ⟨y69, ey69, H0⟩ := bS H0
 refine oK rfl (oM rfl (ow_cutY 4 39 y69 ?_ ?_))
 ·rcases Bool.eq_false_or_eq_true (!x68) with hy69 | hy69
  ·have ey69 := cond_t ey69 hy69
   refine oO rfl hy69 rfl (oO rfl hy69 rfl (oO rfl hy69 rfl (oD (stp_pick_t rfl hy69 rfl) rfl ?_)))
   obtain rfl := sI ey69
   exact ow_nil (jy 4 0)
  have ey69 := cond_f ey69 hy69
  refine oG rfl hy69 (mv rfl) rfl (oG rfl hy69 (mv rfl) rfl (oG rfl hy69 (stp_neq rfl rfl) rfl (oD (stp_pick_f rfl hy69 rfl) rfl ?_)))
  obtain rfl := sI ey69
  exact ow_nil (jy 4 0)
 obtain ⟨y70, ey70, H0⟩ := bS H0
 refine oM rfl (ow_cutY 4 44 y70 ?_ ?_)
 ·rcases Bool.eq_false_or_eq_true y69 with hy70 | hy70
  ·have ey70 := cond_t ey70 hy70
   refine oO rfl hy70 rfl (oO rfl hy70 rfl (oO rfl hy70 rfl (oD (stp_pick_t rfl hy70 rfl) rfl ?_)))
   obtain rfl := sI ey70
   exact ow_nil (jy 4 0)
  have ey70 := cond_f ey70 hy70
  refine oG rfl hy70 (mv rfl) rfl (oG rfl hy70 (mv rfl) rfl (oG rfl hy70 (stp_neqB Tryz.underlying4 rfl rfl) rfl (oD (stp_pick_f rfl hy70 rfl) rfl ?_)))
  obtain rfl := sI ey70
  exact ow_nil (jy 4 0)
 obtain ⟨y71, ey71, H0⟩ := bS H0
 refine oM rfl (ow_cutY 3 48 y71 ?_ ?_)
 ·rcases Bool.eq_false_or_eq_true y70 with hy71 | hy71
  ·have ey71 := cond_t ey71 hy71
   refine oO rfl hy71 rfl (oO rfl hy71 rfl (oD (stp_pick_t rfl hy71 rfl) rfl ?_))
   obtain rfl := sI ey71
   exact ow_nil (jy 3 0)
  have ey71 := cond_f ey71 hy71
  refine oG rfl hy71 (mv rfl) rfl (oG rfl hy71 (stp_not rfl) rfl (oD (stp_pick_f rfl hy71 rfl) rfl ?_))
  obtain rfl := sI ey71
  exact ow_nil (jy 3 0)
 obtain ⟨y72, ey72, H0⟩ := bS H0
 refine oM rfl (ow_cutY 7 56 y72 ?_ ?_)
 ·rcases Bool.eq_false_or_eq_true y71 with hy72 | hy72
  ·have ey72 := cond_t ey72 hy72
   refine oO rfl hy72 rfl (oO rfl hy72 rfl (oO rfl hy72 rfl (oO rfl hy72 rfl (oO rfl hy72 rfl (oO rfl hy72 rfl (oD (stp_pick_t rfl hy72 rfl) rfl ?_))))))
   obtain rfl := sI ey72
   exact ow_nil (jy 7 0)
  have ey72 := cond_f ey72 hy72
  obtain ⟨x73, e73, ey72⟩ := bS ey72
  refine oG rfl hy72 (fA 9 Tryz.underlying37 rfl ts35 rfl rfl rfl) rfl (oG rfl hy72 (lB 5 ts35 rfl rfl rfl) rfl (oG rfl hy72 (mv rfl) rfl (oG rfl hy72 (stp_indexAddr Tryz.underlying35 ts4 (by decide) rfl rfl rfl (Rdb.own (id := 4) rfl o22) e73) rfl (oG rfl hy72 (stp_load1 ts4 rfl (Cells.el (Rdb.own (id := 4) rfl o22) (by decide) e73 0 1 rfl)) rfl (oG rfl hy72 (stp_not rfl) rfl (oD (stp_pick_f rfl hy72 rfl) rfl ?_))))))
  obtain rfl := sI ey72
  exact ow_nil (jy 7 0)
 refine ow_nil (kw_nx (cw_cond rfl (fun h74 => ?_) (fun h74 => ?_)))
 ·have H0 := cond_t H0 h74
  refine sr (oB11 11 ts37 rfl (oB11 17 ts37 rfl (oE (stpU_call (fun i => 18 + i) cf9 (fun w hw => c_i_MemorySame fl w x24.1 x46.1 rfl (OwnC.pass (id := 6) rfl o28 hw) rfl (OwnC.pass (id := 7) rfl o32 hw) rfl (OwnC.pass (id := 8) rfl o36 hw) rfl (OwnC.pass (id := 9) rfl o40 hw) rfl (OwnC.pass (id := 10) rfl o44 hw) rfl (OwnC.pass (id := 12) rfl o50 hw) rfl (OwnC.pass (id := 13) rfl o54 hw) rfl (OwnC.pass (id := 14) rfl o58 hw) rfl (OwnC.pass (id := 15) rfl o62 hw) rfl (OwnC.pass (id := 16) rfl o66 hw) x68 e68) (yB rfl rfl)) rfl ?_)))
  rintro _ _ ⟨_, ⟨rfl, rfl⟩, rfl⟩
  obtain ⟨y75, ey75, H0⟩ := bS H0
  refine oM rfl (ow_cutY 4 64 y75 ?_ ?_)
  ·rcases Bool.eq_false_or_eq_true x68 with hy75 | hy75
   ·have ey75 := cond_t ey75 hy75
    refine oG rfl hy75 (mv rfl) rfl (oG rfl hy75 (mv rfl) rfl (oG rfl hy75 (stp_eql rfl rfl) rfl (oD (stp_pick_t rfl hy75 rfl) rfl ?_)))
    obtain rfl := sI ey75
    exact ow_nil (jy 4 0)
   have ey75 := cond_f ey75 hy75
   refine oO rfl hy75 rfl (oO rfl hy75 rfl (oO rfl hy75 rfl (oD (stp_pick_f rfl hy75 rfl) rfl ?_)))
   obtain rfl := sI ey75
   exact ow_nil (jy 4 0)
  obtain ⟨y76, ey76, H0⟩ := bS H0
  refine oM rfl (ow_cutY 4 69 y76 ?_ ?_)
  ·rcases Bool.eq_false_or_eq_true y75 with hy76 | hy76
   ·have ey76 := cond_t ey76 hy76
    refine oG rfl hy76 (mv rfl) rfl (oG rfl hy76 (mv rfl) rfl (oG rfl hy76 (stp_eqlB Tryz.underlying4 rfl rfl) rfl (oD (stp_pick_t rfl hy76 rfl) rfl ?_)))
    obtain rfl := sI ey76
    exact ow_nil (jy 4 0)
   have ey76 := cond_f ey76 hy76
   refine oO rfl hy76 rfl (oO rfl hy76 rfl (oO rfl hy76 rfl (oD (stp_pick_f rfl hy76 rfl) rfl ?_)))
   obtain rfl := sI ey76
   exact ow_nil (jy 4 0)
  refine oS rfl (nn (cw_ret (kw_nx_ret ?_)))
  obtain rfl := sI H0
  exact kr Tryz.results5 (rT rfl) [] ⟨rfl, rfl⟩
 have H0 := cond_f H0 h74
 obtain ⟨o0_0, eo0_0, H0⟩ := bS H0
 refine cw_skip (kw_nx (cw_seq (sr (oS rfl (nn (cw_join (ι := Int) (fun | v77 => o0_0 = .out v77) (fun | v77 => [(3, .pointer (some ⟨b23, 0, none⟩)), (10, .int .i64 v77)]) (fun | v77 => [(0, C6), (1, C10), (2, C14), (3, C18), (4, C22), (5, [(b23, .cells #[.slice p3 ((x2.m.t.b).length) c5, .slice p7 ((x2.m.t.f).length) c9, .slice p11 ((x2.m.c.l).length) c13, .int .i64 x2.m.c.h, .int .i64 x2.m.g.c, .int .i64 x2.m.g.n, .int .i64 x2.m.g.r, .slice p15 ((x2.m.g.o).length) c17, .int .i64 x2.m.s, .slice p19 ((x2.k).length) c21, .int .i64 x2.h] 37 (0, 0))])]) ?_ ?_))))))
 ·refine cw_block (cw_loopS (ι := Nat × Int) (js := [0, 1, 2, 3, 4, 5]) (fun x => x.1) (fun | (fuel, v77) => l_FnVictimSecond_L0 fl x2 fuel v77 = some o0_0) (fun | (_, v77) => [(3, .pointer (some ⟨b23, 0, none⟩)), (10, .int .i64 v77)]) (fun | (_, v77) => [(0, C6), (1, C10), (2, C14), (3, C18), (4, C22), (5, [(b23, .cells #[.slice p3 ((x2.m.t.b).length) c5, .slice p7 ((x2.m.t.f).length) c9, .slice p11 ((x2.m.c.l).length) c13, .int .i64 x2.m.c.h, .int .i64 x2.m.g.c, .int .i64 x2.m.g.n, .int .i64 x2.m.g.r, .slice p15 ((x2.m.g.o).length) c17, .int .i64 x2.m.s, .slice p19 ((x2.k).length) c21, .int .i64 x2.h] 37 (0, 0))])]) (fl, 0) eo0_0 ⟨rfl, rfl, trivial⟩ ⟨0, [1, 2, 3, 4, 5], rfl, rfl, 1, [2, 3, 4, 5], rfl, rfl, 2, [3, 4, 5], rfl, rfl, 3, [4, 5], rfl, rfl, 4, [5], rfl, rfl, 5, [], rfl, rfl, trivial⟩ (by decide) ?_)
  rintro ⟨fuel, v77⟩ H1
  have H1 : l_FnVictimSecond_L0 fl x2 fuel v77 = some o0_0 := H1
  rcases fuel with _ | fuel
  ·rw [l_FnVictimSecond_L0.eq_1] at H1; cases H1
  rw [l_FnVictimSecond_L0.eq_2] at H1
  dsimp only
  refine cw_seq (sr (oM rfl (oA 9 Tryz.underlying37 rfl ts35 rfl (oL 5 ts35 rfl (oD (stp_len Tryz.underlying35 rfl) rfl (oW rfl (nn (cw_cond rfl (fun h78 => ?_) (fun h78 => ?_)))))))))
  ·have H1 := cond_t H1 h78
   obtain ⟨o1_1, eo1_1, H1⟩ := bS H1
   refine cw_skip (kw_nx (cw_seq (cw_block (sr (oS rfl (nn (cw_seq (sr (oS rfl (nn (cw_join (ι := Bool × Int) (fun | (v79, v80) => o1_1 = .out (v79, v80)) (fun | (v79, v80) => [(3, .pointer (some ⟨b23, 0, none⟩)), (10, .int .i64 v77), (11, .bool v79), (12, .int .i64 v80)]) (fun | (v79, v80) => [(0, C6), (1, C10), (2, C14), (3, C18), (4, C22), (5, [(b23, .cells #[.slice p3 ((x2.m.t.b).length) c5, .slice p7 ((x2.m.t.f).length) c9, .slice p11 ((x2.m.c.l).length) c13, .int .i64 x2.m.c.h, .int .i64 x2.m.g.c, .int .i64 x2.m.g.n, .int .i64 x2.m.g.r, .slice p15 ((x2.m.g.o).length) c17, .int .i64 x2.m.s, .slice p19 ((x2.k).length) c21, .int .i64 x2.h] 37 (0, 0))])]) ?_ ?_)))))))))))
   ·refine cw_block (cw_loopS (ι := Nat × Bool × Int) (js := [0, 1, 2, 3, 4, 5]) (fun x => x.1) (fun | (fuel, v79, v80) => l_FnVictimSecond_L1 fl x2 v77 fuel v79 v80 = some o1_1) (fun | (_, v79, v80) => [(3, .pointer (some ⟨b23, 0, none⟩)), (10, .int .i64 v77), (11, .bool v79), (12, .int .i64 v80)]) (fun | (_, v79, v80) => [(0, C6), (1, C10), (2, C14), (3, C18), (4, C22), (5, [(b23, .cells #[.slice p3 ((x2.m.t.b).length) c5, .slice p7 ((x2.m.t.f).length) c9, .slice p11 ((x2.m.c.l).length) c13, .int .i64 x2.m.c.h, .int .i64 x2.m.g.c, .int .i64 x2.m.g.n, .int .i64 x2.m.g.r, .slice p15 ((x2.m.g.o).length) c17, .int .i64 x2.m.s, .slice p19 ((x2.k).length) c21, .int .i64 x2.h] 37 (0, 0))])]) (fl, false, 0) eo1_1 ⟨rfl, rfl, rfl, rfl, trivial⟩ ⟨0, [1, 2, 3, 4, 5], rfl, rfl, 1, [2, 3, 4, 5], rfl, rfl, 2, [3, 4, 5], rfl, rfl, 3, [4, 5], rfl, rfl, 4, [5], rfl, rfl, 5, [], rfl, rfl, trivial⟩ (by decide) ?_)
    rintro ⟨fuel, v79, v80⟩ H2
    have H2 : l_FnVictimSecond_L1 fl x2 v77 fuel v79 v80 = some o1_1 := H2
    rcases fuel with _ | fuel
    ·rw [l_FnVictimSecond_L1.eq_1] at H2; cases H2
    rw [l_FnVictimSecond_L1.eq_2] at H2
    dsimp only
    refine cw_seq (sr (oM rfl (oA 0 Tryz.underlying37 rfl ts34 rfl (oA 2 Tryz.underlying34 rfl ts29 rfl (oA 0 Tryz.underlying29 rfl ts27 rfl (oL 5 ts27 rfl (oD (stp_len Tryz.underlying27 rfl) rfl (oW rfl (nn (cw_cond rfl (fun h81 => ?_) (fun h81 => ?_)))))))))))
    ·have H2 := cond_t H2 h81
     obtain ⟨x82, e82, H2⟩ := bS H2
     refine cw_skip (kw_nx (cw_seq (cw_block (sr (oA 0 Tryz.underlying37 rfl ts34 rfl (oA 2 Tryz.underlying34 rfl ts29 rfl (oA 0 Tryz.underlying29 rfl ts27 rfl (oL 5 ts27 rfl (oM rfl (oD (stp_indexAddr Tryz.underlying27 ts47 (by decide) rfl rfl rfl (Rdb.own (id := 2) rfl o14) e82) rfl (oD (stp_loadN (us := [_, _, _, _, _, _]) ts47 rfl (Cells.el (Rdb.own (id := 2) rfl o14) (by decide) e82 0 6 rfl)) rfl (oE (stpU_alloc 18 tz47 rfl) rfl ?_))))))))))))
     rintro _ _ ⟨b83, rfl, rfl⟩
     obtain ⟨y84, ey84, H2⟩ := bS H2
     refine oC6 18 ts47 rfl rfl (nn (cw_region (oM rfl (oM rfl (ow_cutY 13 107 y84 ?_ ?_)))))
     ·rcases Bool.eq_false_or_eq_true v79 with hy84 | hy84
      ·have ey84 := cond_t ey84 hy84
       refine oO rfl hy84 rfl (oO rfl hy84 rfl (oO rfl hy84 rfl (oX rfl rfl rfl (oX rfl rfl rfl (oO rfl hy84 rfl (oO rfl hy84 rfl (oX rfl rfl rfl (oX rfl rfl rfl (oX rfl rfl rfl (oX rfl rfl rfl (oO rfl hy84 rfl (oD (stp_pick_t rfl hy84 rfl) rfl ?_))))))))))))
       obtain rfl := sI ey84
       exact ow_nil (jy 13 0)
      have ey84 := cond_f ey84 hy84
      obtain ⟨y85, ey85, ey84⟩ := bS ey84
      refine oG rfl hy84 (fA 0 Tryz.underlying47 rfl ts4 rfl rfl rfl) rfl (oG rfl hy84 (lB 18 ts4 rfl rfl rfl) rfl (oG rfl hy84 (mv rfl) rfl (ow_cutY 3 100 y85 ?_ ?_)))
      ·rcases Bool.eq_false_or_eq_true x82.va with hy85 | hy85
       ·have ey85 := cond_t ey85 hy85
        refine oG rfl hy85 (fA 5 Tryz.underlying47 rfl ts4 rfl rfl rfl) rfl (oG rfl hy85 (lB 18 ts4 rfl rfl rfl) rfl (oG rfl hy84 (stp_pick_t rfl hy85 rfl) rfl ?_))
        obtain rfl := sI ey85
        exact ow_nil (jy 3 0)
       have ey85 := cond_f ey85 hy85
       refine oO rfl hy85 rfl (oO rfl hy85 rfl (oG rfl hy84 (stp_pick_f rfl hy85 rfl) rfl ?_))
       obtain rfl := sI ey85
       exact ow_nil (jy 3 0)
      obtain ⟨y86, ey86, ey84⟩ := bS ey84
      refine oG rfl hy84 (mv rfl) rfl (ow_cutY 5 106 y86 ?_ ?_)
      ·rcases Bool.eq_false_or_eq_true y85 with hy86 | hy86
       ·have ey86 := cond_t ey86 hy86
        refine oG rfl hy86 (fA 3 Tryz.underlying47 rfl ts3 rfl rfl rfl) rfl (oG rfl hy86 (lB 18 ts3 rfl rfl rfl) rfl (oG rfl hy86 (mv rfl) rfl (oG rfl hy86 (stp_eql rfl rfl) rfl (oG rfl hy84 (stp_pick_t rfl hy86 rfl) rfl ?_))))
        obtain rfl := sI ey86
        exact ow_nil (jy 5 0)
       have ey86 := cond_f ey86 hy86
       refine oO rfl hy86 rfl (oO rfl hy86 rfl (oO rfl hy86 rfl (oO rfl hy86 rfl (oG rfl hy84 (stp_pick_f rfl hy86 rfl) rfl ?_))))
       obtain rfl := sI ey86
       exact ow_nil (jy 5 0)
      refine oD (stp_pick_f rfl hy84 rfl) rfl ?_
      obtain rfl := sI ey84
      exact ow_nil (jy 7 0)
     obtain ⟨x87, e87, H2⟩ := bS H2
     exact oS rfl (ow_nil (kw_bl_normal (kw_nx (cw_region (oM rfl (oP e87 rfl (oS rfl (ow_nil (kw_lqS (js := [0, 1, 2, 3, 4, 5]) (fuel, y84, x87) H2 (Nat.lt_succ_self _) ⟨rfl, rfl, rfl, rfl, trivial⟩ ⟨0, [1, 2, 3, 4, 5], rfl, rfl, 1, [2, 3, 4, 5], rfl, rfl, 2, [3, 4, 5], rfl, rfl, 3, [4, 5], rfl, rfl, 4, [5], rfl, rfl, 5, [], rfl, rfl, trivial⟩ (by decide))))))))))
    have H2 := cond_f H2 h81
    refine cw_exit (kw_nx_exit (kw_lq_exit (kw_bl ?_)))
    obtain rfl := sI H2
    exact kw_joinS (js := [0, 1, 2, 3, 4, 5]) (v79, v80) rfl ⟨rfl, rfl, rfl, rfl, trivial⟩ ⟨0, [1, 2, 3, 4, 5], rfl, rfl, 1, [2, 3, 4, 5], rfl, rfl, 2, [3, 4, 5], rfl, rfl, 3, [4, 5], rfl, rfl, 4, [5], rfl, rfl, 5, [], rfl, rfl, trivial⟩ (by decide)
   rintro ⟨v79, v80⟩ rfl
   dsimp only
   obtain ⟨x88, e88, H1⟩ := bS H1
   obtain ⟨y89, ey89, H1⟩ := bS H1
   refine kw_nx (sr (oA 0 Tryz.underlying37 rfl ts34 rfl (oA 0 Tryz.underlying34 rfl ts26 rfl (oA 1 Tryz.underlying26 rfl ts24 rfl (oL 5 ts24 rfl (oM rfl (oD (stp_indexAddr Tryz.underlying24 ts51 (by decide) rfl rfl rfl (Rdb.own (id := 1) rfl o10) e88) rfl (oA 0 Tryz.underlying51 rfl ts4 rfl (oD (stp_load1 ts4 rfl (Cells.el (Rdb.own (id := 1) rfl o10) (by decide) e88 0 1 rfl)) rfl (oM rfl (ow_cutY 3 119 y89 ?_ ?_)))))))))))
   ·rcases Bool.eq_false_or_eq_true x88.u with hy89 | hy89
    ·have ey89 := cond_t ey89 hy89
     refine oG rfl hy89 (mv rfl) rfl (oG rfl hy89 (stp_not rfl) rfl (oD (stp_pick_t rfl hy89 rfl) rfl ?_))
     obtain rfl := sI ey89
     exact ow_nil (jy 3 0)
    have ey89 := cond_f ey89 hy89
    refine oO rfl hy89 rfl (oO rfl hy89 rfl (oD (stp_pick_f rfl hy89 rfl) rfl ?_))
    obtain rfl := sI ey89
    exact ow_nil (jy 3 0)
   obtain ⟨y90, ey90, H1⟩ := bS H1
   refine oM rfl (ow_cutY 7 127 y90 ?_ ?_)
   ·rcases Bool.eq_false_or_eq_true y89 with hy90 | hy90
    ·have ey90 := cond_t ey90 hy90
     obtain ⟨x91, e91, ey90⟩ := bS ey90
     refine oG rfl hy90 (fA 9 Tryz.underlying37 rfl ts35 rfl rfl rfl) rfl (oG rfl hy90 (lB 5 ts35 rfl rfl rfl) rfl (oG rfl hy90 (mv rfl) rfl (oG rfl hy90 (stp_indexAddr Tryz.underlying35 ts4 (by decide) rfl rfl rfl (Rdb.own (id := 4) rfl o22) e91) rfl (oG rfl hy90 (stp_load1 ts4 rfl (Cells.el (Rdb.own (id := 4) rfl o22) (by decide) e91 0 1 rfl)) rfl (oG rfl hy90 (stp_not rfl) rfl (oD (stp_pick_t rfl hy90 rfl) rfl ?_))))))
     obtain rfl := sI ey90
     exact ow_nil (jy 7 0)
    have ey90 := cond_f ey90 hy90
    refine oO rfl hy90 rfl (oO rfl hy90 rfl (oO rfl hy90 rfl (oO rfl hy90 rfl (oO rfl hy90 rfl (oO rfl hy90 rfl (oD (stp_pick_f rfl hy90 rfl) rfl ?_))))))
    obtain rfl := sI ey90
    exact ow_nil (jy 7 0)
   refine ow_nil (kw_nx (cw_cond rfl (fun h92 => ?_) (fun h92 => ?_)))
   ·have H1 := cond_t H1 h92
    refine sr (oS rfl (nn (cw_ret (kw_bl_ret (kw_nx_ret (kw_lq_ret (kw_bl_ret (kw_join_ret (kw_nx_ret ?_)))))))))
    obtain rfl := sI H1
    obtain rfl := sI H0
    exact kr Tryz.results5 (rT rfl) [] ⟨rfl, rfl⟩
   have H1 := cond_f H1 h92
   obtain ⟨x93, e93, H1⟩ := bS H1
   exact cw_skip (kw_bl_normal (kw_nx (cw_region (oM rfl (oP e93 rfl (oS rfl (ow_nil (kw_lqS (js := [0, 1, 2, 3, 4, 5]) (fuel, x93) H1 (Nat.lt_succ_self _) ⟨rfl, rfl, trivial⟩ ⟨0, [1, 2, 3, 4, 5], rfl, rfl, 1, [2, 3, 4, 5], rfl, rfl, 2, [3, 4, 5], rfl, rfl, 3, [4, 5], rfl, rfl, 4, [5], rfl, rfl, 5, [], rfl, rfl, trivial⟩ (by decide)))))))))
  have H1 := cond_f H1 h78
  refine cw_exit (kw_nx_exit (kw_lq_exit (kw_bl ?_)))
  obtain rfl := sI H1
  exact kw_joinS (js := [0, 1, 2, 3, 4, 5]) v77 rfl ⟨rfl, rfl, trivial⟩ ⟨0, [1, 2, 3, 4, 5], rfl, rfl, 1, [2, 3, 4, 5], rfl, rfl, 2, [3, 4, 5], rfl, rfl, 3, [4, 5], rfl, rfl, 4, [5], rfl, rfl, 5, [], rfl, rfl, trivial⟩ (by decide)
 rintro v77 rfl
 dsimp only
 refine kw_nx (sr (oS rfl (nn (cw_ret ?_))))
 obtain rfl := sI H0
 exact kr Tryz.results5 (rT rfl) [] ⟨rfl, rfl⟩
end Go.Proofs.YtkccmjfhmkjnlaaGreatDoor
