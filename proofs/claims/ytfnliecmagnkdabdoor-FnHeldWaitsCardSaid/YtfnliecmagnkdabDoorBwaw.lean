/- The walks: functions of the program return what their pure functions say. Printed by a program (gen.py). -/
import Derived.Test.YtfnliecmagnkdabDoorBp
import Derived.Test.YtfnliecmagnkdabDoorBt
import Derived.Test.YtfnliecmagnkdabDoorMan
import Derived.Test.YtfnliecmagnkdabDoorMap
import Derived.Test.YtfnliecmagnkdabDoorCpy
import Derived.Test.YtfnliecmagnkdabDoorClr
import Derived.Test.YtfnliecmagnkdabDoorDp
import Derived.Test.YtfnliecmagnkdabDoorSrt
import Derived.Test.YtfnliecmagnkdabDoorE8
import Derived.Test.YtfnliecmagnkdabDoorBwab
import Derived.Test.YtfnliecmagnkdabDoorBwat
import Derived.Test.YtfnliecmagnkdabDoorBwav
set_option linter.unusedSimpArgs false
set_option linter.unusedVariables false
set_option linter.unusedSectionVars false
namespace Go.Proofs.YtfnliecmagnkdabDoor
open Go.RowKit
set_option maxHeartbeats 4000000
set_option maxRecDepth 20000
variable {p0_0 : Option Addr} {n0_0 : Nat} {c0_0 : Nat}
theorem c_l_FnHeldWaits (fl : Nat) (w : World) (a0 : (List UInt8)) (hn0_0 : n0_0 = (a0).length) (hr0_0 : RO w (hkeys []) (RdL p0_0 c0_0 a0)) (hg : RO w (hkeys []) (fun w' => w'.rangeAt 0 0 [.bool false, .int .i64 0, .int .i64 0, .int .i64 0, .int .i64 (-1)])) (r : Bool) (H0 : l_FnHeldWaits fl a0 = some r) :
  Ct Tryd.prog 8 [.slice p0_0 n0_0 c0_0] w [] (fun rv h' => rv = .bool r ∧ h' = []) := by
 subst hn0_0
 unfold l_FnHeldWaits at H0
 refine ct_of_cw Tryd.func8 rfl Tryd.ntmps8 rfl (Sat.refl _ _) ?_
 refine sr (oS rfl (nn (cw_seq (sr (oM rfl (oD (stp_len Tryd.underlying46 rfl) rfl (oJ rfl (nn (cw_cond rfl (fun h1 => ?_) (fun h1 => ?_))))))))))
 ·have H0 := cond_t H0 h1
  refine sr (oS rfl (nn (cw_ret (kw_nx_ret ?_))))
  obtain rfl := sI H0
  exact kr Tryd.results8 (rT rfl) [] ⟨rfl, rfl⟩
 have H0 := cond_f H0 h1
 obtain ⟨x2, e2, H0⟩ := bS H0
 refine cw_skip (kw_nx (sr (oM rfl (oE (stpU_call (fun i => 0 + i) cf33 (fun w hw => c_s_DrawHeldFrames fl w a0 rfl (RO.pass hr0_0 hw) x2 e2) (yA rfl)) rfl ?_))))
 rintro _ _ ⟨_, ⟨p3, _, c5, C6, p7, _, c9, C10, p11, _, c13, C14, rfl, rfl, rfl, o6, rfl, o10, rfl, o14⟩, rfl⟩
 refine oE (stpU_alloc 3 tz37 rfl) rfl ?_
 rintro _ _ ⟨b15, rfl, rfl⟩
 obtain ⟨x16, e16, H0⟩ := bS H0
 refine oC3 3 ts37 rfl rfl (nn (sr (oB3 3 ts37 rfl (oE (stpU_call (fun i => 4 + i) cf29 (fun w hw => c_i_HeldFrames fl w x2 rfl (OwnC.pass (id := 0) rfl o6 hw) rfl (OwnC.pass (id := 1) rfl o10 hw) rfl (OwnD.pass (id := 2) rfl o14 hw) (RO.pass hg hw) x16 e16) (yA rfl)) rfl ?_))))
 rintro _ _ ⟨_, ⟨p17, _, c19, C20, rfl, rfl, rfl, o20⟩, rfl⟩
 obtain ⟨x21, e21, H0⟩ := bS H0
 refine oS rfl (nn (cw_seq (sr (oM rfl (oB3 3 ts37 rfl (oE (stpU_call (fun i => 5 + i) cf28 (fun w hw => c_s_HeldFrames fl w x2 rfl (OwnC.pass (id := 0) rfl o6 hw) rfl (OwnC.pass (id := 1) rfl o10 hw) rfl (OwnD.pass (id := 2) rfl o14 hw) x21 e21) (yA rfl)) rfl ?_))))))
 rintro _ _ ⟨_, ⟨p22, _, c24, C25, rfl, rfl, rfl, o25⟩, rfl⟩
 obtain ⟨x26, e26, H0⟩ := bS H0
 refine oE (stpU_call (fun i => 6 + i) cf34 (fun w hw => c_l_ipInts fl w x16 x21 rfl (OwnC.pass (id := 4) rfl o20 hw) rfl (OwnC.pass (id := 5) rfl o25 hw) x26 e26) (yB rfl rfl)) rfl ?_
 rintro _ _ ⟨_, ⟨rfl, rfl⟩, rfl⟩
 obtain ⟨y27, ey27, H0⟩ := bS H0
 refine oK rfl (oM rfl (ow_cutY 4 27 y27 ?_ ?_))
 ·rcases Bool.eq_false_or_eq_true (!x26) with hy27 | hy27
  ·have ey27 := cond_t ey27 hy27
   refine oO rfl hy27 rfl (oO rfl hy27 rfl (oO rfl hy27 rfl (oD (stp_pick_t rfl hy27 rfl) rfl ?_)))
   obtain rfl := sI ey27
   exact ow_nil (jy 4 0)
  have ey27 := cond_f ey27 hy27
  obtain ⟨x28, e28, ey27⟩ := bS ey27
  refine oG rfl hy27 (stp_loadN (us := [_, _, _]) ts37 rfl (Cells.box (id := 3) rfl 3 rfl)) rfl (ow_eff (.some rfl hy27) (stpU_call (fun i => 6 + i) cf23 (fun w hw => c_i_SystemValid fl w x2 rfl (OwnC.pass (id := 0) rfl o6 hw) rfl (OwnC.pass (id := 1) rfl o10 hw) rfl (OwnD.pass (id := 2) rfl o14 hw) (RO.pass hg hw) x28 e28) (yA rfl)) rfl ?_)
  rintro _ _ ⟨_, ⟨rfl, rfl⟩, rfl⟩
  refine oG rfl hy27 (stp_not rfl) rfl (oD (stp_pick_f rfl hy27 rfl) rfl ?_)
  obtain rfl := sI ey27
  exact ow_nil (jy 4 0)
 refine ow_nil (kw_nx (cw_cond rfl (fun h29 => ?_) (fun h29 => ?_)))
 ·have H0 := cond_t H0 h29
  obtain ⟨x30, e30, H0⟩ := bS H0
  refine sr (oM rfl (oB3 3 ts37 rfl (oE (stpU_call (fun i => 6 + i) cf28 (fun w hw => c_s_HeldFrames fl w x2 rfl (OwnC.pass (id := 0) rfl o6 hw) rfl (OwnC.pass (id := 1) rfl o10 hw) rfl (OwnD.pass (id := 2) rfl o14 hw) x30 e30) (yA rfl)) rfl ?_)))
  rintro _ _ ⟨_, ⟨p31, _, c33, C34, rfl, rfl, rfl, o34⟩, rfl⟩
  obtain ⟨x35, e35, H0⟩ := bS H0
  refine oE (stpU_call (fun i => 7 + i) cf34 (fun w hw => c_l_ipInts fl w x16 x30 rfl (OwnC.pass (id := 4) rfl o20 hw) rfl (OwnC.pass (id := 6) rfl o34 hw) x35 e35) (yB rfl rfl)) rfl ?_
  rintro _ _ ⟨_, ⟨rfl, rfl⟩, rfl⟩
  refine oS rfl (nn (cw_ret (kw_nx_ret ?_)))
  obtain rfl := sI H0
  exact kr Tryd.results8 (rT rfl) [] ⟨rfl, rfl⟩
 have H0 := cond_f H0 h29
 obtain ⟨o0_0, eo0_0, H0⟩ := bS H0
 refine cw_skip (kw_nx (cw_seq (sr (oS rfl (nn (cw_join (ι := Int) (fun | v36 => o0_0 = .out v36) (fun | v36 => [(3, .pointer (some ⟨b15, 0, none⟩)), (4, .slice p17 ((x16).length) c19), (5, .int .i64 v36)]) (fun | v36 => [(0, C6), (1, C10), (2, C14), (3, [(b15, .cells #[.slice p3 ((x2.t.b).length) c5, .slice p7 ((x2.t.f).length) c9, .slice p11 ((x2.c).length) c13] 37 (0, 0))]), (4, C20)]) ?_ ?_))))))
 ·refine cw_block (cw_loopS (ι := Nat × Int) (js := [0, 1, 2, 3, 4]) (fun x => x.1) (fun | (fuel, v36) => l_FnHeldWaits_L0 fl x2 x16 fuel v36 = some o0_0) (fun | (_, v36) => [(3, .pointer (some ⟨b15, 0, none⟩)), (4, .slice p17 ((x16).length) c19), (5, .int .i64 v36)]) (fun | (_, v36) => [(0, C6), (1, C10), (2, C14), (3, [(b15, .cells #[.slice p3 ((x2.t.b).length) c5, .slice p7 ((x2.t.f).length) c9, .slice p11 ((x2.c).length) c13] 37 (0, 0))]), (4, C20)]) (fl, 0) eo0_0 ⟨rfl, rfl, rfl, trivial⟩ ⟨0, [1, 2, 3, 4], rfl, rfl, 1, [2, 3, 4], rfl, rfl, 2, [3, 4], rfl, rfl, 3, [4], rfl, rfl, 4, [], rfl, rfl, trivial⟩ (by decide) ?_)
  rintro ⟨fuel, v36⟩ H1
  have H1 : l_FnHeldWaits_L0 fl x2 x16 fuel v36 = some o0_0 := H1
  rcases fuel with _ | fuel
  ·rw [l_FnHeldWaits_L0.eq_1] at H1; cases H1
  rw [l_FnHeldWaits_L0.eq_2] at H1
  dsimp only
  refine cw_seq (sr (oM rfl (oA 0 Tryd.underlying37 rfl ts34 rfl (oA 1 Tryd.underlying34 rfl ts32 rfl (oL 3 ts32 rfl (oD (stp_len Tryd.underlying32 rfl) rfl (oW rfl (nn (cw_cond rfl (fun h37 => ?_) (fun h37 => ?_))))))))))
  ·have H1 := cond_t H1 h37
   obtain ⟨o1_1, eo1_1, H1⟩ := bS H1
   refine cw_skip (kw_nx (cw_seq (cw_block (sr (oS rfl (nn (cw_seq (sr (oS rfl (nn (cw_join (ι := Bool × Int) (fun | (v38, v39) => o1_1 = .out (v38, v39)) (fun | (v38, v39) => [(3, .pointer (some ⟨b15, 0, none⟩)), (4, .slice p17 ((x16).length) c19), (5, .int .i64 v36), (6, .bool v38), (7, .int .i64 v39)]) (fun | (v38, v39) => [(0, C6), (1, C10), (2, C14), (3, [(b15, .cells #[.slice p3 ((x2.t.b).length) c5, .slice p7 ((x2.t.f).length) c9, .slice p11 ((x2.c).length) c13] 37 (0, 0))]), (4, C20)]) ?_ ?_)))))))))))
   ·refine cw_block (cw_loopS (ι := Nat × Bool × Int) (js := [0, 1, 2, 3, 4]) (fun x => x.1) (fun | (fuel, v38, v39) => l_FnHeldWaits_L1 fl x2 v36 fuel v38 v39 = some o1_1) (fun | (_, v38, v39) => [(3, .pointer (some ⟨b15, 0, none⟩)), (4, .slice p17 ((x16).length) c19), (5, .int .i64 v36), (6, .bool v38), (7, .int .i64 v39)]) (fun | (_, v38, v39) => [(0, C6), (1, C10), (2, C14), (3, [(b15, .cells #[.slice p3 ((x2.t.b).length) c5, .slice p7 ((x2.t.f).length) c9, .slice p11 ((x2.c).length) c13] 37 (0, 0))]), (4, C20)]) (fl, false, 0) eo1_1 ⟨rfl, rfl, rfl, rfl, rfl, trivial⟩ ⟨0, [1, 2, 3, 4], rfl, rfl, 1, [2, 3, 4], rfl, rfl, 2, [3, 4], rfl, rfl, 3, [4], rfl, rfl, 4, [], rfl, rfl, trivial⟩ (by decide) ?_)
    rintro ⟨fuel, v38, v39⟩ H2
    have H2 : l_FnHeldWaits_L1 fl x2 v36 fuel v38 v39 = some o1_1 := H2
    rcases fuel with _ | fuel
    ·rw [l_FnHeldWaits_L1.eq_1] at H2; cases H2
    rw [l_FnHeldWaits_L1.eq_2] at H2
    dsimp only
    refine cw_seq (sr (oM rfl (oA 2 Tryd.underlying37 rfl ts35 rfl (oL 3 ts35 rfl (oD (stp_len Tryd.underlying35 rfl) rfl (oW rfl (nn (cw_cond rfl (fun h40 => ?_) (fun h40 => ?_)))))))))
    ·have H2 := cond_t H2 h40
     obtain ⟨o2_2, eo2_2, H2⟩ := bS H2
     refine cw_skip (kw_nx (cw_seq (cw_block (sr (oS rfl (nn (cw_join (ι := Bool × Int) (fun | (v41, v42) => o2_2 = .out (v41, v42)) (fun | (v41, v42) => [(3, .pointer (some ⟨b15, 0, none⟩)), (4, .slice p17 ((x16).length) c19), (5, .int .i64 v36), (6, .bool v41), (7, .int .i64 v39), (8, .int .i64 v42)]) (fun | (v41, v42) => [(0, C6), (1, C10), (2, C14), (3, [(b15, .cells #[.slice p3 ((x2.t.b).length) c5, .slice p7 ((x2.t.f).length) c9, .slice p11 ((x2.c).length) c13] 37 (0, 0))]), (4, C20)]) ?_ ?_)))))))
     ·refine cw_block (cw_loopS (ι := Nat × Bool × Int) (js := [0, 1, 2, 3, 4]) (fun x => x.1) (fun | (fuel, v41, v42) => l_FnHeldWaits_L2 fl x2 v36 v39 fuel v41 v42 = some o2_2) (fun | (_, v41, v42) => [(3, .pointer (some ⟨b15, 0, none⟩)), (4, .slice p17 ((x16).length) c19), (5, .int .i64 v36), (6, .bool v41), (7, .int .i64 v39), (8, .int .i64 v42)]) (fun | (_, v41, v42) => [(0, C6), (1, C10), (2, C14), (3, [(b15, .cells #[.slice p3 ((x2.t.b).length) c5, .slice p7 ((x2.t.f).length) c9, .slice p11 ((x2.c).length) c13] 37 (0, 0))]), (4, C20)]) (fl, v38, 0) eo2_2 ⟨rfl, rfl, rfl, rfl, rfl, rfl, trivial⟩ ⟨0, [1, 2, 3, 4], rfl, rfl, 1, [2, 3, 4], rfl, rfl, 2, [3, 4], rfl, rfl, 3, [4], rfl, rfl, 4, [], rfl, rfl, trivial⟩ (by decide) ?_)
      rintro ⟨fuel, v41, v42⟩ H3
      have H3 : l_FnHeldWaits_L2 fl x2 v36 v39 fuel v41 v42 = some o2_2 := H3
      rcases fuel with _ | fuel
      ·rw [l_FnHeldWaits_L2.eq_1] at H3; cases H3
      rw [l_FnHeldWaits_L2.eq_2] at H3
      dsimp only
      obtain ⟨x43, e43, H3⟩ := bS H3
      refine cw_seq (sr (oM rfl (oA 2 Tryd.underlying37 rfl ts35 rfl (oL 3 ts35 rfl (oM rfl ?_)))))
      obtain ⟨u44, p45, n46, c47, p48, n49, c50, hl44, hx44, rfl, rfl, hw44, hr44, hs44⟩ := OwnD.view o14 e43
      refine oD (stp_indexAddr Tryd.underlying35 ts53 (by decide) rfl hl44 rfl (RdC.rdb (id := 2) hw44 rfl) hx44) rfl (oA 1 Tryd.underlying53 rfl ts51 rfl (oD (stp_load1 ts51 rfl (Cells.el (RdC.rdb (id := 2) hw44 rfl) (by decide) hx44 1 1 rfl)) rfl (oD (stp_len Tryd.underlying51 rfl) rfl (oW rfl (nn (cw_cond rfl (fun h51 => ?_) (fun h51 => ?_)))))))
      ·have H3 := cond_t H3 h51
       obtain ⟨y52, ey52, H3⟩ := bS H3
       refine cw_skip (kw_nx (cw_seq (cw_block (cw_region (oM rfl (oM rfl (ow_cutY 13 72 y52 ?_ ?_)))))))
       ·rcases Bool.eq_false_or_eq_true v41 with hy52 | hy52
        ·have ey52 := cond_t ey52 hy52
         refine oO rfl hy52 rfl (oO rfl hy52 rfl (oO rfl hy52 rfl (oO rfl hy52 rfl (oO rfl hy52 rfl (oO rfl hy52 rfl (oO rfl hy52 rfl (oO rfl hy52 rfl (oO rfl hy52 rfl (oO rfl hy52 rfl (oO rfl hy52 rfl (oO rfl hy52 rfl (oD (stp_pick_t rfl hy52 rfl) rfl ?_))))))))))))
         obtain rfl := sI ey52
         exact ow_nil (jy 13 0)
        have ey52 := cond_f ey52 hy52
        obtain ⟨x53, e53, ey52⟩ := bS ey52
        refine oG rfl hy52 (fA 2 Tryd.underlying37 rfl ts35 rfl rfl rfl) rfl (oG rfl hy52 (lB 3 ts35 rfl rfl rfl) rfl (oG rfl hy52 (mv rfl) rfl (oG rfl hy52 (stp_indexAddr Tryd.underlying35 ts53 (by decide) rfl hl44 rfl (RdC.rdb (id := 2) hw44 rfl) hx44) rfl (oG rfl hy52 (fA 1 Tryd.underlying53 rfl ts51 rfl rfl rfl) rfl (oG rfl hy52 (stp_load1 ts51 rfl (Cells.el (RdC.rdb (id := 2) hw44 rfl) (by decide) hx44 1 1 rfl)) rfl (oG rfl hy52 (mv rfl) rfl (oG rfl hy52 (stp_indexAddr Tryd.underlying51 ts55 (by decide) rfl rfl rfl (RdC.rdb (id := 2) hs44 rfl) e53) rfl (oG rfl hy52 (fA 2 Tryd.underlying55 rfl ts3 rfl rfl rfl) rfl (oG rfl hy52 (stp_load1 ts3 rfl (Cells.el (RdC.rdb (id := 2) hs44 rfl) (by decide) e53 2 1 rfl)) rfl (oG rfl hy52 (mv rfl) rfl (oG rfl hy52 (stp_eql rfl rfl) rfl (oD (stp_pick_f rfl hy52 rfl) rfl ?_))))))))))))
        obtain rfl := sI ey52
        exact ow_nil (jy 13 0)
       obtain ⟨x54, e54, H3⟩ := bS H3
       exact oS rfl (ow_nil (kw_bl_normal (kw_nx (cw_region (oM rfl (oP e54 rfl (oS rfl (ow_nil (kw_lqS (js := [0, 1, 2, 3, 4]) (fuel, y52, x54) H3 (Nat.lt_succ_self _) ⟨rfl, rfl, rfl, rfl, rfl, rfl, trivial⟩ ⟨0, [1, 2, 3, 4], rfl, rfl, 1, [2, 3, 4], rfl, rfl, 2, [3, 4], rfl, rfl, 3, [4], rfl, rfl, 4, [], rfl, rfl, trivial⟩ (by decide))))))))))
      have H3 := cond_f H3 h51
      refine cw_exit (kw_nx_exit (kw_lq_exit (kw_bl ?_)))
      obtain rfl := sI H3
      exact kw_joinS (js := [0, 1, 2, 3, 4]) (v41, v42) rfl ⟨rfl, rfl, rfl, rfl, rfl, rfl, trivial⟩ ⟨0, [1, 2, 3, 4], rfl, rfl, 1, [2, 3, 4], rfl, rfl, 2, [3, 4], rfl, rfl, 3, [4], rfl, rfl, 4, [], rfl, rfl, trivial⟩ (by decide)
     rintro ⟨v41, v42⟩ rfl
     dsimp only
     obtain ⟨x55, e55, H2⟩ := bS H2
     exact kw_bl_normal (kw_nx (cw_region (oM rfl (oP e55 rfl (oS rfl (ow_nil (kw_lqS (js := [0, 1, 2, 3, 4]) (fuel, v41, x55) H2 (Nat.lt_succ_self _) ⟨rfl, rfl, rfl, rfl, rfl, trivial⟩ ⟨0, [1, 2, 3, 4], rfl, rfl, 1, [2, 3, 4], rfl, rfl, 2, [3, 4], rfl, rfl, 3, [4], rfl, rfl, 4, [], rfl, rfl, trivial⟩ (by decide))))))))
    have H2 := cond_f H2 h40
    refine cw_exit (kw_nx_exit (kw_lq_exit (kw_bl ?_)))
    obtain rfl := sI H2
    exact kw_joinS (js := [0, 1, 2, 3, 4]) (v38, v39) rfl ⟨rfl, rfl, rfl, rfl, rfl, trivial⟩ ⟨0, [1, 2, 3, 4], rfl, rfl, 1, [2, 3, 4], rfl, rfl, 2, [3, 4], rfl, rfl, 3, [4], rfl, rfl, 4, [], rfl, rfl, trivial⟩ (by decide)
   rintro ⟨v38, v39⟩ rfl
   dsimp only
   obtain ⟨o1_3, eo1_3, H1⟩ := bS H1
   refine kw_nx (sr (oS rfl (nn (cw_seq (sr (oS rfl (nn (cw_join (ι := Int × Bool) (fun | (v56, v57) => o1_3 = .out (v56, v57)) (fun | (v56, v57) => [(3, .pointer (some ⟨b15, 0, none⟩)), (4, .slice p17 ((x16).length) c19), (5, .int .i64 v36), (6, .bool v38), (9, .bool v57), (10, .int .i64 v56)]) (fun | (v56, v57) => [(0, C6), (1, C10), (2, C14), (3, [(b15, .cells #[.slice p3 ((x2.t.b).length) c5, .slice p7 ((x2.t.f).length) c9, .slice p11 ((x2.c).length) c13] 37 (0, 0))]), (4, C20)]) ?_ ?_))))))))
   ·refine cw_block (cw_loopS (ι := Nat × Int × Bool) (js := [0, 1, 2, 3, 4]) (fun x => x.1) (fun | (fuel, v56, v57) => l_FnHeldWaits_L3 fl x16 v36 fuel v56 v57 = some o1_3) (fun | (_, v56, v57) => [(3, .pointer (some ⟨b15, 0, none⟩)), (4, .slice p17 ((x16).length) c19), (5, .int .i64 v36), (6, .bool v38), (9, .bool v57), (10, .int .i64 v56)]) (fun | (_, v56, v57) => [(0, C6), (1, C10), (2, C14), (3, [(b15, .cells #[.slice p3 ((x2.t.b).length) c5, .slice p7 ((x2.t.f).length) c9, .slice p11 ((x2.c).length) c13] 37 (0, 0))]), (4, C20)]) (fl, 0, false) eo1_3 ⟨rfl, rfl, rfl, rfl, rfl, rfl, trivial⟩ ⟨0, [1, 2, 3, 4], rfl, rfl, 1, [2, 3, 4], rfl, rfl, 2, [3, 4], rfl, rfl, 3, [4], rfl, rfl, 4, [], rfl, rfl, trivial⟩ (by decide) ?_)
    rintro ⟨fuel, v56, v57⟩ H2
    have H2 : l_FnHeldWaits_L3 fl x16 v36 fuel v56 v57 = some o1_3 := H2
    rcases fuel with _ | fuel
    ·rw [l_FnHeldWaits_L3.eq_1] at H2; cases H2
    rw [l_FnHeldWaits_L3.eq_2] at H2
    dsimp only
    refine cw_seq (sr (oM rfl (oM rfl (oD (stp_len Tryd.underlying22 rfl) rfl (oW rfl (nn (cw_cond rfl (fun h58 => ?_) (fun h58 => ?_))))))))
    ·have H2 := cond_t H2 h58
     obtain ⟨y59, ey59, H2⟩ := bS H2
     refine cw_skip (kw_nx (cw_seq (cw_block (cw_region (oM rfl (oM rfl (ow_cutY 7 87 y59 ?_ ?_)))))))
     ·rcases Bool.eq_false_or_eq_true v57 with hy59 | hy59
      ·have ey59 := cond_t ey59 hy59
       refine oO rfl hy59 rfl (oO rfl hy59 rfl (oO rfl hy59 rfl (oO rfl hy59 rfl (oO rfl hy59 rfl (oO rfl hy59 rfl (oD (stp_pick_t rfl hy59 rfl) rfl ?_))))))
       obtain rfl := sI ey59
       exact ow_nil (jy 7 0)
      have ey59 := cond_f ey59 hy59
      obtain ⟨x60, e60, ey59⟩ := bS ey59
      refine oG rfl hy59 (mv rfl) rfl (oG rfl hy59 (mv rfl) rfl (oG rfl hy59 (stp_indexAddr Tryd.underlying22 ts3 (by decide) rfl rfl rfl (Rdb.own (id := 4) rfl o20) e60) rfl (oG rfl hy59 (stp_load1 ts3 rfl (Cells.el (Rdb.own (id := 4) rfl o20) (by decide) e60 0 1 rfl)) rfl (oG rfl hy59 (mv rfl) rfl (oG rfl hy59 (stp_eql rfl rfl) rfl (oD (stp_pick_f rfl hy59 rfl) rfl ?_))))))
      obtain rfl := sI ey59
      exact ow_nil (jy 7 0)
     obtain ⟨x61, e61, H2⟩ := bS H2
     exact oS rfl (ow_nil (kw_bl_normal (kw_nx (cw_region (oM rfl (oP e61 rfl (oS rfl (ow_nil (kw_lqS (js := [0, 1, 2, 3, 4]) (fuel, x61, y59) H2 (Nat.lt_succ_self _) ⟨rfl, rfl, rfl, rfl, rfl, rfl, trivial⟩ ⟨0, [1, 2, 3, 4], rfl, rfl, 1, [2, 3, 4], rfl, rfl, 2, [3, 4], rfl, rfl, 3, [4], rfl, rfl, 4, [], rfl, rfl, trivial⟩ (by decide))))))))))
    have H2 := cond_f H2 h58
    refine cw_exit (kw_nx_exit (kw_lq_exit (kw_bl ?_)))
    obtain rfl := sI H2
    exact kw_joinS (js := [0, 1, 2, 3, 4]) (v56, v57) rfl ⟨rfl, rfl, rfl, rfl, rfl, rfl, trivial⟩ ⟨0, [1, 2, 3, 4], rfl, rfl, 1, [2, 3, 4], rfl, rfl, 2, [3, 4], rfl, rfl, 3, [4], rfl, rfl, 4, [], rfl, rfl, trivial⟩ (by decide)
   rintro ⟨v56, v57⟩ rfl
   dsimp only
   refine kw_nx (sr (oM rfl (oM rfl (oD (stp_neqB Tryd.underlying4 rfl rfl) rfl (nn (cw_cond rfl (fun h62 => ?_) (fun h62 => ?_)))))))
   ·have H1 := cond_t H1 h62
    refine sr (oS rfl (nn (cw_ret (kw_bl_ret (kw_nx_ret (kw_lq_ret (kw_bl_ret (kw_join_ret (kw_nx_ret ?_)))))))))
    obtain rfl := sI H1
    obtain rfl := sI H0
    exact kr Tryd.results8 (rT rfl) [] ⟨rfl, rfl⟩
   have H1 := cond_f H1 h62
   obtain ⟨x63, e63, H1⟩ := bS H1
   exact cw_skip (kw_bl_normal (kw_nx (cw_region (oM rfl (oP e63 rfl (oS rfl (ow_nil (kw_lqS (js := [0, 1, 2, 3, 4]) (fuel, x63) H1 (Nat.lt_succ_self _) ⟨rfl, rfl, rfl, trivial⟩ ⟨0, [1, 2, 3, 4], rfl, rfl, 1, [2, 3, 4], rfl, rfl, 2, [3, 4], rfl, rfl, 3, [4], rfl, rfl, 4, [], rfl, rfl, trivial⟩ (by decide)))))))))
  have H1 := cond_f H1 h37
  refine cw_exit (kw_nx_exit (kw_lq_exit (kw_bl ?_)))
  obtain rfl := sI H1
  exact kw_joinS (js := [0, 1, 2, 3, 4]) v36 rfl ⟨rfl, rfl, rfl, trivial⟩ ⟨0, [1, 2, 3, 4], rfl, rfl, 1, [2, 3, 4], rfl, rfl, 2, [3, 4], rfl, rfl, 3, [4], rfl, rfl, 4, [], rfl, rfl, trivial⟩ (by decide)
 rintro v36 rfl
 dsimp only
 refine kw_nx (sr (oS rfl (nn (cw_ret ?_))))
 obtain rfl := sI H0
 exact kr Tryd.results8 (rT rfl) [] ⟨rfl, rfl⟩
end Go.Proofs.YtfnliecmagnkdabDoor
