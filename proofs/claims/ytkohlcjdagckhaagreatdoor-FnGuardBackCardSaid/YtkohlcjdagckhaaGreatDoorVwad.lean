/- The walks: functions of the program return what their pure functions say. Printed by a program (gen.py). -/
import Derived.Test.YtkohlcjdagckhaaGreatDoorVp
import Derived.Test.YtkohlcjdagckhaaGreatDoorVt
import Derived.Test.YtkohlcjdagckhaaGreatDoorMan
import Derived.Test.YtkohlcjdagckhaaGreatDoorMap
import Derived.Test.YtkohlcjdagckhaaGreatDoorCpy
import Derived.Test.YtkohlcjdagckhaaGreatDoorVe
import Derived.Test.YtkohlcjdagckhaaGreatDoorVwaa
import Derived.Test.YtkohlcjdagckhaaGreatDoorVwab
import Derived.Test.YtkohlcjdagckhaaGreatDoorVwac
import Derived.Test.YtkohlcjdagckhaaGreatDoorVws
set_option linter.unusedSimpArgs false
set_option linter.unusedVariables false
set_option linter.unusedSectionVars false
namespace Go.Proofs.YtkohlcjdagckhaaGreatDoor
open Go.RowKit
set_option maxHeartbeats 4000000
set_option maxRecDepth 20000
variable {p0_0 p0_1 p0_2 p0_3 p1_0 p1_1 p1_2 p1_3 : Option Addr} {n0_0 n0_1 n0_2 n0_3 n1_0 n1_1 n1_2 n1_3 : Nat} {c0_0 c0_1 c0_2 c0_3 c1_0 c1_1 c1_2 c1_3 : Nat} {C1_0 C1_1 : Res}
theorem c_i_MachineValid (fl : Nat) (w : World) (a0 : Mc) (hn0_0 : n0_0 = (a0.t.b).length) (hr0_0 : RO w (hkeys []) (RdL p0_0 c0_0 a0.t.b)) (hn0_1 : n0_1 = (a0.t.f).length) (hr0_1 : RO w (hkeys []) (RdL p0_1 c0_1 a0.t.f)) (hn0_2 : n0_2 = (a0.c.l).length) (hr0_2 : RO w (hkeys []) (RdL p0_2 c0_2 a0.c.l)) (hn0_3 : n0_3 = (a0.g.o).length) (hr0_3 : RO w (hkeys []) (RdL p0_3 c0_3 a0.g.o)) (hg : RO w (hkeys []) (fun w' => w'.rangeAt 0 0 [.bool false, .int .i64 0, .int .i64 0, .int .i64 0, .int .i64 (-1)])) (r : Bool) (H0 : i_MachineValid fl a0 = some r) :
  Ct Tryz.prog 19 [.agg #[.slice p0_0 n0_0 c0_0, .slice p0_1 n0_1 c0_1, .slice p0_2 n0_2 c0_2, .int .i64 a0.c.h, .int .i64 a0.g.c, .int .i64 a0.g.n, .int .i64 a0.g.r, .slice p0_3 n0_3 c0_3, .int .i64 a0.s]] w [] (fun rv h' => rv = .bool r ∧ h' = []) := by
 subst hn0_0 hn0_1 hn0_2 hn0_3
 unfold i_MachineValid at H0
 refine ct_of_cw Tryz.func19 rfl Tryz.ntmps19 rfl (Sat.refl _ _) ?_
 refine sr (oE (stpU_box 0 rfl rfl) rfl ?_)
 rintro _ _ ⟨b1, rfl, rfl⟩
 obtain ⟨x2, e2, H0⟩ := bS H0
 refine oS rfl (nn (cw_seq (sr (oA 0 Tryz.underlying34 rfl ts26 rfl (oB2 0 ts26 rfl (oE (stpU_call (fun i => 1 + i) cf54 (fun w hw => c_i_TableValid fl w a0.t rfl (RO.pass hr0_0 hw) rfl (RO.pass hr0_1 hw) (RO.pass hg hw) x2 e2) (yA rfl)) rfl ?_))))))
 rintro _ _ ⟨_, ⟨rfl, rfl⟩, rfl⟩
 obtain ⟨y3, ey3, H0⟩ := bS H0
 refine oK rfl (oM rfl (ow_cutY 5 21 y3 ?_ ?_))
 ·rcases Bool.eq_false_or_eq_true (!x2) with hy3 | hy3
  ·have ey3 := cond_t ey3 hy3
   refine oO rfl hy3 rfl (oO rfl hy3 rfl (oO rfl hy3 rfl (oO rfl hy3 rfl (oD (stp_pick_t rfl hy3 rfl) rfl ?_))))
   obtain rfl := sI ey3
   exact ow_nil (jy 5 0)
  have ey3 := cond_f ey3 hy3
  obtain ⟨x4, e4, ey3⟩ := bS ey3
  refine oG rfl hy3 (fA 2 Tryz.underlying34 rfl ts29 rfl rfl rfl) rfl (oG rfl hy3 (stp_loadN (us := [_, _]) ts29 rfl (Cells.box (id := 0) rfl 2 rfl)) rfl (ow_eff (.some rfl hy3) (stpU_call (fun i => 1 + i) cf55 (fun w hw => c_i_CacheValid fl w a0.c rfl (RO.pass hr0_2 hw) x4 e4) (yA rfl)) rfl ?_))
  rintro _ _ ⟨_, ⟨rfl, rfl⟩, rfl⟩
  refine oG rfl hy3 (stp_not rfl) rfl (oD (stp_pick_f rfl hy3 rfl) rfl ?_)
  obtain rfl := sI ey3
  exact ow_nil (jy 5 0)
 obtain ⟨y5, ey5, H0⟩ := bS H0
 refine oM rfl (ow_cutY 5 27 y5 ?_ ?_)
 ·rcases Bool.eq_false_or_eq_true y3 with hy5 | hy5
  ·have ey5 := cond_t ey5 hy5
   refine oO rfl hy5 rfl (oO rfl hy5 rfl (oO rfl hy5 rfl (oO rfl hy5 rfl (oD (stp_pick_t rfl hy5 rfl) rfl ?_))))
   obtain rfl := sI ey5
   exact ow_nil (jy 5 0)
  have ey5 := cond_f ey5 hy5
  obtain ⟨x6, e6, ey5⟩ := bS ey5
  refine oG rfl hy5 (fA 4 Tryz.underlying34 rfl ts32 rfl rfl rfl) rfl (oG rfl hy5 (stp_loadN (us := [_, _, _, _]) ts32 rfl (Cells.box (id := 0) rfl 4 rfl)) rfl (ow_eff (.some rfl hy5) (stpU_call (fun i => 1 + i) cf56 (fun w hw => c_i_TagsValid fl w a0.g rfl (RO.pass hr0_3 hw) x6 e6) (yA rfl)) rfl ?_))
  rintro _ _ ⟨_, ⟨rfl, rfl⟩, rfl⟩
  refine oG rfl hy5 (stp_not rfl) rfl (oD (stp_pick_f rfl hy5 rfl) rfl ?_)
  obtain rfl := sI ey5
  exact ow_nil (jy 5 0)
 obtain ⟨y7, ey7, H0⟩ := bS H0
 refine oM rfl (ow_cutY 7 35 y7 ?_ ?_)
 ·rcases Bool.eq_false_or_eq_true y5 with hy7 | hy7
  ·have ey7 := cond_t ey7 hy7
   refine oO rfl hy7 rfl (oO rfl hy7 rfl (oO rfl hy7 rfl (oO rfl hy7 rfl (oO rfl hy7 rfl (oO rfl hy7 rfl (oD (stp_pick_t rfl hy7 rfl) rfl ?_))))))
   obtain rfl := sI ey7
   exact ow_nil (jy 7 0)
  have ey7 := cond_f ey7 hy7
  obtain ⟨x8, e8, ey7⟩ := bS ey7
  refine oG rfl hy7 (fA 4 Tryz.underlying34 rfl ts32 rfl rfl rfl) rfl (oG rfl hy7 (stp_loadN (us := [_, _, _, _]) ts32 rfl (Cells.box (id := 0) rfl 4 rfl)) rfl (oG rfl hy7 (fA 8 Tryz.underlying34 rfl ts3 rfl rfl rfl) rfl (oG rfl hy7 (lB 0 ts3 rfl rfl rfl) rfl (ow_eff (.some rfl hy7) (stpU_call (fun i => 1 + i) cf57 (fun w hw => c_i_Tags_own fl w a0.g a0.s rfl (RO.pass hr0_3 hw) x8 e8) (yB rfl rfl)) rfl ?_))))
  rintro _ _ ⟨_, ⟨rfl, rfl⟩, rfl⟩
  refine oG rfl hy7 (stp_lss rfl rfl) rfl (oD (stp_pick_f rfl hy7 rfl) rfl ?_)
  obtain rfl := sI ey7
  exact ow_nil (jy 7 0)
 refine ow_nil (kw_nx (cw_cond rfl (fun h9 => ?_) (fun h9 => ?_)))
 ·have H0 := cond_t H0 h9
  refine sr (oS rfl (nn (cw_ret (kw_nx_ret ?_))))
  obtain rfl := sI H0
  exact kr Tryz.results19 (rT rfl) [] ⟨rfl, rfl⟩
 have H0 := cond_f H0 h9
 obtain ⟨o0_0, eo0_0, H0⟩ := bS H0
 refine cw_skip (kw_nx (cw_seq (sr (oA 0 Tryz.underlying34 rfl ts26 rfl (oA 1 Tryz.underlying26 rfl ts24 rfl (oL 0 ts24 rfl (oD (stp_len Tryz.underlying24 rfl) rfl (oM rfl (nn (cw_join (ι := Int) (fun | v10 => o0_0 = .out v10) (fun | v10 => [(1, .pointer (some ⟨b1, 0, none⟩)), (38, .slice p0_1 ((a0.t.f).length) c0_1), (39, .int .i64 ((a0.t.f).length : Int)), (40, .int .i64 v10)]) (fun | v10 => [(0, [(b1, .cells #[.slice p0_0 ((a0.t.b).length) c0_0, .slice p0_1 ((a0.t.f).length) c0_1, .slice p0_2 ((a0.c.l).length) c0_2, .int .i64 a0.c.h, .int .i64 a0.g.c, .int .i64 a0.g.n, .int .i64 a0.g.r, .slice p0_3 ((a0.g.o).length) c0_3, .int .i64 a0.s] 34 (0, 0))])]) ?_ ?_))))))))))
 ·refine cw_block (cw_loopS (ι := Nat × Int) (js := [0]) (fun x => x.1) (fun | (fuel, v10) => i_MachineValid_L0 fl a0 fuel v10 = some o0_0) (fun | (_, v10) => [(1, .pointer (some ⟨b1, 0, none⟩)), (38, .slice p0_1 ((a0.t.f).length) c0_1), (39, .int .i64 ((a0.t.f).length : Int)), (40, .int .i64 v10)]) (fun | (_, v10) => [(0, [(b1, .cells #[.slice p0_0 ((a0.t.b).length) c0_0, .slice p0_1 ((a0.t.f).length) c0_1, .slice p0_2 ((a0.c.l).length) c0_2, .int .i64 a0.c.h, .int .i64 a0.g.c, .int .i64 a0.g.n, .int .i64 a0.g.r, .slice p0_3 ((a0.g.o).length) c0_3, .int .i64 a0.s] 34 (0, 0))])]) (fl, 0) eo0_0 ⟨rfl, rfl, rfl, rfl, trivial⟩ ⟨0, [], rfl, rfl, trivial⟩ (by decide) ?_)
  rintro ⟨fuel, v10⟩ H1
  have H1 : i_MachineValid_L0 fl a0 fuel v10 = some o0_0 := H1
  rcases fuel with _ | fuel
  ·rw [i_MachineValid_L0.eq_1] at H1; cases H1
  rw [i_MachineValid_L0.eq_2] at H1
  dsimp only
  refine sr (oW rfl (nn (cw_seq (cw_cond rfl (fun h11 => ?_) (fun h11 => ?_)))))
  ·have H1 := cond_t H1 h11
   obtain ⟨x12, e12, H1⟩ := bS H1
   refine cw_skip (kw_nx (cw_seq (cw_block (sr (oD (stp_indexAddr Tryz.underlying24 ts58 (by decide) rfl rfl rfl (Rdb.ro hr0_1) e12) rfl (oD (stp_loadN (us := [_, _, _, _, _]) ts58 rfl (Cells.el (Rdb.ro hr0_1) (by decide) e12 0 5 rfl)) rfl (oE (stpU_alloc 1 tz58 rfl) rfl ?_)))))))
   rintro _ _ ⟨b13, rfl, rfl⟩
   obtain ⟨y14, ey14, H1⟩ := bS H1
   refine oC5 1 ts58 rfl rfl (nn (sr (oA 0 Tryz.underlying58 rfl ts4 rfl (oL 1 ts4 rfl (oM rfl (ow_cutY 5 51 y14 ?_ ?_))))))
   ·rcases Bool.eq_false_or_eq_true x12.u with hy14 | hy14
    ·have ey14 := cond_t ey14 hy14
     refine oG rfl hy14 (fA 1 Tryz.underlying58 rfl ts47 rfl rfl rfl) rfl (oG rfl hy14 (fA 1 Tryz.underlying47 rfl ts3 rfl rfl rfl) rfl (oG rfl hy14 (lB 1 ts3 rfl rfl rfl) rfl (oG rfl hy14 (stp_geq rfl rfl) rfl (oD (stp_pick_t rfl hy14 rfl) rfl ?_))))
     obtain rfl := sI ey14
     exact ow_nil (jy 5 0)
    have ey14 := cond_f ey14 hy14
    refine oO rfl hy14 rfl (oO rfl hy14 rfl (oO rfl hy14 rfl (oO rfl hy14 rfl (oD (stp_pick_f rfl hy14 rfl) rfl ?_))))
    obtain rfl := sI ey14
    exact ow_nil (jy 5 0)
   obtain ⟨y15, ey15, H1⟩ := bS H1
   refine oM rfl (ow_cutY 5 57 y15 ?_ ?_)
   ·rcases Bool.eq_false_or_eq_true y14 with hy15 | hy15
    ·have ey15 := cond_t ey15 hy15
     refine oG rfl hy15 (fA 1 Tryz.underlying58 rfl ts47 rfl rfl rfl) rfl (oG rfl hy15 (fA 0 Tryz.underlying47 rfl ts3 rfl rfl rfl) rfl (oG rfl hy15 (lB 1 ts3 rfl rfl rfl) rfl (oG rfl hy15 (stp_neq rfl rfl) rfl (oD (stp_pick_t rfl hy15 rfl) rfl ?_))))
     obtain rfl := sI ey15
     exact ow_nil (jy 5 0)
    have ey15 := cond_f ey15 hy15
    refine oO rfl hy15 rfl (oO rfl hy15 rfl (oO rfl hy15 rfl (oO rfl hy15 rfl (oD (stp_pick_f rfl hy15 rfl) rfl ?_))))
    obtain rfl := sI ey15
    exact ow_nil (jy 5 0)
   refine ow_nil (kw_nx (cw_cond rfl (fun h16 => ?_) (fun h16 => ?_)))
   ·have H1 := cond_t H1 h16
    refine sr (oS rfl (nn (cw_ret (kw_bl_ret (kw_nx_ret (kw_lq_ret (kw_bl_ret (kw_join_ret (kw_nx_ret ?_)))))))))
    obtain rfl := sI H1
    obtain rfl := sI H0
    exact kr Tryz.results19 (rT rfl) [] ⟨rfl, rfl⟩
   have H1 := cond_f H1 h16
   obtain ⟨x17, e17, H1⟩ := bS H1
   exact cw_skip (kw_bl_normal (kw_nx (cw_region (oP e17 rfl (oM rfl (ow_nil (kw_lqS (js := [0]) (fuel, x17) H1 (Nat.lt_succ_self _) ⟨rfl, rfl, rfl, rfl, trivial⟩ ⟨0, [], rfl, rfl, trivial⟩ (by decide))))))))
  have H1 := cond_f H1 h11
  refine cw_exit (kw_nx_exit (kw_lq_exit (kw_bl ?_)))
  obtain rfl := sI H1
  exact kw_joinS (js := [0]) v10 rfl ⟨rfl, rfl, rfl, rfl, trivial⟩ ⟨0, [], rfl, rfl, trivial⟩ (by decide)
 rintro v10 rfl
 dsimp only
 obtain ⟨o0_1, eo0_1, H0⟩ := bS H0
 refine kw_nx (cw_seq (sr (oA 2 Tryz.underlying34 rfl ts29 rfl (oA 0 Tryz.underlying29 rfl ts27 rfl (oL 0 ts27 rfl (oD (stp_len Tryz.underlying27 rfl) rfl (oM rfl (nn (cw_join (ι := Int) (fun | v18 => o0_1 = .out v18) (fun | v18 => [(1, .pointer (some ⟨b1, 0, none⟩)), (61, .slice p0_2 ((a0.c.l).length) c0_2), (62, .int .i64 ((a0.c.l).length : Int)), (63, .int .i64 v18)]) (fun | v18 => [(0, [(b1, .cells #[.slice p0_0 ((a0.t.b).length) c0_0, .slice p0_1 ((a0.t.f).length) c0_1, .slice p0_2 ((a0.c.l).length) c0_2, .int .i64 a0.c.h, .int .i64 a0.g.c, .int .i64 a0.g.n, .int .i64 a0.g.r, .slice p0_3 ((a0.g.o).length) c0_3, .int .i64 a0.s] 34 (0, 0))])]) ?_ ?_)))))))))
 ·refine cw_block (cw_loopS (ι := Nat × Int) (js := [0]) (fun x => x.1) (fun | (fuel, v18) => i_MachineValid_L1 fl a0 fuel v18 = some o0_1) (fun | (_, v18) => [(1, .pointer (some ⟨b1, 0, none⟩)), (61, .slice p0_2 ((a0.c.l).length) c0_2), (62, .int .i64 ((a0.c.l).length : Int)), (63, .int .i64 v18)]) (fun | (_, v18) => [(0, [(b1, .cells #[.slice p0_0 ((a0.t.b).length) c0_0, .slice p0_1 ((a0.t.f).length) c0_1, .slice p0_2 ((a0.c.l).length) c0_2, .int .i64 a0.c.h, .int .i64 a0.g.c, .int .i64 a0.g.n, .int .i64 a0.g.r, .slice p0_3 ((a0.g.o).length) c0_3, .int .i64 a0.s] 34 (0, 0))])]) (fl, 0) eo0_1 ⟨rfl, rfl, rfl, rfl, trivial⟩ ⟨0, [], rfl, rfl, trivial⟩ (by decide) ?_)
  rintro ⟨fuel, v18⟩ H1
  have H1 : i_MachineValid_L1 fl a0 fuel v18 = some o0_1 := H1
  rcases fuel with _ | fuel
  ·rw [i_MachineValid_L1.eq_1] at H1; cases H1
  rw [i_MachineValid_L1.eq_2] at H1
  dsimp only
  refine sr (oW rfl (nn (cw_seq (cw_cond rfl (fun h19 => ?_) (fun h19 => ?_)))))
  ·have H1 := cond_t H1 h19
   obtain ⟨x20, e20, H1⟩ := bS H1
   refine cw_skip (kw_nx (cw_seq (cw_block (sr (oD (stp_indexAddr Tryz.underlying27 ts41 (by decide) rfl rfl rfl (Rdb.ro hr0_2) e20) rfl (oD (stp_loadN (us := [_, _, _, _, _, _]) ts41 rfl (Cells.el (Rdb.ro hr0_2) (by decide) e20 0 6 rfl)) rfl (oE (stpU_alloc 2 tz41 rfl) rfl ?_)))))))
   rintro _ _ ⟨b21, rfl, rfl⟩
   refine oC6 2 ts41 rfl rfl (nn (cw_seq (sr (oA 0 Tryz.underlying41 rfl ts4 rfl (oL 2 ts4 rfl (oK rfl (nn (cw_cond rfl (fun h22 => ?_) (fun h22 => ?_)))))))))
   ·have H1 := cond_t H1 h22
    obtain ⟨x23, e23, H1⟩ := bS H1
    exact cw_exit (kw_nx_exit (kw_bl (kw_nx (cw_region (oP e23 rfl (oM rfl (ow_nil (kw_lqS (js := [0]) (fuel, x23) H1 (Nat.lt_succ_self _) ⟨rfl, rfl, rfl, rfl, trivial⟩ ⟨0, [], rfl, rfl, trivial⟩ (by decide)))))))))
   have H1 := cond_f H1 h22
   refine cw_skip (kw_nx (sr (oA 2 Tryz.underlying41 rfl ts3 rfl (oL 2 ts3 rfl (oI rfl (oS rfl (nn (cw_seq (sr (oM rfl (oA 1 Tryz.underlying41 rfl ts3 rfl (oL 2 ts3 rfl (oQ rfl ?_)))))))))))))
   obtain ⟨y24, ey24, H1⟩ := bS H1
   refine oD (stp_neqB Tryz.underlying4 rfl rfl) rfl (oM rfl (ow_cutY 7 85 y24 ?_ ?_))
   ·rcases Bool.eq_false_or_eq_true ((decide (128 ≤ x20.pg)) != (x20.tg == (-1))) with hy24 | hy24
    ·have ey24 := cond_t ey24 hy24
     refine oO rfl hy24 rfl (oO rfl hy24 rfl (oO rfl hy24 rfl (oX rfl rfl rfl (oX rfl rfl rfl (oO rfl hy24 rfl (oD (stp_pick_t rfl hy24 rfl) rfl ?_))))))
     obtain rfl := sI ey24
     exact ow_nil (jy 7 0)
    have ey24 := cond_f ey24 hy24
    obtain ⟨y25, ey25, ey24⟩ := bS ey24
    refine oG rfl hy24 (fA 5 Tryz.underlying41 rfl ts4 rfl rfl rfl) rfl (oG rfl hy24 (lB 2 ts4 rfl rfl rfl) rfl (oG rfl hy24 (mv rfl) rfl (ow_cutY 3 84 y25 ?_ ?_)))
    ·rcases Bool.eq_false_or_eq_true x20.wi with hy25 | hy25
     ·have ey25 := cond_t ey25 hy25
      refine oG rfl hy25 (mv rfl) rfl (oG rfl hy25 (stp_not rfl) rfl (oG rfl hy24 (stp_pick_t rfl hy25 rfl) rfl ?_))
      obtain rfl := sI ey25
      exact ow_nil (jy 3 0)
     have ey25 := cond_f ey25 hy25
     refine oO rfl hy25 rfl (oO rfl hy25 rfl (oG rfl hy24 (stp_pick_f rfl hy25 rfl) rfl ?_))
     obtain rfl := sI ey25
     exact ow_nil (jy 3 0)
    refine oD (stp_pick_f rfl hy24 rfl) rfl ?_
    obtain rfl := sI ey24
    exact ow_nil (jy 5 0)
   refine ow_nil (kw_nx (cw_cond rfl (fun h26 => ?_) (fun h26 => ?_)))
   ·have H1 := cond_t H1 h26
    refine sr (oS rfl (nn (cw_ret (kw_nx_ret (kw_bl_ret (kw_nx_ret (kw_lq_ret (kw_bl_ret (kw_join_ret (kw_nx_ret ?_))))))))))
    obtain rfl := sI H1
    obtain rfl := sI H0
    exact kr Tryz.results19 (rT rfl) [] ⟨rfl, rfl⟩
   have H1 := cond_f H1 h26
   refine cw_skip (kw_nx (sr (oS rfl (nn (cw_seq (sr (oM rfl (oK rfl (nn (cw_cond rfl (fun h27 => ?_) (fun h27 => ?_)))))))))))
   ·have H1 := cond_t H1 h27
    obtain ⟨x28, e28, H1⟩ := bS H1
    refine sr (oA 4 Tryz.underlying34 rfl ts32 rfl (oB4 0 ts32 rfl (oA 1 Tryz.underlying41 rfl ts3 rfl (oL 2 ts3 rfl (oE (stpU_call (fun i => 3 + i) cf58 (fun w hw => c_i_SpaceOf fl w a0.g x20.tg rfl (RO.pass hr0_3 hw) x28 e28) (yB rfl rfl)) rfl ?_)))))
    rintro _ _ ⟨_, ⟨rfl, rfl⟩, rfl⟩
    refine oM rfl (oT rfl (oT rfl (oS rfl (oS rfl (nn (cw_seq (sr (oM rfl (oK rfl (nn (cw_cond rfl (fun h29 => ?_) (fun h29 => ?_))))))))))))
    ·have H1 := cond_t H1 h29
     refine sr (oS rfl (nn (cw_ret (kw_nx_ret (kw_nx_ret (kw_bl_ret (kw_nx_ret (kw_lq_ret (kw_bl_ret (kw_join_ret (kw_nx_ret ?_)))))))))))
     obtain rfl := sI H1
     obtain rfl := sI H0
     exact kr Tryz.results19 (rT rfl) [] ⟨rfl, rfl⟩
    have H1 := cond_f H1 h29
    obtain ⟨x30, e30, H1⟩ := bS H1
    obtain ⟨x31, e31, H1⟩ := bS H1
    refine cw_skip (kw_nx (cw_region (oM rfl (oS rfl (nn (cw_seq (rdq g_mixed [1, 6, 8] [0, 2] { dst := dS [100, 101, 102, 103, 104, 105, 106, 12], pre := gA [] [[], [0], [], [], [3], [2, 3, 4], rn 0 6, rn 0 7], ids := fun _ => [], rs := rL [[(1, 0)], [(99, 1)], [(8, 0)], [(6, 0)], [(102, 4)], [(101, 3), (103, 5)], [(100, 2), (104, 6)], [(105, 7)]], rh := rL [[], [(0, 0)], [], [], [(2, 0)]], V := fun i g => gA undef [.pointer (some ⟨b1, 0, none⟩), .agg #[.slice p0_0 ((a0.t.b).length) c0_0, .slice p0_1 ((a0.t.f).length) c0_1], .int .i64 x28.1, .pointer (some ⟨b21, 2, none⟩), .int .i64 x20.pg, .agg #[.int .i64 x30.s, .int .i64 x30.p], .int .i64 x31, .int .i64 x31] i, U := fun _ _ => [], Φ := fun _ _ => True } ?_ ?_)))))))
    ·refine ⟨lc rfl rfl fun hs hh => stp_fieldAddr (j := 0) Tryz.underlying34 rfl ts26 rfl (sv hs 1 rfl) rfl, lc rfl rfl fun hs hh => stp_loadN (us := [_, _]) ts26 (sv hs 99 rfl) (Cells.box (id := 0) (hh.get 0 _ rfl) 2 rfl), lM, lc rfl rfl fun hs hh => stp_fieldAddr (j := 2) Tryz.underlying41 rfl ts3 rfl (sv hs 6 rfl) rfl, lc rfl rfl fun hs hh => stp_load1 ts3 (sv hs 102 rfl) (Cells.box (id := 2) (hh.get 2 _ rfl) 1 rfl), ?_, ?_, lS, trivial⟩
     ·refine le rfl rfl (fun g hΦ s h hs hh => (stpU_call (fun i => 3 + i) cf34 (fun w hw => c_i_KeyFor fl w x28.1 x20.pg x30 e30) (yB (sv hs 101 rfl) (sv hs 103 rfl)))) ?_
      rintro g _ _ ⟨_, ⟨rfl, rfl⟩, rfl⟩
      exact ⟨⟨[], [], []⟩, trivial, .inr rfl, rfl⟩
     refine le rfl rfl (fun g hΦ s h hs hh => (stpU_call (fun i => 3 + i) cf59 (fun w hw => c_i_Table_find fl w a0.t x30 rfl (RO.pass hr0_0 hw) rfl (RO.pass hr0_1 hw) x31 e31) (yB (sv hs 100 rfl) (sv hs 104 rfl)))) ?_
     rintro g _ _ ⟨_, ⟨rfl, rfl⟩, rfl⟩
     exact ⟨⟨[], [], []⟩, trivial, .inr rfl, rfl⟩
    intro g hΦ
    refine KW.sub (s' := [(1, .pointer (some ⟨b1, 0, none⟩)), (6, .pointer (some ⟨b21, 0, none⟩)), (11, .int .i64 x31), (61, .slice p0_2 ((a0.c.l).length) c0_2), (62, .int .i64 ((a0.c.l).length : Int)), (63, .int .i64 v18)]) (h' := [(0, [(b1, .cells #[.slice p0_0 ((a0.t.b).length) c0_0, .slice p0_1 ((a0.t.f).length) c0_1, .slice p0_2 ((a0.c.l).length) c0_2, .int .i64 a0.c.h, .int .i64 a0.g.c, .int .i64 a0.g.n, .int .i64 a0.g.r, .slice p0_3 ((a0.g.o).length) c0_3, .int .i64 a0.s] 34 (0, 0))]), (2, [(b21, .cells #[.bool x20.va, .int .i64 x20.tg, .int .i64 x20.pg, .int .i64 x20.fr, .int .i64 x20.ri, .bool x20.wi] 41 (0, 0))])]) ?_ ⟨rfl, rfl, rfl, rfl, rfl, rfl, trivial⟩ ⟨rfl, rfl, trivial⟩
    obtain ⟨y32, ey32, H1⟩ := bS H1
    obtain ⟨y33, ey33, H1⟩ := bS H1
    refine kw_nx (cw_seq (cw_join (ι := Unit) (fun | _ => True) (fun | _ => [(1, .pointer (some ⟨b1, 0, none⟩)), (61, .slice p0_2 ((a0.c.l).length) c0_2), (62, .int .i64 ((a0.c.l).length : Int)), (63, .int .i64 v18), (125, .bool y33)]) (fun | _ => [(0, [(b1, .cells #[.slice p0_0 ((a0.t.b).length) c0_0, .slice p0_1 ((a0.t.f).length) c0_1, .slice p0_2 ((a0.c.l).length) c0_2, .int .i64 a0.c.h, .int .i64 a0.g.c, .int .i64 a0.g.n, .int .i64 a0.g.r, .slice p0_3 ((a0.g.o).length) c0_3, .int .i64 a0.s] 34 (0, 0))])]) ?_ ?_))
    ·rcases Bool.eq_false_or_eq_true (decide (x31 < 0)) with hy32 | hy32
     ·have ey32 := cond_t ey32 hy32
      have qy32 := sI ey32
      have hy33 : y32 = true := by rw [← qy32]
      have ey33 := cond_t ey33 hy33
      have qy33 := sI ey33
      refine rdq g_mixed [11] [] { dst := dS [107, 108, 109, 110, 111, 112, 113, 114, 115, 116, 117, 118, 119, 120, 121, 122, 123, 124, 125, 126], pre := gA [] [[], [0], [0, 1], [0, 1, 2], [0, 1, 2], [0, 1, 2, 4], rn 0 6, rn 0 7, rn 0 8, rn 0 9, rn 0 10, rn 0 11, rn 0 9, rn 0 13, rn 0 14, rn 0 15, rn 0 9, [0, 1, 2, 3, 4, 5, 6, 7, 8, 16], rn 0 18, rn 0 19], ids := fun _ => [], rs := rL [[(11, 0)], [(106, 1)], [(107, 2)], [(108, 3)], [(108, 3)], [(108, 3)], [(108, 3)], [(108, 3), (112, 7)], [(113, 8)], [(114, 9)], [(114, 9)], [(114, 9)], [(114, 9)], [(114, 9)], [(114, 9)], [(114, 9)], [(114, 9)], [(114, 9)], [(114, 9)], [(114, 9), (124, 19)]], rh := fun _ => [], V := fun i g => gA undef [.int .i64 x31, .bool (decide (x31 < 0)), .bool (decide (x31 < 0)), undef, undef, undef, undef, .bool y32, .bool y32, undef, undef, undef, undef, undef, undef, undef, undef, undef, undef, .bool y33] i, U := fun _ _ => [], Φ := fun _ _ => True } ?_ ?_
      ·exact ⟨lM, lc rfl rfl fun hs hh => stp_lss (sv hs 106 rfl) rfl, lM, lo rfl rfl 108 hy32, lo rfl rfl 108 hy32, lo rfl rfl 108 hy32, lo rfl rfl 108 hy32, lc rfl rfl fun hs hh => stp_pick_tB (sv hs 108 rfl) hy32 rfl qy32, lM, lo rfl rfl 114 hy33, lo rfl rfl 114 hy33, lo rfl rfl 114 hy33, lo rfl rfl 114 hy33, lo rfl rfl 114 hy33, lo rfl rfl 114 hy33, lo rfl rfl 114 hy33, lo rfl rfl 114 hy33, lo rfl rfl 114 hy33, lo rfl rfl 114 hy33, lc rfl rfl fun hs hh => stp_pick_tB (sv hs 114 rfl) hy33 rfl qy33, trivial⟩
      intro g hΦ
      exact kw_join () trivial ⟨rfl, rfl, rfl, rfl, rfl, trivial⟩ ⟨rfl, trivial⟩
     have ey32 := cond_f ey32 hy32
     have qy32 := sI ey32
     rcases Bool.eq_false_or_eq_true y32 with hy33 | hy33
     ·have ey33 := cond_t ey33 hy33
      have qy33 := sI ey33
      refine rdq g_mixed [6, 11] [2] { dst := dS [107, 108, 109, 110, 111, 112, 113, 114, 115, 116, 117, 118, 119, 120, 121, 122, 123, 124, 125, 126], pre := gA [] [[], [0], [0, 1], [0, 1, 2], [0, 1, 2], [0, 1, 2, 4], rn 0 6, rn 0 7, rn 0 8, rn 0 9, rn 0 10, rn 0 11, rn 0 9, rn 0 13, rn 0 14, rn 0 15, rn 0 9, [0, 1, 2, 3, 4, 5, 6, 7, 8, 16], rn 0 18, rn 0 19], ids := fun _ => [], rs := rL [[(11, 0)], [(106, 1)], [(107, 2)], [(11, 0), (108, 3)], [(6, 0), (108, 3)], [(110, 5), (108, 3)], [(109, 4), (111, 6), (108, 3)], [(108, 3), (112, 7)], [(113, 8)], [(114, 9)], [(114, 9)], [(114, 9)], [(114, 9)], [(114, 9)], [(114, 9)], [(114, 9)], [(114, 9)], [(114, 9)], [(114, 9)], [(114, 9), (124, 19)]], rh := rL [[], [], [], [], [], [(2, 0)]], V := fun i g => gA undef [.int .i64 x31, .bool (decide (x31 < 0)), .bool (decide (x31 < 0)), .int .i64 x31, .pointer (some ⟨b21, 3, none⟩), .int .i64 x20.fr, .bool (x31 != x20.fr), .bool y32, .bool y32, undef, undef, undef, undef, undef, undef, undef, undef, undef, undef, .bool y33] i, U := fun _ _ => [], Φ := fun _ _ => True } ?_ ?_
      ·exact ⟨lM, lc rfl rfl fun hs hh => stp_lss (sv hs 106 rfl) rfl, lM, lg rfl rfl 108 hy32 fun hs hh => stp_move (sv hs 11 rfl), lg rfl rfl 108 hy32 fun hs hh => stp_fieldAddr (j := 3) Tryz.underlying41 rfl ts3 rfl (sv hs 6 rfl) rfl, lg rfl rfl 108 hy32 fun hs hh => stp_load1 ts3 (sv hs 110 rfl) (Cells.box (id := 2) (hh.get 2 _ rfl) 1 rfl), lg rfl rfl 108 hy32 fun hs hh => stp_neq (sv hs 109 rfl) (sv hs 111 rfl), lc rfl rfl fun hs hh => stp_pick_fB (sv hs 108 rfl) hy32 (sv hs 112 rfl) qy32, lM, lo rfl rfl 114 hy33, lo rfl rfl 114 hy33, lo rfl rfl 114 hy33, lo rfl rfl 114 hy33, lo rfl rfl 114 hy33, lo rfl rfl 114 hy33, lo rfl rfl 114 hy33, lo rfl rfl 114 hy33, lo rfl rfl 114 hy33, lo rfl rfl 114 hy33, lc rfl rfl fun hs hh => stp_pick_tB (sv hs 114 rfl) hy33 rfl qy33, trivial⟩
      intro g hΦ
      exact kw_join () trivial ⟨rfl, rfl, rfl, rfl, rfl, trivial⟩ ⟨rfl, trivial⟩
     have ey33 := cond_f ey33 hy33
     obtain ⟨x34, e34, ey33⟩ := bS ey33
     have qy33 := sI ey33
     refine rdq g_mixed [1, 6, 11] [0, 2] { dst := dS [107, 108, 109, 110, 111, 112, 113, 114, 115, 116, 117, 118, 119, 120, 121, 122, 123, 124, 125, 126], pre := gA [] [[], [0], [0, 1], [0, 1, 2], [0, 1, 2], [0, 1, 2, 4], rn 0 6, rn 0 7, rn 0 8, rn 0 9, rn 0 10, rn 0 11, rn 0 9, rn 0 13, rn 0 14, rn 0 15, rn 0 9, [0, 1, 2, 3, 4, 5, 6, 7, 8, 16], rn 0 18, rn 0 19], ids := fun _ => [], rs := rL [[(11, 0)], [(106, 1)], [(107, 2)], [(11, 0), (108, 3)], [(6, 0), (108, 3)], [(110, 5), (108, 3)], [(109, 4), (111, 6), (108, 3)], [(108, 3), (112, 7)], [(113, 8)], [(1, 0), (114, 9)], [(115, 10), (114, 9)], [(116, 11), (114, 9)], [(11, 0), (114, 9)], [(117, 12), (118, 13), (114, 9)], [(119, 14), (114, 9)], [(120, 15), (114, 9)], [(6, 0), (114, 9)], [(122, 17), (114, 9)], [(121, 16), (123, 18), (114, 9)], [(114, 9), (124, 19)]], rh := rL [[], [], [], [], [], [(2, 0)], [], [], [], [], [], [(0, 0)], [], [], [], [], [], [(2, 0)]], V := fun i g => gA undef [.int .i64 x31, .bool (decide (x31 < 0)), .bool (decide (x31 < 0)), .int .i64 x31, .pointer (some ⟨b21, 3, none⟩), .int .i64 x20.fr, .bool (x31 != x20.fr), .bool y32, .bool y32, .pointer (some ⟨b1, 0, none⟩), .pointer (some ⟨b1, 1, none⟩), .slice p0_1 ((a0.t.f).length) c0_1, .int .i64 x31, .pointer (some ⟨eB p0_1, eO p0_1 + Int.toNat x31 * Enc.sz F + 0, none⟩), .pointer (some ⟨eB p0_1, eO p0_1 + Int.toNat x31 * Enc.sz F + 3, none⟩), .int .i64 x34.r, .pointer (some ⟨b21, 4, none⟩), .int .i64 x20.ri, .bool (x34.r != x20.ri), .bool y33] i, U := fun _ _ => [], Φ := fun _ _ => True } ?_ ?_
     ·exact ⟨lM, lc rfl rfl fun hs hh => stp_lss (sv hs 106 rfl) rfl, lM, lg rfl rfl 108 hy32 fun hs hh => stp_move (sv hs 11 rfl), lg rfl rfl 108 hy32 fun hs hh => stp_fieldAddr (j := 3) Tryz.underlying41 rfl ts3 rfl (sv hs 6 rfl) rfl, lg rfl rfl 108 hy32 fun hs hh => stp_load1 ts3 (sv hs 110 rfl) (Cells.box (id := 2) (hh.get 2 _ rfl) 1 rfl), lg rfl rfl 108 hy32 fun hs hh => stp_neq (sv hs 109 rfl) (sv hs 111 rfl), lc rfl rfl fun hs hh => stp_pick_fB (sv hs 108 rfl) hy32 (sv hs 112 rfl) qy32, lM, lg rfl rfl 114 hy33 fun hs hh => stp_fieldAddr (j := 0) Tryz.underlying34 rfl ts26 rfl (sv hs 1 rfl) rfl, lg rfl rfl 114 hy33 fun hs hh => stp_fieldAddr (j := 1) Tryz.underlying26 rfl ts24 rfl (sv hs 115 rfl) rfl, lg rfl rfl 114 hy33 fun hs hh => stp_load1 ts24 (sv hs 116 rfl) (Cells.box (id := 0) (hh.get 0 _ rfl) 1 rfl), lg rfl rfl 114 hy33 fun hs hh => stp_move (sv hs 11 rfl), lg rfl rfl 114 hy33 fun hs hh => stp_indexAddr Tryz.underlying24 ts58 (by decide) (sv hs 117 rfl) rfl (sv hs 118 rfl) (Rdb.ro hr0_1) e34, lg rfl rfl 114 hy33 fun hs hh => stp_fieldAddr (j := 3) Tryz.underlying58 rfl ts3 rfl (sv hs 119 rfl) rfl, lg rfl rfl 114 hy33 fun hs hh => stp_load1 ts3 (sv hs 120 rfl) (Cells.el (Rdb.ro hr0_1) (by decide) e34 3 1 rfl), lg rfl rfl 114 hy33 fun hs hh => stp_fieldAddr (j := 4) Tryz.underlying41 rfl ts3 rfl (sv hs 6 rfl) rfl, lg rfl rfl 114 hy33 fun hs hh => stp_load1 ts3 (sv hs 122 rfl) (Cells.box (id := 2) (hh.get 2 _ rfl) 1 rfl), lg rfl rfl 114 hy33 fun hs hh => stp_neq (sv hs 121 rfl) (sv hs 123 rfl), lc rfl rfl fun hs hh => stp_pick_fB (sv hs 114 rfl) hy33 (sv hs 124 rfl) qy33, trivial⟩
     intro g hΦ
     exact kw_join () trivial ⟨rfl, rfl, rfl, rfl, rfl, trivial⟩ ⟨rfl, trivial⟩
    rintro _ -
    dsimp only
    refine kw_nx (cw_cond rfl (fun h35 => ?_) (fun h35 => ?_))
    ·have H1 := cond_t H1 h35
     refine sr (oS rfl (nn (cw_ret (kw_bl_ret (kw_nx_ret (kw_lq_ret (kw_bl_ret (kw_join_ret (kw_nx_ret ?_)))))))))
     obtain rfl := sI H1
     obtain rfl := sI H0
     exact kr Tryz.results19 (rT rfl) [] ⟨rfl, rfl⟩
    have H1 := cond_f H1 h35
    obtain ⟨x36, e36, H1⟩ := bS H1
    exact cw_skip (kw_bl_normal (kw_nx (cw_region (oP e36 rfl (oM rfl (ow_nil (kw_lqS (js := [0]) (fuel, x36) H1 (Nat.lt_succ_self _) ⟨rfl, rfl, rfl, rfl, trivial⟩ ⟨0, [], rfl, rfl, trivial⟩ (by decide))))))))
   have H1 := cond_f H1 h27
   obtain ⟨x37, e37, H1⟩ := bS H1
   obtain ⟨x38, e38, H1⟩ := bS H1
   refine cw_skip (kw_nx (cw_seq (rdq g_mixed [1, 6, 8] [0, 2] { dst := dS [100, 101, 102, 103, 104, 105, 106, 12], pre := gA [] [[], [0], [], [], [3], [2, 3, 4], rn 0 6, rn 0 7], ids := fun _ => [], rs := rL [[(1, 0)], [(99, 1)], [(8, 0)], [(6, 0)], [(102, 4)], [(101, 3), (103, 5)], [(100, 2), (104, 6)], [(105, 7)]], rh := rL [[], [(0, 0)], [], [], [(2, 0)]], V := fun i g => gA undef [.pointer (some ⟨b1, 0, none⟩), .agg #[.slice p0_0 ((a0.t.b).length) c0_0, .slice p0_1 ((a0.t.f).length) c0_1], .int .i64 0, .pointer (some ⟨b21, 2, none⟩), .int .i64 x20.pg, .agg #[.int .i64 x37.s, .int .i64 x37.p], .int .i64 x38, .int .i64 x38] i, U := fun _ _ => [], Φ := fun _ _ => True } ?_ ?_)))
   ·refine ⟨lc rfl rfl fun hs hh => stp_fieldAddr (j := 0) Tryz.underlying34 rfl ts26 rfl (sv hs 1 rfl) rfl, lc rfl rfl fun hs hh => stp_loadN (us := [_, _]) ts26 (sv hs 99 rfl) (Cells.box (id := 0) (hh.get 0 _ rfl) 2 rfl), lM, lc rfl rfl fun hs hh => stp_fieldAddr (j := 2) Tryz.underlying41 rfl ts3 rfl (sv hs 6 rfl) rfl, lc rfl rfl fun hs hh => stp_load1 ts3 (sv hs 102 rfl) (Cells.box (id := 2) (hh.get 2 _ rfl) 1 rfl), ?_, ?_, lS, trivial⟩
    ·refine le rfl rfl (fun g hΦ s h hs hh => (stpU_call (fun i => 3 + i) cf34 (fun w hw => c_i_KeyFor fl w 0 x20.pg x37 e37) (yB (sv hs 101 rfl) (sv hs 103 rfl)))) ?_
     rintro g _ _ ⟨_, ⟨rfl, rfl⟩, rfl⟩
     exact ⟨⟨[], [], []⟩, trivial, .inr rfl, rfl⟩
    refine le rfl rfl (fun g hΦ s h hs hh => (stpU_call (fun i => 3 + i) cf59 (fun w hw => c_i_Table_find fl w a0.t x37 rfl (RO.pass hr0_0 hw) rfl (RO.pass hr0_1 hw) x38 e38) (yB (sv hs 100 rfl) (sv hs 104 rfl)))) ?_
    rintro g _ _ ⟨_, ⟨rfl, rfl⟩, rfl⟩
    exact ⟨⟨[], [], []⟩, trivial, .inr rfl, rfl⟩
   intro g hΦ
   refine KW.sub (s' := [(1, .pointer (some ⟨b1, 0, none⟩)), (6, .pointer (some ⟨b21, 0, none⟩)), (11, .int .i64 x38), (61, .slice p0_2 ((a0.c.l).length) c0_2), (62, .int .i64 ((a0.c.l).length : Int)), (63, .int .i64 v18)]) (h' := [(0, [(b1, .cells #[.slice p0_0 ((a0.t.b).length) c0_0, .slice p0_1 ((a0.t.f).length) c0_1, .slice p0_2 ((a0.c.l).length) c0_2, .int .i64 a0.c.h, .int .i64 a0.g.c, .int .i64 a0.g.n, .int .i64 a0.g.r, .slice p0_3 ((a0.g.o).length) c0_3, .int .i64 a0.s] 34 (0, 0))]), (2, [(b21, .cells #[.bool x20.va, .int .i64 x20.tg, .int .i64 x20.pg, .int .i64 x20.fr, .int .i64 x20.ri, .bool x20.wi] 41 (0, 0))])]) ?_ ⟨rfl, rfl, rfl, rfl, rfl, rfl, trivial⟩ ⟨rfl, rfl, trivial⟩
   obtain ⟨y39, ey39, H1⟩ := bS H1
   obtain ⟨y40, ey40, H1⟩ := bS H1
   refine kw_nx (cw_seq (cw_join (ι := Unit) (fun | _ => True) (fun | _ => [(1, .pointer (some ⟨b1, 0, none⟩)), (61, .slice p0_2 ((a0.c.l).length) c0_2), (62, .int .i64 ((a0.c.l).length : Int)), (63, .int .i64 v18), (125, .bool y40)]) (fun | _ => [(0, [(b1, .cells #[.slice p0_0 ((a0.t.b).length) c0_0, .slice p0_1 ((a0.t.f).length) c0_1, .slice p0_2 ((a0.c.l).length) c0_2, .int .i64 a0.c.h, .int .i64 a0.g.c, .int .i64 a0.g.n, .int .i64 a0.g.r, .slice p0_3 ((a0.g.o).length) c0_3, .int .i64 a0.s] 34 (0, 0))])]) ?_ ?_))
   ·rcases Bool.eq_false_or_eq_true (decide (x38 < 0)) with hy39 | hy39
    ·have ey39 := cond_t ey39 hy39
     have qy39 := sI ey39
     have hy40 : y39 = true := by rw [← qy39]
     have ey40 := cond_t ey40 hy40
     have qy40 := sI ey40
     refine rdq g_mixed [11] [] { dst := dS [107, 108, 109, 110, 111, 112, 113, 114, 115, 116, 117, 118, 119, 120, 121, 122, 123, 124, 125, 126], pre := gA [] [[], [0], [0, 1], [0, 1, 2], [0, 1, 2], [0, 1, 2, 4], rn 0 6, rn 0 7, rn 0 8, rn 0 9, rn 0 10, rn 0 11, rn 0 9, rn 0 13, rn 0 14, rn 0 15, rn 0 9, [0, 1, 2, 3, 4, 5, 6, 7, 8, 16], rn 0 18, rn 0 19], ids := fun _ => [], rs := rL [[(11, 0)], [(106, 1)], [(107, 2)], [(108, 3)], [(108, 3)], [(108, 3)], [(108, 3)], [(108, 3), (112, 7)], [(113, 8)], [(114, 9)], [(114, 9)], [(114, 9)], [(114, 9)], [(114, 9)], [(114, 9)], [(114, 9)], [(114, 9)], [(114, 9)], [(114, 9)], [(114, 9), (124, 19)]], rh := fun _ => [], V := fun i g => gA undef [.int .i64 x38, .bool (decide (x38 < 0)), .bool (decide (x38 < 0)), undef, undef, undef, undef, .bool y39, .bool y39, undef, undef, undef, undef, undef, undef, undef, undef, undef, undef, .bool y40] i, U := fun _ _ => [], Φ := fun _ _ => True } ?_ ?_
     ·exact ⟨lM, lc rfl rfl fun hs hh => stp_lss (sv hs 106 rfl) rfl, lM, lo rfl rfl 108 hy39, lo rfl rfl 108 hy39, lo rfl rfl 108 hy39, lo rfl rfl 108 hy39, lc rfl rfl fun hs hh => stp_pick_tB (sv hs 108 rfl) hy39 rfl qy39, lM, lo rfl rfl 114 hy40, lo rfl rfl 114 hy40, lo rfl rfl 114 hy40, lo rfl rfl 114 hy40, lo rfl rfl 114 hy40, lo rfl rfl 114 hy40, lo rfl rfl 114 hy40, lo rfl rfl 114 hy40, lo rfl rfl 114 hy40, lo rfl rfl 114 hy40, lc rfl rfl fun hs hh => stp_pick_tB (sv hs 114 rfl) hy40 rfl qy40, trivial⟩
     intro g hΦ
     exact kw_join () trivial ⟨rfl, rfl, rfl, rfl, rfl, trivial⟩ ⟨rfl, trivial⟩
    have ey39 := cond_f ey39 hy39
    have qy39 := sI ey39
    rcases Bool.eq_false_or_eq_true y39 with hy40 | hy40
    ·have ey40 := cond_t ey40 hy40
     have qy40 := sI ey40
     refine rdq g_mixed [6, 11] [2] { dst := dS [107, 108, 109, 110, 111, 112, 113, 114, 115, 116, 117, 118, 119, 120, 121, 122, 123, 124, 125, 126], pre := gA [] [[], [0], [0, 1], [0, 1, 2], [0, 1, 2], [0, 1, 2, 4], rn 0 6, rn 0 7, rn 0 8, rn 0 9, rn 0 10, rn 0 11, rn 0 9, rn 0 13, rn 0 14, rn 0 15, rn 0 9, [0, 1, 2, 3, 4, 5, 6, 7, 8, 16], rn 0 18, rn 0 19], ids := fun _ => [], rs := rL [[(11, 0)], [(106, 1)], [(107, 2)], [(11, 0), (108, 3)], [(6, 0), (108, 3)], [(110, 5), (108, 3)], [(109, 4), (111, 6), (108, 3)], [(108, 3), (112, 7)], [(113, 8)], [(114, 9)], [(114, 9)], [(114, 9)], [(114, 9)], [(114, 9)], [(114, 9)], [(114, 9)], [(114, 9)], [(114, 9)], [(114, 9)], [(114, 9), (124, 19)]], rh := rL [[], [], [], [], [], [(2, 0)]], V := fun i g => gA undef [.int .i64 x38, .bool (decide (x38 < 0)), .bool (decide (x38 < 0)), .int .i64 x38, .pointer (some ⟨b21, 3, none⟩), .int .i64 x20.fr, .bool (x38 != x20.fr), .bool y39, .bool y39, undef, undef, undef, undef, undef, undef, undef, undef, undef, undef, .bool y40] i, U := fun _ _ => [], Φ := fun _ _ => True } ?_ ?_
     ·exact ⟨lM, lc rfl rfl fun hs hh => stp_lss (sv hs 106 rfl) rfl, lM, lg rfl rfl 108 hy39 fun hs hh => stp_move (sv hs 11 rfl), lg rfl rfl 108 hy39 fun hs hh => stp_fieldAddr (j := 3) Tryz.underlying41 rfl ts3 rfl (sv hs 6 rfl) rfl, lg rfl rfl 108 hy39 fun hs hh => stp_load1 ts3 (sv hs 110 rfl) (Cells.box (id := 2) (hh.get 2 _ rfl) 1 rfl), lg rfl rfl 108 hy39 fun hs hh => stp_neq (sv hs 109 rfl) (sv hs 111 rfl), lc rfl rfl fun hs hh => stp_pick_fB (sv hs 108 rfl) hy39 (sv hs 112 rfl) qy39, lM, lo rfl rfl 114 hy40, lo rfl rfl 114 hy40, lo rfl rfl 114 hy40, lo rfl rfl 114 hy40, lo rfl rfl 114 hy40, lo rfl rfl 114 hy40, lo rfl rfl 114 hy40, lo rfl rfl 114 hy40, lo rfl rfl 114 hy40, lo rfl rfl 114 hy40, lc rfl rfl fun hs hh => stp_pick_tB (sv hs 114 rfl) hy40 rfl qy40, trivial⟩
     intro g hΦ
     exact kw_join () trivial ⟨rfl, rfl, rfl, rfl, rfl, trivial⟩ ⟨rfl, trivial⟩
    have ey40 := cond_f ey40 hy40
    obtain ⟨x41, e41, ey40⟩ := bS ey40
    have qy40 := sI ey40
    refine rdq g_mixed [1, 6, 11] [0, 2] { dst := dS [107, 108, 109, 110, 111, 112, 113, 114, 115, 116, 117, 118, 119, 120, 121, 122, 123, 124, 125, 126], pre := gA [] [[], [0], [0, 1], [0, 1, 2], [0, 1, 2], [0, 1, 2, 4], rn 0 6, rn 0 7, rn 0 8, rn 0 9, rn 0 10, rn 0 11, rn 0 9, rn 0 13, rn 0 14, rn 0 15, rn 0 9, [0, 1, 2, 3, 4, 5, 6, 7, 8, 16], rn 0 18, rn 0 19], ids := fun _ => [], rs := rL [[(11, 0)], [(106, 1)], [(107, 2)], [(11, 0), (108, 3)], [(6, 0), (108, 3)], [(110, 5), (108, 3)], [(109, 4), (111, 6), (108, 3)], [(108, 3), (112, 7)], [(113, 8)], [(1, 0), (114, 9)], [(115, 10), (114, 9)], [(116, 11), (114, 9)], [(11, 0), (114, 9)], [(117, 12), (118, 13), (114, 9)], [(119, 14), (114, 9)], [(120, 15), (114, 9)], [(6, 0), (114, 9)], [(122, 17), (114, 9)], [(121, 16), (123, 18), (114, 9)], [(114, 9), (124, 19)]], rh := rL [[], [], [], [], [], [(2, 0)], [], [], [], [], [], [(0, 0)], [], [], [], [], [], [(2, 0)]], V := fun i g => gA undef [.int .i64 x38, .bool (decide (x38 < 0)), .bool (decide (x38 < 0)), .int .i64 x38, .pointer (some ⟨b21, 3, none⟩), .int .i64 x20.fr, .bool (x38 != x20.fr), .bool y39, .bool y39, .pointer (some ⟨b1, 0, none⟩), .pointer (some ⟨b1, 1, none⟩), .slice p0_1 ((a0.t.f).length) c0_1, .int .i64 x38, .pointer (some ⟨eB p0_1, eO p0_1 + Int.toNat x38 * Enc.sz F + 0, none⟩), .pointer (some ⟨eB p0_1, eO p0_1 + Int.toNat x38 * Enc.sz F + 3, none⟩), .int .i64 x41.r, .pointer (some ⟨b21, 4, none⟩), .int .i64 x20.ri, .bool (x41.r != x20.ri), .bool y40] i, U := fun _ _ => [], Φ := fun _ _ => True } ?_ ?_
    ·exact ⟨lM, lc rfl rfl fun hs hh => stp_lss (sv hs 106 rfl) rfl, lM, lg rfl rfl 108 hy39 fun hs hh => stp_move (sv hs 11 rfl), lg rfl rfl 108 hy39 fun hs hh => stp_fieldAddr (j := 3) Tryz.underlying41 rfl ts3 rfl (sv hs 6 rfl) rfl, lg rfl rfl 108 hy39 fun hs hh => stp_load1 ts3 (sv hs 110 rfl) (Cells.box (id := 2) (hh.get 2 _ rfl) 1 rfl), lg rfl rfl 108 hy39 fun hs hh => stp_neq (sv hs 109 rfl) (sv hs 111 rfl), lc rfl rfl fun hs hh => stp_pick_fB (sv hs 108 rfl) hy39 (sv hs 112 rfl) qy39, lM, lg rfl rfl 114 hy40 fun hs hh => stp_fieldAddr (j := 0) Tryz.underlying34 rfl ts26 rfl (sv hs 1 rfl) rfl, lg rfl rfl 114 hy40 fun hs hh => stp_fieldAddr (j := 1) Tryz.underlying26 rfl ts24 rfl (sv hs 115 rfl) rfl, lg rfl rfl 114 hy40 fun hs hh => stp_load1 ts24 (sv hs 116 rfl) (Cells.box (id := 0) (hh.get 0 _ rfl) 1 rfl), lg rfl rfl 114 hy40 fun hs hh => stp_move (sv hs 11 rfl), lg rfl rfl 114 hy40 fun hs hh => stp_indexAddr Tryz.underlying24 ts58 (by decide) (sv hs 117 rfl) rfl (sv hs 118 rfl) (Rdb.ro hr0_1) e41, lg rfl rfl 114 hy40 fun hs hh => stp_fieldAddr (j := 3) Tryz.underlying58 rfl ts3 rfl (sv hs 119 rfl) rfl, lg rfl rfl 114 hy40 fun hs hh => stp_load1 ts3 (sv hs 120 rfl) (Cells.el (Rdb.ro hr0_1) (by decide) e41 3 1 rfl), lg rfl rfl 114 hy40 fun hs hh => stp_fieldAddr (j := 4) Tryz.underlying41 rfl ts3 rfl (sv hs 6 rfl) rfl, lg rfl rfl 114 hy40 fun hs hh => stp_load1 ts3 (sv hs 122 rfl) (Cells.box (id := 2) (hh.get 2 _ rfl) 1 rfl), lg rfl rfl 114 hy40 fun hs hh => stp_neq (sv hs 121 rfl) (sv hs 123 rfl), lc rfl rfl fun hs hh => stp_pick_fB (sv hs 114 rfl) hy40 (sv hs 124 rfl) qy40, trivial⟩
    intro g hΦ
    exact kw_join () trivial ⟨rfl, rfl, rfl, rfl, rfl, trivial⟩ ⟨rfl, trivial⟩
   rintro _ -
   dsimp only
   refine kw_nx (cw_cond rfl (fun h42 => ?_) (fun h42 => ?_))
   ·have H1 := cond_t H1 h42
    refine sr (oS rfl (nn (cw_ret (kw_bl_ret (kw_nx_ret (kw_lq_ret (kw_bl_ret (kw_join_ret (kw_nx_ret ?_)))))))))
    obtain rfl := sI H1
    obtain rfl := sI H0
    exact kr Tryz.results19 (rT rfl) [] ⟨rfl, rfl⟩
   have H1 := cond_f H1 h42
   obtain ⟨x43, e43, H1⟩ := bS H1
   exact cw_skip (kw_bl_normal (kw_nx (cw_region (oP e43 rfl (oM rfl (ow_nil (kw_lqS (js := [0]) (fuel, x43) H1 (Nat.lt_succ_self _) ⟨rfl, rfl, rfl, rfl, trivial⟩ ⟨0, [], rfl, rfl, trivial⟩ (by decide))))))))
  have H1 := cond_f H1 h19
  refine cw_exit (kw_nx_exit (kw_lq_exit (kw_bl ?_)))
  obtain rfl := sI H1
  exact kw_joinS (js := [0]) v18 rfl ⟨rfl, rfl, rfl, rfl, trivial⟩ ⟨0, [], rfl, rfl, trivial⟩ (by decide)
 rintro v18 rfl
 dsimp only
 refine kw_nx (sr (oS rfl (nn (cw_ret ?_))))
 obtain rfl := sI H0
 exact kr Tryz.results19 (rT rfl) [] ⟨rfl, rfl⟩

theorem c_i_KeyValid (fl : Nat) (w : World) (a0 : K) (r : Bool) (H0 : i_KeyValid fl a0 = some r) :
  Ct Tryz.prog 76 [.agg #[.int .i64 a0.s, .int .i64 a0.p]] w [] (fun rv h' => rv = .bool r ∧ h' = []) := by
 unfold i_KeyValid at H0
 refine ct_of_cw Tryz.func76 rfl Tryz.ntmps76 rfl (Sat.refl _ _) ?_
 refine sr (oE (stpU_box 0 rfl rfl) rfl ?_)
 rintro _ _ ⟨b1, rfl, rfl⟩
 obtain ⟨x2, e2, H0⟩ := bS H0
 refine oS rfl (nn (sr (oA 0 Tryz.underlying47 rfl ts3 rfl (oL 0 ts3 rfl (oE (stpU_call (fun i => 1 + i) cf79 (fun w hw => c_i_within fl w a0.s 16 x2 e2) (yB rfl rfl)) rfl ?_)))))
 rintro _ _ ⟨_, ⟨rfl, rfl⟩, rfl⟩
 obtain ⟨y3, ey3, H0⟩ := bS H0
 refine oM rfl (ow_cutY 4 10 y3 ?_ ?_)
 ·rcases Bool.eq_false_or_eq_true x2 with hy3 | hy3
  ·have ey3 := cond_t ey3 hy3
   obtain ⟨x4, e4, ey3⟩ := bS ey3
   refine oG rfl hy3 (fA 1 Tryz.underlying47 rfl ts3 rfl rfl rfl) rfl (oG rfl hy3 (lB 0 ts3 rfl rfl rfl) rfl (ow_eff (.some rfl hy3) (stpU_call (fun i => 1 + i) cf79 (fun w hw => c_i_within fl w a0.p 256 x4 e4) (yB rfl rfl)) rfl ?_))
   rintro _ _ ⟨_, ⟨rfl, rfl⟩, rfl⟩
   refine oD (stp_pick_t rfl hy3 rfl) rfl ?_
   obtain rfl := sI ey3
   exact ow_nil (jy 4 0)
  have ey3 := cond_f ey3 hy3
  refine oO rfl hy3 rfl (oO rfl hy3 rfl (oO rfl hy3 rfl (oD (stp_pick_f rfl hy3 rfl) rfl ?_)))
  obtain rfl := sI ey3
  exact ow_nil (jy 4 0)
 refine oS rfl (nn (cw_ret ?_))
 obtain rfl := sI H0
 exact kr Tryz.results76 (rT rfl) [] ⟨rfl, rfl⟩

theorem c_slices_Clone_Int (fl : Nat) (w : World) (a0 : (List Int)) (hn0_0 : n0_0 = (a0).length) (hr0_0 : RO w (hkeys []) (RdL p0_0 c0_0 a0)) (r : (List Int)) (H0 : slices_Clone_Int fl a0 = some r) :
  Ct Tryz.prog 141 [.slice p0_0 n0_0 c0_0] w [] (fun rv h' => ∃ (x0 : Option Addr) (y0 z0 : Nat) (C0 : Res), rv = .slice x0 y0 z0 ∧ h' = [(0, C0)] ∧ y0 = (r).length ∧ OwnC 3 x0 z0 r C0) := by
 subst hn0_0
 unfold slices_Clone_Int at H0
 refine ct_of_cw Tryz.func141 rfl Tryz.ntmps141 rfl (Sat.refl _ _) ?_
 refine sr (oS rfl (nn (cw_seq (sr (oM rfl (oD (stp_eqlNil Tryz.underlying23 rfl) rfl (nn (cw_cond rfl (fun h1 => ?_) (fun h1 => ?_)))))))))
 ·have := True.intro
  obtain rfl : p0_0 = none := by simpa using h1
  obtain rfl : a0 = [] := nil_of_none hr0_0
  obtain rfl : r = [] := (cnt_some H0).1
  exact sr (oS rfl (nn (cw_ret (kw_nx_ret (kw_addNil 0 (kw_ret Tryz.results141 (rT rfl) [(0, [])] [0] ⟨0, [], rfl, rfl, trivial⟩ (by decide) ⟨none, 0, 0, [], rfl, rfl, rfl, (OwnC.nil _ _)⟩))))))
 have := True.intro
 refine cw_skip (kw_nx (sr (oE (stpU_lit0 sl23 1) rfl ?_)))
 rintro _ _ ⟨p2, C3, rfl, rfl, o3⟩
 refine oM rfl ?_
 have e4 : cnt (([] : List Int) ++ a0) = some r := H0
 refine oE (stpU_append sl23 rfl (id := 1) rfl (by simp) rfl rfl rfl o3 (Rdb.ro hr0_0) e4) rfl ?_
 rintro _ _ ⟨p5, c6, C7, rfl, rfl, o7⟩
 exact oS rfl (nn (cw_ret (kw_ret Tryz.results141 (rT rfl) [(0, C7)] [1] ⟨1, [], rfl, rfl, trivial⟩ (by decide) ⟨p5, ((r).length), c6, C7, rfl, rfl, rfl, o7⟩)))

theorem c_slices_Clone_Frame (fl : Nat) (w : World) (a0 : (List F)) (hn0_0 : n0_0 = (a0).length) (hr0_0 : RO w (hkeys []) (RdL p0_0 c0_0 a0)) (r : (List F)) (H0 : slices_Clone_Frame fl a0 = some r) :
  Ct Tryz.prog 143 [.slice p0_0 n0_0 c0_0] w [] (fun rv h' => ∃ (x0 : Option Addr) (y0 z0 : Nat) (C0 : Res), rv = .slice x0 y0 z0 ∧ h' = [(0, C0)] ∧ y0 = (r).length ∧ OwnC 58 x0 z0 r C0) := by
 subst hn0_0
 unfold slices_Clone_Frame at H0
 refine ct_of_cw Tryz.func143 rfl Tryz.ntmps143 rfl (Sat.refl _ _) ?_
 refine sr (oS rfl (nn (cw_seq (sr (oM rfl (oD (stp_eqlNil Tryz.underlying24 rfl) rfl (nn (cw_cond rfl (fun h1 => ?_) (fun h1 => ?_)))))))))
 ·have := True.intro
  obtain rfl : p0_0 = none := by simpa using h1
  obtain rfl : a0 = [] := nil_of_none hr0_0
  obtain rfl : r = [] := (cnt_some H0).1
  exact sr (oS rfl (nn (cw_ret (kw_nx_ret (kw_addNil 0 (kw_ret Tryz.results143 (rT rfl) [(0, [])] [0] ⟨0, [], rfl, rfl, trivial⟩ (by decide) ⟨none, 0, 0, [], rfl, rfl, rfl, (OwnC.nil _ _)⟩))))))
 have := True.intro
 refine cw_skip (kw_nx (sr (oE (stpU_lit0 sl24 1) rfl ?_)))
 rintro _ _ ⟨p2, C3, rfl, rfl, o3⟩
 refine oM rfl ?_
 have e4 : cnt (([] : List F) ++ a0) = some r := H0
 refine oE (stpU_append sl24 rfl (id := 1) rfl (by simp) rfl rfl rfl o3 (Rdb.ro hr0_0) e4) rfl ?_
 rintro _ _ ⟨p5, c6, C7, rfl, rfl, o7⟩
 exact oS rfl (nn (cw_ret (kw_ret Tryz.results143 (rT rfl) [(0, C7)] [1] ⟨1, [], rfl, rfl, trivial⟩ (by decide) ⟨p5, ((r).length), c6, C7, rfl, rfl, rfl, o7⟩)))

theorem c_i_Table_clone (fl : Nat) (w : World) (a0 : T) (hn0_0 : n0_0 = (a0.b).length) (hr0_0 : RO w (hkeys []) (RdL p0_0 c0_0 a0.b)) (hn0_1 : n0_1 = (a0.f).length) (hr0_1 : RO w (hkeys []) (RdL p0_1 c0_1 a0.f)) (r : T) (H0 : i_Table_clone fl a0 = some r) :
  Ct Tryz.prog 98 [.agg #[.slice p0_0 n0_0 c0_0, .slice p0_1 n0_1 c0_1]] w [] (fun rv h' => ∃ (x0 : Option Addr) (y0 z0 : Nat) (C0 : Res) (x1 : Option Addr) (y1 z1 : Nat) (C1 : Res), rv = .agg #[.slice x0 y0 z0, .slice x1 y1 z1] ∧ h' = [(0, C0), (1, C1)] ∧ y0 = (r.b).length ∧ OwnC 3 x0 z0 r.b C0 ∧ y1 = (r.f).length ∧ OwnC 58 x1 z1 r.f C1) := by
 subst hn0_0 hn0_1
 unfold i_Table_clone at H0
 refine ct_of_cw Tryz.func98 rfl Tryz.ntmps98 rfl (Sat.refl _ _) ?_
 refine sr (oE (stpU_box 0 rfl rfl) rfl ?_)
 rintro _ _ ⟨b1, rfl, rfl⟩
 refine oE (stpU_alloc 1 tz26 rfl) rfl ?_
 rintro _ _ ⟨b2, rfl, rfl⟩
 obtain ⟨x3, e3, H0⟩ := bS H0
 obtain ⟨x8, e8, H0⟩ := bS H0
 refine nn (cw_seq (rdq g_mixed [1, 2] [0, 1] { dst := dS [4, 5, 6, 7, 8, 9, 10, 11, 12, 0], pre := gA [] [[], [0], [0, 1], [0, 1, 2], [], [4], rn 0 6, rn 0 7, rn 0 8, rn 0 9], ids := gA [] [[], [], [2], [], [], [], [3], [], [], [1]], rs := rL [[(1, 0)], [(3, 1)], [(4, 2)], [(5, 3)], [(1, 0)], [(7, 5)], [(8, 6)], [(9, 7)], [(6, 4), (10, 8)], [(2, 0), (11, 9)]], rh := rL [[], [(0, 0)], [], [], [], [(0, 0)], [], [], [], [(1, 0)]], V := fun i g => gA undef [.pointer (some ⟨b1, 0, none⟩), .slice p0_0 ((a0.b).length) c0_0, .slice ((g 2).A 0) ((x3).length) ((g 2).C 0), .slice ((g 2).A 0) ((x3).length) ((x3).length), .pointer (some ⟨b1, 1, none⟩), .slice p0_1 ((a0.f).length) c0_1, .slice ((g 6).A 0) ((x8).length) ((g 6).C 0), .slice ((g 6).A 0) ((x8).length) ((x8).length), .agg #[.slice ((g 2).A 0) ((x3).length) ((x3).length), .slice ((g 6).A 0) ((x8).length) ((x8).length)]] i, U := fun i g => gA [] [[], [], [(2, ((g 2).R 0))], [], [], [], [(3, ((g 6).R 0))], [], [], [(1, [(b2, .cells #[.slice ((g 2).A 0) ((x3).length) ((x3).length), .slice ((g 6).A 0) ((x8).length) ((x8).length)] 26 (0, 0))])]] i, Φ := fun i x => match i with | 2 => OwnC 3 (x.A 0) (x.C 0) x3 (x.R 0) | 6 => OwnC 58 (x.A 0) (x.C 0) x8 (x.R 0) | _ => True } ?_ ?_))
 ·refine ⟨lc rfl rfl fun hs hh => stp_fieldAddr (j := 0) Tryz.underlying26 rfl ts23 rfl (sv hs 1 rfl) rfl, lc rfl rfl fun hs hh => stp_load1 ts23 (sv hs 3 rfl) (Cells.box (id := 0) (hh.get 0 _ rfl) 1 rfl), ?_, ?_, lc rfl rfl fun hs hh => stp_fieldAddr (j := 1) Tryz.underlying26 rfl ts24 rfl (sv hs 1 rfl) rfl, lc rfl rfl fun hs hh => stp_load1 ts24 (sv hs 7 rfl) (Cells.box (id := 0) (hh.get 0 _ rfl) 1 rfl), ?_, ?_, ld rfl rfl fun g hΦ s h hs hh => stp_build (cs := #[.slice ((g 2).A 0) ((x3).length) ((x3).length), .slice ((g 6).A 0) ((x8).length) ((x8).length)]) (sevp_cons (sv hs 6 rfl) (sevp_cons (sv hs 10 rfl) sevp_nil)) bt26_14, ?_, trivial⟩
  ·refine le rfl rfl (fun g hΦ s h hs hh => (stpU_call (fun i => 2 + i) cf141 (fun w hw => c_slices_Clone_Int fl w a0.b rfl (RO.pass hr0_0 hw) x3 e3) (yA (sv hs 4 rfl)))) ?_
   rintro g _ _ ⟨_, ⟨p4, _, c6, C7, rfl, rfl, rfl, o7⟩, rfl⟩
   exact ⟨⟨[p4], [c6], [C7]⟩, o7, .inr rfl, rfl⟩
  ·refine le rfl rfl (fun g hΦ s h hs hh => (stpU_call (fun i => i) cf129 (fun w hw => c_clip129 w ((g 2).A 0) ((x3).length) ((g 2).C 0) (OwnC.len (hΦ 2 rfl)).1) (yA (sv hs 5 rfl)))) ?_
   rintro g _ _ ⟨_, ⟨rfl, rfl⟩, rfl⟩
   exact ⟨⟨[], [], []⟩, trivial, .inr rfl, rfl⟩
  ·refine le rfl rfl (fun g hΦ s h hs hh => (stpU_call (fun i => 3 + i) cf143 (fun w hw => c_slices_Clone_Frame fl w a0.f rfl (RO.pass hr0_1 hw) x8 e8) (yA (sv hs 8 rfl)))) ?_
   rintro g _ _ ⟨_, ⟨p9, _, c11, C12, rfl, rfl, rfl, o12⟩, rfl⟩
   exact ⟨⟨[p9], [c11], [C12]⟩, o12, .inr rfl, rfl⟩
  ·refine le rfl rfl (fun g hΦ s h hs hh => (stpU_call (fun i => i) cf142 (fun w hw => c_clip142 w ((g 6).A 0) ((x8).length) ((g 6).C 0) (OwnC.len (hΦ 6 rfl)).1) (yA (sv hs 9 rfl)))) ?_
   rintro g _ _ ⟨_, ⟨rfl, rfl⟩, rfl⟩
   exact ⟨⟨[], [], []⟩, trivial, .inr rfl, rfl⟩
  refine le rfl rfl (fun g hΦ s h hs hh => (stpU_store (id := 1) (cs' := [.slice ((g 2).A 0) ((x3).length) ((x3).length), .slice ((g 6).A 0) ((x8).length) ((x8).length)]) ts26 (sv hs 2 rfl) (sv hs 11 rfl) (hh.get 1 _ rfl) rfl rfl rfl rfl)) ?_
  rintro g _ _ rfl
  exact ⟨⟨[], [], []⟩, trivial, .inl rfl, rfl⟩
 intro g hΦ
 refine kw_gen (ι := Option Addr × Nat × Res × Option Addr × Nat × Res) (((g 2).A 0), ((g 2).C 0), ((g 2).R 0), ((g 6).A 0), ((g 6).C 0), ((g 6).R 0)) (fun | (p4, c6, C7, p9, c11, C12) => OwnC 3 p4 c6 x3 C7 ∧ OwnC 58 p9 c11 x8 C12) (fun | (p4, c6, C7, p9, c11, C12) => [(2, .pointer (some ⟨b2, 0, none⟩))]) (fun | (p4, c6, C7, p9, c11, C12) => [(1, [(b2, .cells #[.slice p4 ((x3).length) ((x3).length), .slice p9 ((x8).length) ((x8).length)] 26 (0, 0))]), (2, C7), (3, C12)]) ⟨(hΦ 2 (by decide)), (hΦ 6 (by decide))⟩ ⟨rfl, trivial⟩ ⟨rfl, rfl, rfl, trivial⟩ ?_
 rintro ⟨p4, c6, C7, p9, c11, C12⟩ ⟨o7, o12⟩
 dsimp only
 refine kw_nx (cw_ret ?_)
 obtain rfl := sI H0
 exact kr Tryz.results98 (rC2 1 ts26 rfl rfl) [2, 3] ⟨_, _, _, _, _, _, _, _, rfl, rfl, rfl, (OwnC.clip o7), rfl, (OwnC.clip o12)⟩

theorem c_i_ProtectPage (fl : Nat) (w : World) (a0 : T) (a1 : K) (a2 : Int) (hn0_0 : n0_0 = (a0.b).length) (hr0_0 : RO w (hkeys []) (RdL p0_0 c0_0 a0.b)) (hn0_1 : n0_1 = (a0.f).length) (hr0_1 : RO w (hkeys []) (RdL p0_1 c0_1 a0.f)) (hg : RO w (hkeys []) (fun w' => w'.rangeAt 0 0 [.bool false, .int .i64 0, .int .i64 0, .int .i64 0, .int .i64 (-1)])) (r : T × Bool) (H0 : i_ProtectPage fl a0 a1 a2 = some r) :
  Ct Tryz.prog 73 [.agg #[.slice p0_0 n0_0 c0_0, .slice p0_1 n0_1 c0_1], .agg #[.int .i64 a1.s, .int .i64 a1.p], .int .i64 a2] w [] (fun rv h' => ∃ (x0 : Option Addr) (y0 z0 : Nat) (C0 : Res) (x1 : Option Addr) (y1 z1 : Nat) (C1 : Res), rv = .tuple #[.agg #[.slice x0 y0 z0, .slice x1 y1 z1], .bool r.2] ∧ h' = [(0, C0), (1, C1)] ∧ y0 = (r.1.b).length ∧ OwnC 3 x0 z0 r.1.b C0 ∧ y1 = (r.1.f).length ∧ OwnC 58 x1 z1 r.1.f C1) := by
 subst hn0_0 hn0_1
 unfold i_ProtectPage at H0
 refine ct_of_cw Tryz.func73 rfl Tryz.ntmps73 rfl (Sat.refl _ _) ?_
 refine sr (oE (stpU_box 0 rfl rfl) rfl ?_)
 rintro _ _ ⟨b1, rfl, rfl⟩
 refine oE (stpU_box 1 rfl rfl) rfl ?_
 rintro _ _ ⟨b2, rfl, rfl⟩
 refine oE (stpU_alloc 2 tz26 rfl) rfl ?_
 rintro _ _ ⟨b3, rfl, rfl⟩
 obtain ⟨x4, e4, H0⟩ := bS H0
 refine oS rfl (nn (cw_seq (sr (oB2 0 ts26 rfl (oE (stpU_call (fun i => 3 + i) cf54 (fun w hw => c_i_TableValid fl w a0 rfl (RO.pass hr0_0 hw) rfl (RO.pass hr0_1 hw) (RO.pass hg hw) x4 e4) (yA rfl)) rfl ?_)))))
 rintro _ _ ⟨_, ⟨rfl, rfl⟩, rfl⟩
 obtain ⟨y5, ey5, H0⟩ := bS H0
 refine oK rfl (oM rfl (ow_cutY 4 16 y5 ?_ ?_))
 ·rcases Bool.eq_false_or_eq_true (!x4) with hy5 | hy5
  ·have ey5 := cond_t ey5 hy5
   refine oO rfl hy5 rfl (oO rfl hy5 rfl (oO rfl hy5 rfl (oD (stp_pick_t rfl hy5 rfl) rfl ?_)))
   obtain rfl := sI ey5
   exact ow_nil (jy 4 0)
  have ey5 := cond_f ey5 hy5
  obtain ⟨x6, e6, ey5⟩ := bS ey5
  refine oG rfl hy5 (stp_loadN (us := [_, _]) ts47 rfl (Cells.box (id := 1) rfl 2 rfl)) rfl (ow_eff (.some rfl hy5) (stpU_call (fun i => 3 + i) cf76 (fun w hw => c_i_KeyValid fl w a1 x6 e6) (yA rfl)) rfl ?_)
  rintro _ _ ⟨_, ⟨rfl, rfl⟩, rfl⟩
  refine oG rfl hy5 (stp_not rfl) rfl (oD (stp_pick_f rfl hy5 rfl) rfl ?_)
  obtain rfl := sI ey5
  exact ow_nil (jy 4 0)
 obtain ⟨y7, ey7, H0⟩ := bS H0
 refine oM rfl (ow_cutY 5 22 y7 ?_ ?_)
 ·rcases Bool.eq_false_or_eq_true y5 with hy7 | hy7
  ·have ey7 := cond_t ey7 hy7
   refine oO rfl hy7 rfl (oO rfl hy7 rfl (oO rfl hy7 rfl (oO rfl hy7 rfl (oD (stp_pick_t rfl hy7 rfl) rfl ?_))))
   obtain rfl := sI ey7
   exact ow_nil (jy 5 0)
  have ey7 := cond_f ey7 hy7
  obtain ⟨x8, e8, ey7⟩ := bS ey7
  refine oG rfl hy7 (stp_loadN (us := [_, _]) ts26 rfl (Cells.box (id := 0) rfl 2 rfl)) rfl (oG rfl hy7 (stp_loadN (us := [_, _]) ts47 rfl (Cells.box (id := 1) rfl 2 rfl)) rfl (ow_eff (.some rfl hy7) (stpU_call (fun i => 3 + i) cf59 (fun w hw => c_i_Table_find fl w a0 a1 rfl (RO.pass hr0_0 hw) rfl (RO.pass hr0_1 hw) x8 e8) (yB rfl rfl)) rfl ?_))
  rintro _ _ ⟨_, ⟨rfl, rfl⟩, rfl⟩
  refine oG rfl hy7 (stp_lss rfl rfl) rfl (oD (stp_pick_f rfl hy7 rfl) rfl ?_)
  obtain rfl := sI ey7
  exact ow_nil (jy 5 0)
 obtain ⟨y9, ey9, H0⟩ := bS H0
 refine oM rfl (ow_cutY 4 27 y9 ?_ ?_)
 ·rcases Bool.eq_false_or_eq_true y7 with hy9 | hy9
  ·have ey9 := cond_t ey9 hy9
   refine oO rfl hy9 rfl (oO rfl hy9 rfl (oO rfl hy9 rfl (oD (stp_pick_t rfl hy9 rfl) rfl ?_)))
   obtain rfl := sI ey9
   exact ow_nil (jy 4 0)
  have ey9 := cond_f ey9 hy9
  obtain ⟨x10, e10, ey9⟩ := bS ey9
  refine oG rfl hy9 (mv rfl) rfl (ow_eff (.some rfl hy9) (stpU_call (fun i => 3 + i) cf80 (fun w hw => c_i_RightsValid fl w a2 x10 e10) (yA rfl)) rfl ?_)
  rintro _ _ ⟨_, ⟨rfl, rfl⟩, rfl⟩
  refine oG rfl hy9 (stp_not rfl) rfl (oD (stp_pick_f rfl hy9 rfl) rfl ?_)
  obtain rfl := sI ey9
  exact ow_nil (jy 4 0)
 refine ow_nil (kw_nx (cw_cond rfl (fun h11 => ?_) (fun h11 => ?_)))
 ·have H0 := cond_t H0 h11
  refine sr (oD (stp_build (cs := #[.slice none 0 0, .slice none 0 0]) sevp_nil bt26_0) rfl (oC2 2 ts26 rfl rfl (oS rfl (nn (cw_ret (kw_nx_ret (kw_addNil 3 (kw_addNil 4 ?_))))))))
  obtain rfl := sI H0
  exact kr Tryz.results73 (.cons (.cellN (us := [_, _]) ts26 rfl (Cells.box (id := 2) rfl 2 rfl)) (rT rfl)) [3, 4] ⟨_, _, _, _, _, _, _, _, rfl, rfl, rfl, (OwnC.nil _ _), rfl, (OwnC.nil _ _)⟩
 have H0 := cond_f H0 h11
 obtain ⟨x12, e12, H0⟩ := bS H0
 refine cw_skip (kw_nx (sr (oB2 0 ts26 rfl (oE (stpU_call (fun i => 5 + i) cf98 (fun w hw => c_i_Table_clone fl w a0 rfl (RO.pass hr0_0 hw) rfl (RO.pass hr0_1 hw) x12 e12) (yA rfl)) rfl ?_))))
 rintro _ _ ⟨_, ⟨p13, _, c15, C16, p17, _, c19, C20, rfl, rfl, rfl, o16, rfl, o20⟩, rfl⟩
 refine oE (stpU_alloc 7 tz26 rfl) rfl ?_
 rintro _ _ ⟨b21, rfl, rfl⟩
 obtain ⟨x22, e22, H0⟩ := bS H0
 obtain ⟨x23, e23, H0⟩ := bS H0
 refine oC2 7 ts26 rfl rfl (nn (cw_seq (rdq g_mixed [2, 3, 4, 8] [0, 1, 6, 7] { dst := dS [32, 33, 34, 35, 36, 37, 38, 39, 0], pre := gA [] [[], [0], [], [], [2, 3], [], rn 0 6, rn 0 7, rn 0 8], ids := fun i => match i with | 8 => [6] | _ => [], rs := rL [[(8, 0)], [(31, 1)], [(3, 0)], [(4, 0)], [(33, 3), (34, 4)], [(2, 0)], [(32, 2), (35, 5)], [(37, 7)], [(38, 8), (36, 6)]], rh := rL [[], [(7, 0)], [(0, 0)], [(1, 0)], [], [], [(6, 0)], [], [(6, 0)]], V := fun i g => gA undef [.pointer (some ⟨b21, 1, none⟩), .slice p17 ((x12.f).length) c19, .agg #[.slice p0_0 ((a0.b).length) c0_0, .slice p0_1 ((a0.f).length) c0_1], .agg #[.int .i64 a1.s, .int .i64 a1.p], .int .i64 x22, .int .i64 a2, .pointer (some ⟨eB p17, eO p17 + Int.toNat x22 * Enc.sz F + 0, none⟩), .pointer (some ⟨eB p17, eO p17 + Int.toNat x22 * Enc.sz F + 3, none⟩)] i, U := fun i g => match i with | 8 => [(6, ((g 8).R 0))] | _ => [], Φ := fun i x => match i with | 8 => OwnC (α := F) 58 p17 c19 (x12.f.set (Int.toNat x22) (⟨x23.u, x23.k, a2, x23.nx⟩ : F)) (x.R 0) | _ => True } ?_ ?_)))
 ·refine ⟨lc rfl rfl fun hs hh => stp_fieldAddr (j := 1) Tryz.underlying26 rfl ts24 rfl (sv hs 8 rfl) rfl, lc rfl rfl fun hs hh => stp_load1 ts24 (sv hs 31 rfl) (Cells.box (id := 7) (hh.get 7 _ rfl) 1 rfl), lc rfl rfl fun hs hh => stp_loadN (us := [_, _]) ts26 (sv hs 3 rfl) (Cells.box (id := 0) (hh.get 0 _ rfl) 2 rfl), lc rfl rfl fun hs hh => stp_loadN (us := [_, _]) ts47 (sv hs 4 rfl) (Cells.box (id := 1) (hh.get 1 _ rfl) 2 rfl), ?_, lM, lc rfl rfl fun hs hh => stp_indexAddr Tryz.underlying24 ts58 (by decide) (sv hs 32 rfl) rfl (sv hs 35 rfl) (Rdb.own (id := 6) (hh.get 6 _ rfl) o20) e23, lc rfl rfl fun hs hh => stp_fieldAddr (j := 3) Tryz.underlying58 rfl ts3 rfl (sv hs 37 rfl) rfl, ?_, trivial⟩
  ·refine le rfl rfl (fun g hΦ s h hs hh => (stpU_call (fun i => 8 + i) cf59 (fun w hw => c_i_Table_find fl w a0 a1 rfl (RO.pass hr0_0 hw) rfl (RO.pass hr0_1 hw) x22 e22) (yB (sv hs 33 rfl) (sv hs 34 rfl)))) ?_
   rintro g _ _ ⟨_, ⟨rfl, rfl⟩, rfl⟩
   exact ⟨⟨[], [], []⟩, trivial, .inr rfl, rfl⟩
  refine le rfl rfl (fun g hΦ s h hs hh => (stpU_storeEl (id := 6) (i := 3) (⟨x23.u, x23.k, a2, x23.nx⟩ : F) (by decide) ts3 (sv hs 38 rfl) (sv hs 36 rfl) (hh.get 6 _ rfl) o20 e23 rfl rfl rfl rfl)) ?_
  rintro g _ _ ⟨C24, rfl, o24⟩
  exact ⟨⟨[], [], [C24]⟩, o24, .inl rfl, rfl⟩
 intro g hΦ
 refine kw_gen (ι := Res) ((g 8).R 0) (fun | C24 => OwnC (α := F) 58 p17 c19 (x12.f.set (Int.toNat x22) (⟨x23.u, x23.k, a2, x23.nx⟩ : F)) C24) (fun | C24 => [(6, .pointer (some ⟨b3, 0, none⟩)), (8, .pointer (some ⟨b21, 0, none⟩))]) (fun | C24 => [(2, [(b3, .cells #[.slice none 0 0, .slice none 0 0] 26 (0, 0))]), (5, C16), (6, C24), (7, [(b21, .cells #[.slice p13 ((x12.b).length) c15, .slice p17 ((x12.f).length) c19] 26 (0, 0))])]) (hΦ 8 (by decide)) ⟨rfl, rfl, trivial⟩ ⟨rfl, rfl, rfl, rfl, trivial⟩ ?_
 rintro C24 o24
 have o24 : OwnC (α := F) 58 p17 c19 (x12.f.set (Int.toNat x22) (⟨x23.u, x23.k, a2, x23.nx⟩ : F)) C24 := o24
 dsimp only
 refine kw_nx (sr (oB2 7 ts26 rfl (oC2 2 ts26 rfl rfl (oS rfl (nn (cw_ret ?_))))))
 obtain rfl := sI H0
 exact kr Tryz.results73 (.cons (.cellN (us := [_, _]) ts26 rfl (Cells.box (id := 2) rfl 2 rfl)) (rT rfl)) [5, 6] ⟨_, _, _, _, _, _, _, _, rfl, rfl, rfl, o16, (by simp), o24⟩

theorem c_slices_Clone_Line (fl : Nat) (w : World) (a0 : (List Ln)) (hn0_0 : n0_0 = (a0).length) (hr0_0 : RO w (hkeys []) (RdL p0_0 c0_0 a0)) (r : (List Ln)) (H0 : slices_Clone_Line fl a0 = some r) :
  Ct Tryz.prog 100 [.slice p0_0 n0_0 c0_0] w [] (fun rv h' => ∃ (x0 : Option Addr) (y0 z0 : Nat) (C0 : Res), rv = .slice x0 y0 z0 ∧ h' = [(0, C0)] ∧ y0 = (r).length ∧ OwnC 41 x0 z0 r C0) := by
 subst hn0_0
 unfold slices_Clone_Line at H0
 refine ct_of_cw Tryz.func100 rfl Tryz.ntmps100 rfl (Sat.refl _ _) ?_
 refine sr (oS rfl (nn (cw_seq (sr (oM rfl (oD (stp_eqlNil Tryz.underlying27 rfl) rfl (nn (cw_cond rfl (fun h1 => ?_) (fun h1 => ?_)))))))))
 ·have := True.intro
  obtain rfl : p0_0 = none := by simpa using h1
  obtain rfl : a0 = [] := nil_of_none hr0_0
  obtain rfl : r = [] := (cnt_some H0).1
  exact sr (oS rfl (nn (cw_ret (kw_nx_ret (kw_addNil 0 (kw_ret Tryz.results100 (rT rfl) [(0, [])] [0] ⟨0, [], rfl, rfl, trivial⟩ (by decide) ⟨none, 0, 0, [], rfl, rfl, rfl, (OwnC.nil _ _)⟩))))))
 have := True.intro
 refine cw_skip (kw_nx (sr (oE (stpU_lit0 sl27 1) rfl ?_)))
 rintro _ _ ⟨p2, C3, rfl, rfl, o3⟩
 refine oM rfl ?_
 have e4 : cnt (([] : List Ln) ++ a0) = some r := H0
 refine oE (stpU_append sl27 rfl (id := 1) rfl (by simp) rfl rfl rfl o3 (Rdb.ro hr0_0) e4) rfl ?_
 rintro _ _ ⟨p5, c6, C7, rfl, rfl, o7⟩
 exact oS rfl (nn (cw_ret (kw_ret Tryz.results100 (rT rfl) [(0, C7)] [1] ⟨1, [], rfl, rfl, trivial⟩ (by decide) ⟨p5, ((r).length), c6, C7, rfl, rfl, rfl, o7⟩)))

theorem c_slices_Clone_Own (fl : Nat) (w : World) (a0 : (List Ow)) (hn0_0 : n0_0 = (a0).length) (hr0_0 : RO w (hkeys []) (RdL p0_0 c0_0 a0)) (r : (List Ow)) (H0 : slices_Clone_Own fl a0 = some r) :
  Ct Tryz.prog 97 [.slice p0_0 n0_0 c0_0] w [] (fun rv h' => ∃ (x0 : Option Addr) (y0 z0 : Nat) (C0 : Res), rv = .slice x0 y0 z0 ∧ h' = [(0, C0)] ∧ y0 = (r).length ∧ OwnC 118 x0 z0 r C0) := by
 subst hn0_0
 unfold slices_Clone_Own at H0
 refine ct_of_cw Tryz.func97 rfl Tryz.ntmps97 rfl (Sat.refl _ _) ?_
 refine sr (oS rfl (nn (cw_seq (sr (oM rfl (oD (stp_eqlNil Tryz.underlying30 rfl) rfl (nn (cw_cond rfl (fun h1 => ?_) (fun h1 => ?_)))))))))
 ·have := True.intro
  obtain rfl : p0_0 = none := by simpa using h1
  obtain rfl : a0 = [] := nil_of_none hr0_0
  obtain rfl : r = [] := (cnt_some H0).1
  exact sr (oS rfl (nn (cw_ret (kw_nx_ret (kw_addNil 0 (kw_ret Tryz.results97 (rT rfl) [(0, [])] [0] ⟨0, [], rfl, rfl, trivial⟩ (by decide) ⟨none, 0, 0, [], rfl, rfl, rfl, (OwnC.nil _ _)⟩))))))
 have := True.intro
 refine cw_skip (kw_nx (sr (oE (stpU_lit0 sl30 1) rfl ?_)))
 rintro _ _ ⟨p2, C3, rfl, rfl, o3⟩
 refine oM rfl ?_
 have e4 : cnt (([] : List Ow) ++ a0) = some r := H0
 refine oE (stpU_append sl30 rfl (id := 1) rfl (by simp) rfl rfl rfl o3 (Rdb.ro hr0_0) e4) rfl ?_
 rintro _ _ ⟨p5, c6, C7, rfl, rfl, o7⟩
 exact oS rfl (nn (cw_ret (kw_ret Tryz.results97 (rT rfl) [(0, C7)] [1] ⟨1, [], rfl, rfl, trivial⟩ (by decide) ⟨p5, ((r).length), c6, C7, rfl, rfl, rfl, o7⟩)))

theorem c_i_Machine_clone (fl : Nat) (w : World) (a0 : Mc) (hn0_0 : n0_0 = (a0.t.b).length) (hr0_0 : RO w (hkeys []) (RdL p0_0 c0_0 a0.t.b)) (hn0_1 : n0_1 = (a0.t.f).length) (hr0_1 : RO w (hkeys []) (RdL p0_1 c0_1 a0.t.f)) (hn0_2 : n0_2 = (a0.c.l).length) (hr0_2 : RO w (hkeys []) (RdL p0_2 c0_2 a0.c.l)) (hn0_3 : n0_3 = (a0.g.o).length) (hr0_3 : RO w (hkeys []) (RdL p0_3 c0_3 a0.g.o)) (r : Mc) (H0 : i_Machine_clone fl a0 = some r) :
  Ct Tryz.prog 49 [.agg #[.slice p0_0 n0_0 c0_0, .slice p0_1 n0_1 c0_1, .slice p0_2 n0_2 c0_2, .int .i64 a0.c.h, .int .i64 a0.g.c, .int .i64 a0.g.n, .int .i64 a0.g.r, .slice p0_3 n0_3 c0_3, .int .i64 a0.s]] w [] (fun rv h' => ∃ (x0 : Option Addr) (y0 z0 : Nat) (C0 : Res) (x1 : Option Addr) (y1 z1 : Nat) (C1 : Res) (x2 : Option Addr) (y2 z2 : Nat) (C2 : Res) (x3 : Option Addr) (y3 z3 : Nat) (C3 : Res), rv = .agg #[.slice x0 y0 z0, .slice x1 y1 z1, .slice x2 y2 z2, .int .i64 r.c.h, .int .i64 r.g.c, .int .i64 r.g.n, .int .i64 r.g.r, .slice x3 y3 z3, .int .i64 r.s] ∧ h' = [(0, C0), (1, C1), (2, C2), (3, C3)] ∧ y0 = (r.t.b).length ∧ OwnC 3 x0 z0 r.t.b C0 ∧ y1 = (r.t.f).length ∧ OwnC 58 x1 z1 r.t.f C1 ∧ y2 = (r.c.l).length ∧ OwnC 41 x2 z2 r.c.l C2 ∧ y3 = (r.g.o).length ∧ OwnC 118 x3 z3 r.g.o C3) := by
 subst hn0_0 hn0_1 hn0_2 hn0_3
 unfold i_Machine_clone at H0
 refine ct_of_cw Tryz.func49 rfl Tryz.ntmps49 rfl (Sat.refl _ _) ?_
 refine sr (oE (stpU_box 0 rfl rfl) rfl ?_)
 rintro _ _ ⟨b1, rfl, rfl⟩
 refine oE (stpU_alloc 1 tz34 rfl) rfl ?_
 rintro _ _ ⟨b2, rfl, rfl⟩
 obtain ⟨x3, e3, H0⟩ := bS H0
 refine nn (sr (oA 0 Tryz.underlying34 rfl ts26 rfl (oB2 0 ts26 rfl (oE (stpU_call (fun i => 2 + i) cf98 (fun w hw => c_i_Table_clone fl w a0.t rfl (RO.pass hr0_0 hw) rfl (RO.pass hr0_1 hw) x3 e3) (yA rfl)) rfl ?_))))
 rintro _ _ ⟨_, ⟨p4, _, c6, C7, p8, _, c10, C11, rfl, rfl, rfl, o7, rfl, o11⟩, rfl⟩
 obtain ⟨x12, e12, H0⟩ := bS H0
 refine oA 0 Tryz.underlying34 rfl ts26 rfl (oC9 0 ts26 rfl rfl (nn (sr (oA 2 Tryz.underlying34 rfl ts29 rfl (oA 0 Tryz.underlying29 rfl ts27 rfl (oL 0 ts27 rfl (oE (stpU_call (fun i => 4 + i) cf100 (fun w hw => c_slices_Clone_Line fl w a0.c.l rfl (RO.pass hr0_2 hw) x12 e12) (yA rfl)) rfl ?_)))))))
 rintro _ _ ⟨_, ⟨p13, _, c15, C16, rfl, rfl, rfl, o16⟩, rfl⟩
 refine oE (stpU_call (fun i => i) cf99 (fun w hw => c_clip99 w p13 ((x12).length) c15 (OwnC.len o16).1) (yA rfl)) rfl ?_
 rintro _ _ ⟨_, ⟨rfl, rfl⟩, rfl⟩
 obtain ⟨x17, e17, H0⟩ := bS H0
 refine oA 2 Tryz.underlying34 rfl ts29 rfl (oA 0 Tryz.underlying29 rfl ts27 rfl (oC9 0 ts27 rfl rfl (nn (sr (oA 4 Tryz.underlying34 rfl ts32 rfl (oA 3 Tryz.underlying32 rfl ts30 rfl (oL 0 ts30 rfl (oE (stpU_call (fun i => 5 + i) cf97 (fun w hw => c_slices_Clone_Own fl w a0.g.o rfl (RO.pass hr0_3 hw) x17 e17) (yA rfl)) rfl ?_))))))))
 rintro _ _ ⟨_, ⟨p18, _, c20, C21, rfl, rfl, rfl, o21⟩, rfl⟩
 refine oE (stpU_call (fun i => i) cf96 (fun w hw => c_clip96 w p18 ((x17).length) c20 (OwnC.len o21).1) (yA rfl)) rfl ?_
 rintro _ _ ⟨_, ⟨rfl, rfl⟩, rfl⟩
 refine oA 4 Tryz.underlying34 rfl ts32 rfl (oA 3 Tryz.underlying32 rfl ts30 rfl (oC9 0 ts30 rfl rfl (nn (sr (oB9 0 ts34 rfl (oC9 1 ts34 rfl rfl (nn (cw_ret ?_))))))))
 obtain rfl := sI H0
 exact kr Tryz.results49 (rC9 1 ts34 rfl rfl) [2, 3, 4, 5] ⟨_, _, _, _, _, _, _, _, _, _, _, _, _, _, _, _, rfl, rfl, rfl, o7, rfl, o11, rfl, (OwnC.clip o16), rfl, (OwnC.clip o21)⟩

theorem c_i_TagOf (fl : Nat) (w : World) (a0 : Tg) (a1 : Int) (hn0_0 : n0_0 = (a0.o).length) (hr0_0 : RO w (hkeys []) (RdL p0_0 c0_0 a0.o)) (r : Int × Bool) (H0 : i_TagOf fl a0 a1 = some r) :
  Ct Tryz.prog 130 [.agg #[.int .i64 a0.c, .int .i64 a0.n, .int .i64 a0.r, .slice p0_0 n0_0 c0_0], .int .i64 a1] w [] (fun rv h' => rv = .tuple #[.int .i64 r.1, .bool r.2] ∧ h' = []) := by
 subst hn0_0
 unfold i_TagOf at H0
 refine ct_of_cw Tryz.func130 rfl Tryz.ntmps130 rfl (Sat.refl _ _) ?_
 refine sr (oE (stpU_box 0 rfl rfl) rfl ?_)
 rintro _ _ ⟨b1, rfl, rfl⟩
 obtain ⟨x2, e2, H0⟩ := bS H0
 refine oS rfl (oS rfl (nn (cw_seq (sr (oB4 0 ts32 rfl (oE (stpU_call (fun i => 1 + i) cf56 (fun w hw => c_i_TagsValid fl w a0 rfl (RO.pass hr0_0 hw) x2 e2) (yA rfl)) rfl ?_))))))
 rintro _ _ ⟨_, ⟨rfl, rfl⟩, rfl⟩
 obtain ⟨y3, ey3, H0⟩ := bS H0
 refine oK rfl (oM rfl (ow_cutY 5 14 y3 ?_ ?_))
 ·rcases Bool.eq_false_or_eq_true (!x2) with hy3 | hy3
  ·have ey3 := cond_t ey3 hy3
   refine oO rfl hy3 rfl (oO rfl hy3 rfl (oO rfl hy3 rfl (oO rfl hy3 rfl (oD (stp_pick_t rfl hy3 rfl) rfl ?_))))
   obtain rfl := sI ey3
   exact ow_nil (jy 5 0)
  have ey3 := cond_f ey3 hy3
  obtain ⟨x4, e4, ey3⟩ := bS ey3
  refine oG rfl hy3 (stp_loadN (us := [_, _, _, _]) ts32 rfl (Cells.box (id := 0) rfl 4 rfl)) rfl (oG rfl hy3 (mv rfl) rfl (ow_eff (.some rfl hy3) (stpU_call (fun i => 1 + i) cf57 (fun w hw => c_i_Tags_own fl w a0 a1 rfl (RO.pass hr0_0 hw) x4 e4) (yB rfl rfl)) rfl ?_))
  rintro _ _ ⟨_, ⟨rfl, rfl⟩, rfl⟩
  refine oG rfl hy3 (stp_lss rfl rfl) rfl (oD (stp_pick_f rfl hy3 rfl) rfl ?_)
  obtain rfl := sI ey3
  exact ow_nil (jy 5 0)
 refine ow_nil (kw_nx (cw_cond rfl (fun h5 => ?_) (fun h5 => ?_)))
 ·have H0 := cond_t H0 h5
  refine sr (oS rfl (oS rfl (nn (cw_ret (kw_nx_ret ?_)))))
  obtain rfl := sI H0
  exact kr Tryz.results130 (.cons (.tmp rfl) (rT rfl)) [] ⟨rfl, rfl⟩
 have H0 := cond_f H0 h5
 obtain ⟨x6, e6, H0⟩ := bS H0
 obtain ⟨x7, e7, H0⟩ := bS H0
 refine cw_skip (kw_nx (cw_seq (rdq g_mixed [1, 2] [0] { dst := dS [16, 17, 18, 19, 20, 21, 22, 23, 5, 6], pre := gA [] [[], [0], [], [], [2, 3], rn 0 5, rn 0 6, rn 0 7, rn 0 8, rn 0 9], ids := fun _ => [], rs := rL [[(2, 0)], [(15, 1)], [(2, 0)], [(1, 0)], [(17, 3), (18, 4)], [(16, 2), (19, 5)], [(20, 6)], [(21, 7)], [(22, 8)], []], rh := rL [[], [(0, 0)], [(0, 0)]], V := fun i g => gA undef [.pointer (some ⟨b1, 3, none⟩), .slice p0_0 ((a0.o).length) c0_0, .agg #[.int .i64 a0.c, .int .i64 a0.n, .int .i64 a0.r, .slice p0_0 ((a0.o).length) c0_0], .int .i64 a1, .int .i64 x6, .pointer (some ⟨eB p0_0, eO p0_0 + Int.toNat x6 * Enc.sz Ow + 0, none⟩), .pointer (some ⟨eB p0_0, eO p0_0 + Int.toNat x6 * Enc.sz Ow + 1, none⟩), .int .i64 x7.tg, .int .i64 x7.tg, .bool true] i, U := fun _ _ => [], Φ := fun _ _ => True } ?_ ?_)))
 ·refine ⟨lc rfl rfl fun hs hh => stp_fieldAddr (j := 3) Tryz.underlying32 rfl ts30 rfl (sv hs 2 rfl) rfl, lc rfl rfl fun hs hh => stp_load1 ts30 (sv hs 15 rfl) (Cells.box (id := 0) (hh.get 0 _ rfl) 1 rfl), lc rfl rfl fun hs hh => stp_loadN (us := [_, _, _, _]) ts32 (sv hs 2 rfl) (Cells.box (id := 0) (hh.get 0 _ rfl) 4 rfl), lM, ?_, lc rfl rfl fun hs hh => stp_indexAddr Tryz.underlying30 ts118 (by decide) (sv hs 16 rfl) rfl (sv hs 19 rfl) (Rdb.ro hr0_0) e7, lc rfl rfl fun hs hh => stp_fieldAddr (j := 1) Tryz.underlying118 rfl ts3 rfl (sv hs 20 rfl) rfl, lc rfl rfl fun hs hh => stp_load1 ts3 (sv hs 21 rfl) (Cells.el (Rdb.ro hr0_0) (by decide) e7 1 1 rfl), lS, lc rfl rfl fun hs hh => stp_assign rfl, trivial⟩
  refine le rfl rfl (fun g hΦ s h hs hh => (stpU_call (fun i => 1 + i) cf57 (fun w hw => c_i_Tags_own fl w a0 a1 rfl (RO.pass hr0_0 hw) x6 e6) (yB (sv hs 17 rfl) (sv hs 18 rfl)))) ?_
  rintro g _ _ ⟨_, ⟨rfl, rfl⟩, rfl⟩
  exact ⟨⟨[], [], []⟩, trivial, .inr rfl, rfl⟩
 intro g hΦ
 refine KW.sub (s' := [(4, .int .i64 x7.tg), (5, .bool true)]) (h' := []) ?_ ⟨rfl, rfl, trivial⟩ trivial
 refine kw_nx (cw_ret ?_)
 obtain rfl := sI H0
 exact kr Tryz.results130 (.cons (.tmp rfl) (rT rfl)) [] ⟨rfl, rfl⟩

theorem c_i_Machine_tagFor (fl : Nat) (w : World) (a0 : Mc) (a1 : Int) (a2 : Int) (hn0_0 : n0_0 = (a0.t.b).length) (hr0_0 : RO w (hkeys []) (RdL p0_0 c0_0 a0.t.b)) (hn0_1 : n0_1 = (a0.t.f).length) (hr0_1 : RO w (hkeys []) (RdL p0_1 c0_1 a0.t.f)) (hn0_2 : n0_2 = (a0.c.l).length) (hr0_2 : RO w (hkeys []) (RdL p0_2 c0_2 a0.c.l)) (hn0_3 : n0_3 = (a0.g.o).length) (hr0_3 : RO w (hkeys []) (RdL p0_3 c0_3 a0.g.o)) (r : Int × Bool) (H0 : i_Machine_tagFor fl a0 a1 a2 = some r) :
  Ct Tryz.prog 81 [.agg #[.slice p0_0 n0_0 c0_0, .slice p0_1 n0_1 c0_1, .slice p0_2 n0_2 c0_2, .int .i64 a0.c.h, .int .i64 a0.g.c, .int .i64 a0.g.n, .int .i64 a0.g.r, .slice p0_3 n0_3 c0_3, .int .i64 a0.s], .int .i64 a1, .int .i64 a2] w [] (fun rv h' => rv = .tuple #[.int .i64 r.1, .bool r.2] ∧ h' = []) := by
 subst hn0_0 hn0_1 hn0_2 hn0_3
 unfold i_Machine_tagFor at H0
 refine ct_of_cw Tryz.func81 rfl Tryz.ntmps81 rfl (Sat.refl _ _) ?_
 refine sr (oE (stpU_box 0 rfl rfl) rfl ?_)
 rintro _ _ ⟨b1, rfl, rfl⟩
 refine oS rfl (oS rfl (nn (cw_seq (sr (oM rfl (oI rfl (nn (cw_cond rfl (fun h2 => ?_) (fun h2 => ?_)))))))))
 ·have H0 := cond_t H0 h2
  refine sr (oS rfl (oS rfl (nn (cw_ret (kw_nx_ret ?_)))))
  obtain rfl := sI H0
  exact kr Tryz.results81 (.cons (.tmp rfl) (rT rfl)) [] ⟨rfl, rfl⟩
 have H0 := cond_f H0 h2
 obtain ⟨x3, e3, H0⟩ := bS H0
 refine cw_skip (kw_nx (sr (oA 4 Tryz.underlying34 rfl ts32 rfl (oB4 0 ts32 rfl (oM rfl (oE (stpU_call (fun i => 1 + i) cf130 (fun w hw => c_i_TagOf fl w a0.g a1 rfl (RO.pass hr0_3 hw) x3 e3) (yB rfl rfl)) rfl ?_))))))
 rintro _ _ ⟨_, ⟨rfl, rfl⟩, rfl⟩
 refine oT rfl (oT rfl (oS rfl (oS rfl (nn (cw_ret ?_)))))
 obtain rfl := sI H0
 exact kr Tryz.results81 (.cons (.tmp rfl) (rT rfl)) [] ⟨rfl, rfl⟩

theorem c_i_Cache_place_1 (fl : Nat) (w : World) (a0 : Ln) (qc0 : Nat) (ac0 : Int) (qc1 : Nat) (ac1 : Int) (hbac0 : RO w (hkeys []) (fun w' => w'.rangeAt qc0 0 [.int .i64 ac0])) (hbac1 : RO w (hkeys []) (fun w' => w'.rangeAt qc1 0 [.int .i64 ac1])) (r : Bool) (H0 : i_Cache_place_1 fl a0 ac0 ac1 = some r) :
  Ct Tryz.prog 132 [.agg #[.bool a0.va, .int .i64 a0.tg, .int .i64 a0.pg, .int .i64 a0.fr, .int .i64 a0.ri, .bool a0.wi], .pointer (some ⟨qc0, 0, none⟩), .pointer (some ⟨qc1, 0, none⟩)] w [] (fun rv h' => rv = .bool r ∧ h' = []) := by
 unfold i_Cache_place_1 at H0
 refine ct_of_cw Tryz.func132 rfl Tryz.ntmps132 rfl (Sat.refl _ _) ?_
 refine sr (oE (stpU_box 0 rfl rfl) rfl ?_)
 rintro _ _ ⟨b1, rfl, rfl⟩
 obtain ⟨y2, ey2, H0⟩ := bS H0
 refine oS rfl (nn (sr (oA 0 Tryz.underlying41 rfl ts4 rfl (oL 0 ts4 rfl (oM rfl (ow_cutY 5 12 y2 ?_ ?_))))))
 ·rcases Bool.eq_false_or_eq_true a0.va with hy2 | hy2
  ·have ey2 := cond_t ey2 hy2
   refine oG rfl hy2 (fA 2 Tryz.underlying41 rfl ts3 rfl rfl rfl) rfl (oG rfl hy2 (lB 0 ts3 rfl rfl rfl) rfl (oG rfl hy2 (stp_load1 ts3 rfl (Cells.ofRO hbac0 1 rfl)) rfl (oG rfl hy2 (stp_eql rfl rfl) rfl (oD (stp_pick_t rfl hy2 rfl) rfl ?_))))
   obtain rfl := sI ey2
   exact ow_nil (jy 5 0)
  have ey2 := cond_f ey2 hy2
  refine oO rfl hy2 rfl (oO rfl hy2 rfl (oO rfl hy2 rfl (oO rfl hy2 rfl (oD (stp_pick_f rfl hy2 rfl) rfl ?_))))
  obtain rfl := sI ey2
  exact ow_nil (jy 5 0)
 obtain ⟨y3, ey3, H0⟩ := bS H0
 refine oM rfl (ow_cutY 10 23 y3 ?_ ?_)
 ·rcases Bool.eq_false_or_eq_true y2 with hy3 | hy3
  ·have ey3 := cond_t ey3 hy3
   obtain ⟨y4, ey4, ey3⟩ := bS ey3
   refine oG rfl hy3 (fA 1 Tryz.underlying41 rfl ts3 rfl rfl rfl) rfl (oG rfl hy3 (lB 0 ts3 rfl rfl rfl) rfl (oG rfl hy3 (stp_load1 ts3 rfl (Cells.ofRO hbac1 1 rfl)) rfl (oG rfl hy3 (stp_eql rfl rfl) rfl (oG rfl hy3 (mv rfl) rfl (ow_cutY 4 22 y4 ?_ ?_)))))
   ·rcases Bool.eq_false_or_eq_true (a0.tg == ac1) with hy4 | hy4
    ·have ey4 := cond_t ey4 hy4
     refine oO rfl hy4 rfl (oO rfl hy4 rfl (oO rfl hy4 rfl (oG rfl hy3 (stp_pick_t rfl hy4 rfl) rfl ?_)))
     obtain rfl := sI ey4
     exact ow_nil (jy 4 0)
    have ey4 := cond_f ey4 hy4
    refine oG rfl hy4 (fA 1 Tryz.underlying41 rfl ts3 rfl rfl rfl) rfl (oG rfl hy4 (lB 0 ts3 rfl rfl rfl) rfl (oG rfl hy4 (stp_eql rfl rfl) rfl (oG rfl hy3 (stp_pick_f rfl hy4 rfl) rfl ?_)))
    obtain rfl := sI ey4
    exact ow_nil (jy 4 0)
   refine oD (stp_pick_t rfl hy3 rfl) rfl ?_
   obtain rfl := sI ey3
   exact ow_nil (jy 7 0)
  have ey3 := cond_f ey3 hy3
  refine oO rfl hy3 rfl (oO rfl hy3 rfl (oO rfl hy3 rfl (oO rfl hy3 rfl (oO rfl hy3 rfl (oX rfl rfl rfl (oX rfl rfl rfl (oX rfl rfl rfl (oO rfl hy3 rfl (oD (stp_pick_f rfl hy3 rfl) rfl ?_)))))))))
  obtain rfl := sI ey3
  exact ow_nil (jy 10 0)
 refine oS rfl (nn (cw_ret ?_))
 obtain rfl := sI H0
 exact kr Tryz.results132 (rT rfl) [] ⟨rfl, rfl⟩

theorem c_slices_IndexFunc_Line_of_i_Cache_place_1 (fl : Nat) (w : World) (a0 : (List Ln)) (q1_0 : Nat) (a1_0 : Int) (q1_1 : Nat) (a1_1 : Int) (hn0_0 : n0_0 = (a0).length) (hr0_0 : RO w (hkeys []) (RdL p0_0 c0_0 a0)) (hba1_0 : RO w (hkeys []) (fun w' => w'.rangeAt q1_0 0 [.int .i64 a1_0])) (hba1_1 : RO w (hkeys []) (fun w' => w'.rangeAt q1_1 0 [.int .i64 a1_1])) (r : Int) (H0 : slices_IndexFunc_Line_of_i_Cache_place_1 fl a0 a1_0 a1_1 = some r) :
  Ct Tryz.prog 131 [.slice p0_0 n0_0 c0_0, .func (.func 132) #[] #[.pointer (some ⟨q1_0, 0, none⟩), .pointer (some ⟨q1_1, 0, none⟩)]] w [] (fun rv h' => rv = .int .i64 r ∧ h' = []) := by
 subst hn0_0
 unfold slices_IndexFunc_Line_of_i_Cache_place_1 at H0
 refine ct_of_cw Tryz.func131 rfl Tryz.ntmps131 rfl (Sat.refl _ _) ?_
 obtain ⟨o0_0, eo0_0, H0⟩ := bS H0
 refine sr (oS rfl (nn (cw_seq (sr (oM rfl (oD (stp_len Tryz.underlying27 rfl) rfl (oM rfl (nn (cw_join (ι := Int) (fun | v1 => o0_0 = .out v1) (fun | v1 => [(0, .slice p0_0 ((a0).length) c0_0), (1, .func (.func 132) #[] #[.pointer (some ⟨q1_0, 0, none⟩), .pointer (some ⟨q1_1, 0, none⟩)]), (7, .int .i64 ((a0).length : Int)), (8, .int .i64 v1)]) (fun | v1 => []) ?_ ?_)))))))))
 ·refine cw_block (cw_loopS (ι := Nat × Int) (js := []) (fun x => x.1) (fun | (fuel, v1) => slices_IndexFunc_Line_of_i_Cache_place_1_L0 fl a0 a1_0 a1_1 fuel v1 = some o0_0) (fun | (_, v1) => [(0, .slice p0_0 ((a0).length) c0_0), (1, .func (.func 132) #[] #[.pointer (some ⟨q1_0, 0, none⟩), .pointer (some ⟨q1_1, 0, none⟩)]), (7, .int .i64 ((a0).length : Int)), (8, .int .i64 v1)]) (fun | (_, v1) => []) (fl, 0) eo0_0 ⟨rfl, rfl, rfl, rfl, trivial⟩ trivial (by decide) ?_)
  rintro ⟨fuel, v1⟩ H1
  have H1 : slices_IndexFunc_Line_of_i_Cache_place_1_L0 fl a0 a1_0 a1_1 fuel v1 = some o0_0 := H1
  rcases fuel with _ | fuel
  ·rw [slices_IndexFunc_Line_of_i_Cache_place_1_L0.eq_1] at H1; cases H1
  rw [slices_IndexFunc_Line_of_i_Cache_place_1_L0.eq_2] at H1
  dsimp only
  refine sr (oW rfl (nn (cw_seq (cw_cond rfl (fun h2 => ?_) (fun h2 => ?_)))))
  ·have H1 := cond_t H1 h2
   obtain ⟨x3, e3, H1⟩ := bS H1
   refine cw_skip (kw_nx (cw_seq (cw_block (sr (oM rfl (oS rfl (nn (sr (oM rfl (oM rfl (oM rfl (oD (stp_indexAddr Tryz.underlying27 ts41 (by decide) rfl rfl rfl (Rdb.ro hr0_0) e3) rfl (oD (stp_loadN (us := [_, _, _, _, _, _]) ts41 rfl (Cells.el (Rdb.ro hr0_0) (by decide) e3 0 6 rfl)) rfl ?_)))))))))))))
   obtain ⟨x4, e4, H1⟩ := bS H1
   refine oE (stpU_callF (vals := [_]) (ca := [_, _]) (fun i => 0 + i) cf132 (fun w hw => c_i_Cache_place_1 fl w x3 q1_0 a1_0 q1_1 a1_1 (RO.pass hba1_0 hw) (RO.pass hba1_1 hw) x4 e4) rfl (yA rfl)) rfl ?_
   rintro _ _ ⟨_, ⟨rfl, rfl⟩, rfl⟩
   refine nn (cw_cond rfl (fun h5 => ?_) (fun h5 => ?_))
   ·have H1 := cond_t H1 h5
    refine sr (oM rfl (oS rfl (nn (cw_ret (kw_bl_ret (kw_nx_ret (kw_lq_ret (kw_bl_ret (kw_join_ret (kw_nx_ret ?_))))))))))
    obtain rfl := sI H1
    obtain rfl := sI H0
    exact kr Tryz.results131 (rT rfl) [] ⟨rfl, rfl⟩
   have H1 := cond_f H1 h5
   obtain ⟨x6, e6, H1⟩ := bS H1
   exact cw_skip (kw_bl_normal (kw_nx (cw_region (oP e6 rfl (oM rfl (ow_nil (kw_lqS (js := []) (fuel, x6) H1 (Nat.lt_succ_self _) ⟨rfl, rfl, rfl, rfl, trivial⟩ trivial (by decide))))))))
  have H1 := cond_f H1 h2
  refine cw_exit (kw_nx_exit (kw_lq_exit (kw_bl ?_)))
  obtain rfl := sI H1
  exact kw_joinS (js := []) v1 rfl ⟨rfl, rfl, rfl, rfl, trivial⟩ trivial (by decide)
 rintro v1 rfl
 dsimp only
 refine kw_nx (sr (oS rfl (nn (cw_ret ?_))))
 obtain rfl := sI H0
 exact kr Tryz.results131 (rT rfl) [] ⟨rfl, rfl⟩

theorem c_i_Cache_place (fl : Nat) (w : World) (a0 : Ca) (a1 : Int) (a2 : Int) (hn0_0 : n0_0 = (a0.l).length) (hr0_0 : RO w (hkeys []) (RdL p0_0 c0_0 a0.l)) (r : Int) (H0 : i_Cache_place fl a0 a1 a2 = some r) :
  Ct Tryz.prog 82 [.agg #[.slice p0_0 n0_0 c0_0, .int .i64 a0.h], .int .i64 a1, .int .i64 a2] w [] (fun rv h' => rv = .int .i64 r ∧ h' = []) := by
 subst hn0_0
 unfold i_Cache_place at H0
 refine ct_of_cw Tryz.func82 rfl Tryz.ntmps82 rfl (Sat.refl _ _) ?_
 refine sr (oE (stpU_box 0 rfl rfl) rfl ?_)
 rintro _ _ ⟨b1, rfl, rfl⟩
 refine oE (stpU_box 1 rfl rfl) rfl ?_
 rintro _ _ ⟨b2, rfl, rfl⟩
 refine oE (stpU_box 2 rfl rfl) rfl ?_
 rintro _ _ ⟨b3, rfl, rfl⟩
 obtain ⟨x4, e4, H0⟩ := bS H0
 refine oS rfl (nn (sr (oA 0 Tryz.underlying29 rfl ts27 rfl (oL 0 ts27 rfl (oD (stp_makeFunc (yB rfl rfl)) rfl (oE (stpU_call (fun i => 3 + i) cf131 (fun w hw => c_slices_IndexFunc_Line_of_i_Cache_place_1 fl w a0.l b3 a2 b2 a1 rfl (RO.pass hr0_0 hw) (box_pass (id := 2) rfl hw) (box_pass (id := 1) rfl hw) x4 e4) (yB rfl rfl)) rfl ?_))))))
 rintro _ _ ⟨_, ⟨rfl, rfl⟩, rfl⟩
 refine oS rfl (nn (cw_ret ?_))
 obtain rfl := sI H0
 exact kr Tryz.results82 (rT rfl) [] ⟨rfl, rfl⟩

theorem c_i_Machine_dropped (fl : Nat) (w : World) (a0 : Mc) (a1 : T) (a2 : K) (hn0_0 : n0_0 = (a0.t.b).length) (hr0_0 : RO w (hkeys [(0, C1_0), (1, C1_1)]) (RdL p0_0 c0_0 a0.t.b)) (hn0_1 : n0_1 = (a0.t.f).length) (hr0_1 : RO w (hkeys [(0, C1_0), (1, C1_1)]) (RdL p0_1 c0_1 a0.t.f)) (hn0_2 : n0_2 = (a0.c.l).length) (hr0_2 : RO w (hkeys [(0, C1_0), (1, C1_1)]) (RdL p0_2 c0_2 a0.c.l)) (hn0_3 : n0_3 = (a0.g.o).length) (hr0_3 : RO w (hkeys [(0, C1_0), (1, C1_1)]) (RdL p0_3 c0_3 a0.g.o)) (hn1_0 : n1_0 = (a1.b).length) (ho1_0 : OwnC 3 p1_0 c1_0 a1.b C1_0) (hn1_1 : n1_1 = (a1.f).length) (ho1_1 : OwnC 58 p1_1 c1_1 a1.f C1_1) (hM : Sat w (hkeys [(0, C1_0), (1, C1_1)]) w [(0, C1_0), (1, C1_1)]) (r : Mc) (H0 : i_Machine_dropped fl a0 a1 a2 = some r) :
  Ct Tryz.prog 71 [.agg #[.slice p0_0 n0_0 c0_0, .slice p0_1 n0_1 c0_1, .slice p0_2 n0_2 c0_2, .int .i64 a0.c.h, .int .i64 a0.g.c, .int .i64 a0.g.n, .int .i64 a0.g.r, .slice p0_3 n0_3 c0_3, .int .i64 a0.s], .agg #[.slice p1_0 n1_0 c1_0, .slice p1_1 n1_1 c1_1], .agg #[.int .i64 a2.s, .int .i64 a2.p]] w [(0, C1_0), (1, C1_1)] (fun rv h' => ∃ (x2 : Option Addr) (y2 z2 : Nat) (C2 : Res) (x3 : Option Addr) (y3 z3 : Nat) (C3 : Res) (x4 : Option Addr) (y4 z4 : Nat) (C4 : Res) (x5 : Option Addr) (y5 z5 : Nat) (C5 : Res), rv = .agg #[.slice x2 y2 z2, .slice x3 y3 z3, .slice x4 y4 z4, .int .i64 r.c.h, .int .i64 r.g.c, .int .i64 r.g.n, .int .i64 r.g.r, .slice x5 y5 z5, .int .i64 r.s] ∧ h' = [(0, []), (1, []), (2, C2), (3, C3), (4, C4), (5, C5)] ∧ y2 = (r.t.b).length ∧ OwnC 3 x2 z2 r.t.b C2 ∧ y3 = (r.t.f).length ∧ OwnC 58 x3 z3 r.t.f C3 ∧ y4 = (r.c.l).length ∧ OwnC 41 x4 z4 r.c.l C4 ∧ y5 = (r.g.o).length ∧ OwnC 118 x5 z5 r.g.o C5) := by
 subst hn0_0 hn0_1 hn0_2 hn0_3 hn1_0 hn1_1
 unfold i_Machine_dropped at H0
 refine ct_of_cw Tryz.func71 rfl Tryz.ntmps71 rfl hM ?_
 refine sr (oE (stpU_box 2 rfl rfl) rfl ?_)
 rintro _ _ ⟨b1, rfl, rfl⟩
 refine oE (stpU_box 3 rfl rfl) rfl ?_
 rintro _ _ ⟨b2, rfl, rfl⟩
 refine oE (stpU_box 4 rfl rfl) rfl ?_
 rintro _ _ ⟨b3, rfl, rfl⟩
 refine oE (stpU_alloc 5 tz34 rfl) rfl ?_
 rintro _ _ ⟨b4, rfl, rfl⟩
 obtain ⟨x5, e5, H0⟩ := bS H0
 refine nn (sr (oB9 2 ts34 rfl (oE (stpU_call (fun i => 6 + i) cf49 (fun w hw => c_i_Machine_clone fl w a0 rfl (RO.pass hr0_0 hw) rfl (RO.pass hr0_1 hw) rfl (RO.pass hr0_2 hw) rfl (RO.pass hr0_3 hw) x5 e5) (yA rfl)) rfl ?_)))
 rintro _ _ ⟨_, ⟨p6, _, c8, C9, p10, _, c12, C13, p14, _, c16, C17, p18, _, c20, C21, rfl, rfl, rfl, o9, rfl, o13, rfl, o17, rfl, o21⟩, rfl⟩
 refine oE (stpU_alloc 10 tz34 rfl) rfl ?_
 rintro _ _ ⟨b22, rfl, rfl⟩
 refine oC9 10 ts34 rfl rfl (nn (sr (oB2 3 ts26 rfl (oA 0 Tryz.underlying34 rfl ts26 rfl (oC9 10 ts26 rfl rfl (nn (cw_seq (sr (oB9 2 ts34 rfl (oA 0 Tryz.underlying47 rfl ts3 rfl (oL 4 ts3 rfl (oA 1 Tryz.underlying47 rfl ts3 rfl (oL 4 ts3 rfl ?_)))))))))))))
 obtain ⟨x23, e23, H0⟩ := bS H0
 refine oE (stpU_call (fun i => 11 + i) cf81 (fun w hw => c_i_Machine_tagFor fl w a0 a2.s a2.p rfl (RO.pass hr0_0 hw) rfl (RO.pass hr0_1 hw) rfl (RO.pass hr0_2 hw) rfl (RO.pass hr0_3 hw) x23 e23) (yC rfl rfl rfl)) rfl ?_
 rintro _ _ ⟨_, ⟨rfl, rfl⟩, rfl⟩
 refine oM rfl (oT rfl (oT rfl (oS rfl (oS rfl (nn (sr (oM rfl (nn (cw_cond rfl (fun h24 => ?_) (fun h24 => ?_))))))))))
 ·have H0 := cond_t H0 h24
  obtain ⟨x25, e25, H0⟩ := bS H0
  refine sr (oA 2 Tryz.underlying34 rfl ts29 rfl (oB2 2 ts29 rfl (oM rfl (oA 1 Tryz.underlying47 rfl ts3 rfl (oL 4 ts3 rfl (oE (stpU_call (fun i => 11 + i) cf82 (fun w hw => c_i_Cache_place fl w a0.c x23.1 a2.p rfl (RO.pass hr0_2 hw) x25 e25) (yC rfl rfl rfl)) rfl ?_))))))
  rintro _ _ ⟨_, ⟨rfl, rfl⟩, rfl⟩
  refine oS rfl (nn (sr (oM rfl (oI rfl (nn (cw_cond rfl (fun h26 => ?_) (fun h26 => ?_)))))))
  ·have H0 := cond_t H0 h26
   obtain ⟨x27, e27, H0⟩ := bS H0
   refine cw_region (oA 2 Tryz.underlying34 rfl ts29 rfl (oA 0 Tryz.underlying29 rfl ts27 rfl (oL 10 ts27 rfl (oM rfl (oD (stp_build (cs := #[.bool false, .int .i64 0, .int .i64 0, .int .i64 0, .int .i64 0, .bool false]) sevp_nil bt41_11) rfl (oD (stp_indexAddr Tryz.underlying27 ts41 (by decide) rfl rfl rfl (Rdb.own (id := 8) rfl o17) e27) rfl (oF (stpU_storeEl (id := 8) (i := 0) (⟨false, 0, 0, 0, 0, false⟩ : Ln) (by decide) ts41 rfl rfl rfl o17 e27 rfl rfl rfl rfl) ?_)))))))
   rintro _ _ ⟨C28, rfl, o28⟩
   refine nn (sr (oB9 10 ts34 rfl (oC9 5 ts34 rfl rfl (nn (cw_ret (kw_addNil 11 (kw_addNil 12 ?_)))))))
   obtain rfl := sI H0
   exact kr Tryz.results71 (rC9 5 ts34 rfl rfl) [11, 12, 0, 1, 8, 9] ⟨_, _, _, _, _, _, _, _, _, _, _, _, _, _, _, _, rfl, rfl, rfl, ho1_0, rfl, ho1_1, (by simp), o28, rfl, o21⟩
  have H0 := cond_f H0 h26
  refine cw_skip (kw_nx (sr (oB9 10 ts34 rfl (oC9 5 ts34 rfl rfl (nn (cw_ret (kw_addNil 13 (kw_addNil 14 ?_))))))))
  obtain rfl := sI H0
  exact kr Tryz.results71 (rC9 5 ts34 rfl rfl) [13, 14, 0, 1, 8, 9] ⟨_, _, _, _, _, _, _, _, _, _, _, _, _, _, _, _, rfl, rfl, rfl, ho1_0, rfl, ho1_1, rfl, o17, rfl, o21⟩
 have H0 := cond_f H0 h24
 refine cw_skip (kw_nx (sr (oB9 10 ts34 rfl (oC9 5 ts34 rfl rfl (nn (cw_ret (kw_addNil 15 (kw_addNil 16 ?_))))))))
 obtain rfl := sI H0
 exact kr Tryz.results71 (rC9 5 ts34 rfl rfl) [15, 16, 0, 1, 8, 9] ⟨_, _, _, _, _, _, _, _, _, _, _, _, _, _, _, _, rfl, rfl, rfl, ho1_0, rfl, ho1_1, rfl, o17, rfl, o21⟩

theorem c_i_GuardPage (fl : Nat) (w : World) (a0 : Mc) (a1 : K) (a2 : Int) (hn0_0 : n0_0 = (a0.t.b).length) (hr0_0 : RO w (hkeys []) (RdL p0_0 c0_0 a0.t.b)) (hn0_1 : n0_1 = (a0.t.f).length) (hr0_1 : RO w (hkeys []) (RdL p0_1 c0_1 a0.t.f)) (hn0_2 : n0_2 = (a0.c.l).length) (hr0_2 : RO w (hkeys []) (RdL p0_2 c0_2 a0.c.l)) (hn0_3 : n0_3 = (a0.g.o).length) (hr0_3 : RO w (hkeys []) (RdL p0_3 c0_3 a0.g.o)) (hg : RO w (hkeys []) (fun w' => w'.rangeAt 0 0 [.bool false, .int .i64 0, .int .i64 0, .int .i64 0, .int .i64 (-1)])) (r : Mc × Bool) (H0 : i_GuardPage fl a0 a1 a2 = some r) :
  Ct Tryz.prog 27 [.agg #[.slice p0_0 n0_0 c0_0, .slice p0_1 n0_1 c0_1, .slice p0_2 n0_2 c0_2, .int .i64 a0.c.h, .int .i64 a0.g.c, .int .i64 a0.g.n, .int .i64 a0.g.r, .slice p0_3 n0_3 c0_3, .int .i64 a0.s], .agg #[.int .i64 a1.s, .int .i64 a1.p], .int .i64 a2] w [] (fun rv h' => ∃ (x0 : Option Addr) (y0 z0 : Nat) (C0 : Res) (x1 : Option Addr) (y1 z1 : Nat) (C1 : Res) (x2 : Option Addr) (y2 z2 : Nat) (C2 : Res) (x3 : Option Addr) (y3 z3 : Nat) (C3 : Res), rv = .tuple #[.agg #[.slice x0 y0 z0, .slice x1 y1 z1, .slice x2 y2 z2, .int .i64 r.1.c.h, .int .i64 r.1.g.c, .int .i64 r.1.g.n, .int .i64 r.1.g.r, .slice x3 y3 z3, .int .i64 r.1.s], .bool r.2] ∧ h' = [(0, C0), (1, C1), (2, C2), (3, C3)] ∧ y0 = (r.1.t.b).length ∧ OwnC 3 x0 z0 r.1.t.b C0 ∧ y1 = (r.1.t.f).length ∧ OwnC 58 x1 z1 r.1.t.f C1 ∧ y2 = (r.1.c.l).length ∧ OwnC 41 x2 z2 r.1.c.l C2 ∧ y3 = (r.1.g.o).length ∧ OwnC 118 x3 z3 r.1.g.o C3) := by
 subst hn0_0 hn0_1 hn0_2 hn0_3
 unfold i_GuardPage at H0
 refine ct_of_cw Tryz.func27 rfl Tryz.ntmps27 rfl (Sat.refl _ _) ?_
 refine sr (oE (stpU_box 0 rfl rfl) rfl ?_)
 rintro _ _ ⟨b1, rfl, rfl⟩
 refine oE (stpU_box 1 rfl rfl) rfl ?_
 rintro _ _ ⟨b2, rfl, rfl⟩
 refine oE (stpU_alloc 2 tz34 rfl) rfl ?_
 rintro _ _ ⟨b3, rfl, rfl⟩
 obtain ⟨x4, e4, H0⟩ := bS H0
 refine oS rfl (nn (cw_seq (sr (oB9 0 ts34 rfl (oE (stpU_call (fun i => 3 + i) cf19 (fun w hw => c_i_MachineValid fl w a0 rfl (RO.pass hr0_0 hw) rfl (RO.pass hr0_1 hw) rfl (RO.pass hr0_2 hw) rfl (RO.pass hr0_3 hw) (RO.pass hg hw) x4 e4) (yA rfl)) rfl ?_)))))
 rintro _ _ ⟨_, ⟨rfl, rfl⟩, rfl⟩
 refine oK rfl (nn (cw_cond rfl (fun h5 => ?_) (fun h5 => ?_)))
 ·have H0 := cond_t H0 h5
  refine sr (oD (stp_build (cs := #[.slice none 0 0, .slice none 0 0, .slice none 0 0, .int .i64 0, .int .i64 0, .int .i64 0, .int .i64 0, .slice none 0 0, .int .i64 0]) sevp_nil bt34_6) rfl (oC9 2 ts34 rfl rfl (oS rfl (nn (cw_ret (kw_nx_ret (kw_addNil 3 (kw_addNil 4 (kw_addNil 5 (kw_addNil 6 ?_))))))))))
  obtain rfl := sI H0
  exact kr Tryz.results27 (.cons (.cellN (us := [_, _, _, _, _, _, _, _, _]) ts34 rfl (Cells.box (id := 2) rfl 9 rfl)) (rT rfl)) [3, 4, 5, 6] ⟨_, _, _, _, _, _, _, _, _, _, _, _, _, _, _, _, rfl, rfl, rfl, (OwnC.nil _ _), rfl, (OwnC.nil _ _), rfl, (OwnC.nil _ _), rfl, (OwnC.nil _ _)⟩
 have H0 := cond_f H0 h5
 obtain ⟨x6, e6, H0⟩ := bS H0
 refine cw_skip (kw_nx (sr (oA 0 Tryz.underlying34 rfl ts26 rfl (oB2 0 ts26 rfl (oB2 1 ts47 rfl (oM rfl (oE (stpU_call (fun i => 7 + i) cf73 (fun w hw => c_i_ProtectPage fl w a0.t a1 a2 rfl (RO.pass hr0_0 hw) rfl (RO.pass hr0_1 hw) (RO.pass hg hw) x6 e6) (yC rfl rfl rfl)) rfl ?_)))))))
 rintro _ _ ⟨_, ⟨p7, _, c9, C10, p11, _, c13, C14, rfl, rfl, rfl, o10, rfl, o14⟩, rfl⟩
 refine oM rfl (oT rfl (oT rfl (oE (stpU_alloc 9 tz26 rfl) rfl ?_)))
 rintro _ _ ⟨b15, rfl, rfl⟩
 refine oC2 9 ts26 rfl rfl (oS rfl (nn (cw_seq (sr (oM rfl (oK rfl (nn (cw_cond rfl (fun h16 => ?_) (fun h16 => ?_)))))))))
 ·have H0 := cond_t H0 h16
  refine sr (oD (stp_build (cs := #[.slice none 0 0, .slice none 0 0, .slice none 0 0, .int .i64 0, .int .i64 0, .int .i64 0, .int .i64 0, .slice none 0 0, .int .i64 0]) sevp_nil bt34_6) rfl (oC9 2 ts34 rfl rfl (oS rfl (nn (cw_ret (kw_nx_ret (kw_addNil 10 (kw_addNil 11 (kw_addNil 12 (kw_addNil 13 ?_))))))))))
  obtain rfl := sI H0
  exact kr Tryz.results27 (.cons (.cellN (us := [_, _, _, _, _, _, _, _, _]) ts34 rfl (Cells.box (id := 2) rfl 9 rfl)) (rT rfl)) [10, 11, 12, 13] ⟨_, _, _, _, _, _, _, _, _, _, _, _, _, _, _, _, rfl, rfl, rfl, (OwnC.nil _ _), rfl, (OwnC.nil _ _), rfl, (OwnC.nil _ _), rfl, (OwnC.nil _ _)⟩
 have H0 := cond_f H0 h16
 obtain ⟨x17, e17, H0⟩ := bS H0
 refine cw_skip (kw_nx (sr (oB9 0 ts34 rfl (oB2 9 ts26 rfl (oB2 1 ts47 rfl (oE (stpU_callM (fun i => bif Nat.beq i 0 then 7 else bif Nat.beq i 1 then 8 else 14 + i) cf71 (fun w hw hb => c_i_Machine_dropped fl w a0 x6.1 a1 rfl (RO.passM hr0_0 hw hb) rfl (RO.passM hr0_1 hw hb) rfl (RO.passM hr0_2 hw hb) rfl (RO.passM hr0_3 hw hb) rfl o10 rfl o14 (hw.pass (js := [7, 8]) ⟨7, [8], rfl, rfl, 8, [], rfl, rfl, trivial⟩ (by decide)) x17 e17) (yC rfl rfl rfl) ⟨rfl, (fun _ _ hp => by obtain ⟨_, _, _, _, _, _, _, _, _, _, _, _, _, _, _, _, _, rfl, _⟩ := hp; exact ⟨_, rfl⟩), rfl, (fun _ _ hp => by obtain ⟨_, _, _, _, _, _, _, _, _, _, _, _, _, _, _, _, _, rfl, _⟩ := hp; exact ⟨_, rfl⟩), trivial⟩) rfl ?_))))))
 rintro _ _ ⟨_, ⟨p18, _, c20, C21, p22, _, c24, C25, p26, _, c28, C29, p30, _, c32, C33, rfl, rfl, rfl, o21, rfl, o25, rfl, o29, rfl, o33⟩, rfl⟩
 refine oC9 2 ts34 rfl rfl (oS rfl (nn (cw_ret ?_)))
 obtain rfl := sI H0
 exact kr Tryz.results27 (.cons (.cellN (us := [_, _, _, _, _, _, _, _, _]) ts34 rfl (Cells.box (id := 2) rfl 9 rfl)) (rT rfl)) [16, 17, 18, 19] ⟨_, _, _, _, _, _, _, _, _, _, _, _, _, _, _, _, rfl, rfl, rfl, o21, rfl, o25, rfl, o29, rfl, o33⟩

theorem c_s_ProtectPage (fl : Nat) (w : World) (a0 : T) (a1 : K) (a2 : Int) (hn0_0 : n0_0 = (a0.b).length) (hr0_0 : RO w (hkeys []) (RdL p0_0 c0_0 a0.b)) (hn0_1 : n0_1 = (a0.f).length) (hr0_1 : RO w (hkeys []) (RdL p0_1 c0_1 a0.f)) (r : T × Bool) (H0 : s_ProtectPage fl a0 a1 a2 = some r) :
  Ct Tryz.prog 74 [.agg #[.slice p0_0 n0_0 c0_0, .slice p0_1 n0_1 c0_1], .agg #[.int .i64 a1.s, .int .i64 a1.p], .int .i64 a2] w [] (fun rv h' => ∃ (x0 : Option Addr) (y0 z0 : Nat) (C0 : Res) (x1 : Option Addr) (y1 z1 : Nat) (C1 : Res), rv = .tuple #[.agg #[.slice x0 y0 z0, .slice x1 y1 z1], .bool r.2] ∧ h' = [(0, C0), (1, C1)] ∧ y0 = (r.1.b).length ∧ OwnC 3 x0 z0 r.1.b C0 ∧ y1 = (r.1.f).length ∧ OwnC 58 x1 z1 r.1.f C1) := by
 subst hn0_0 hn0_1
 unfold s_ProtectPage at H0
 refine ct_of_cw Tryz.func74 rfl Tryz.ntmps74 rfl (Sat.refl _ _) ?_
 refine sr (oE (stpU_box 0 rfl rfl) rfl ?_)
 rintro _ _ ⟨b1, rfl, rfl⟩
 refine oE (stpU_box 1 rfl rfl) rfl ?_
 rintro _ _ ⟨b2, rfl, rfl⟩
 refine oE (stpU_alloc 2 tz26 rfl) rfl ?_
 rintro _ _ ⟨b3, rfl, rfl⟩
 obtain ⟨x4, e4, H0⟩ := bS H0
 refine oS rfl (nn (sr (oB2 0 ts26 rfl (oB2 1 ts47 rfl (oE (stpU_call (fun i => 3 + i) cf127 (fun w hw => c_s_FindPage fl w a0 a1 rfl (RO.pass hr0_0 hw) rfl (RO.pass hr0_1 hw) x4 e4) (yB rfl rfl)) rfl ?_)))))
 rintro _ _ ⟨_, ⟨rfl, rfl⟩, rfl⟩
 obtain ⟨y5, ey5, H0⟩ := bS H0
 refine oM rfl (oT rfl (oT rfl (oT rfl (oS rfl (oS rfl (oS rfl (nn (cw_seq (sr (oM rfl (oK rfl (oM rfl (ow_cutY 4 25 y5 ?_ ?_)))))))))))))
 ·rcases Bool.eq_false_or_eq_true (!x4.2.2) with hy5 | hy5
  ·have ey5 := cond_t ey5 hy5
   refine oO rfl hy5 rfl (oO rfl hy5 rfl (oO rfl hy5 rfl (oD (stp_pick_t rfl hy5 rfl) rfl ?_)))
   obtain rfl := sI ey5
   exact ow_nil (jy 4 0)
  have ey5 := cond_f ey5 hy5
  obtain ⟨x6, e6, ey5⟩ := bS ey5
  refine oG rfl hy5 (mv rfl) rfl (ow_eff (.some rfl hy5) (stpU_call (fun i => 3 + i) cf85 (fun w hw => c_s_RightsValid fl w a2 x6 e6) (yA rfl)) rfl ?_)
  rintro _ _ ⟨_, ⟨rfl, rfl⟩, rfl⟩
  refine oG rfl hy5 (stp_not rfl) rfl (oD (stp_pick_f rfl hy5 rfl) rfl ?_)
  obtain rfl := sI ey5
  exact ow_nil (jy 4 0)
 refine ow_nil (kw_nx (cw_cond rfl (fun h7 => ?_) (fun h7 => ?_)))
 ·have H0 := cond_t H0 h7
  refine sr (oD (stp_build (cs := #[.slice none 0 0, .slice none 0 0]) sevp_nil bt26_0) rfl (oC2 2 ts26 rfl rfl (oS rfl (nn (cw_ret (kw_nx_ret (kw_addNil 3 (kw_addNil 4 ?_))))))))
  obtain rfl := sI H0
  exact kr Tryz.results74 (.cons (.cellN (us := [_, _]) ts26 rfl (Cells.box (id := 2) rfl 2 rfl)) (rT rfl)) [3, 4] ⟨_, _, _, _, _, _, _, _, rfl, rfl, rfl, (OwnC.nil _ _), rfl, (OwnC.nil _ _)⟩
 have H0 := cond_f H0 h7
 obtain ⟨x8, e8, H0⟩ := bS H0
 refine cw_skip (kw_nx (sr (oB2 0 ts26 rfl (oE (stpU_call (fun i => 5 + i) cf108 (fun w hw => c_s_l3Copy fl w a0 rfl (RO.pass hr0_0 hw) rfl (RO.pass hr0_1 hw) x8 e8) (yA rfl)) rfl ?_))))
 rintro _ _ ⟨_, ⟨p9, _, c11, C12, p13, _, c15, C16, rfl, rfl, rfl, o12, rfl, o16⟩, rfl⟩
 refine oE (stpU_alloc 7 tz26 rfl) rfl ?_
 rintro _ _ ⟨b17, rfl, rfl⟩
 obtain ⟨x18, e18, H0⟩ := bS H0
 refine oC2 7 ts26 rfl rfl (nn (sr (oA 1 Tryz.underlying26 rfl ts24 rfl (oL 7 ts24 rfl (oM rfl (oM rfl (oD (stp_indexAddr Tryz.underlying24 ts58 (by decide) rfl rfl rfl (Rdb.own (id := 6) rfl o16) e18) rfl (oA 3 Tryz.underlying58 rfl ts3 rfl (oF (stpU_storeEl (id := 6) (i := 3) (⟨x18.u, x18.k, a2, x18.nx⟩ : F) (by decide) ts3 rfl rfl rfl o16 e18 rfl rfl rfl rfl) ?_)))))))))
 rintro _ _ ⟨C19, rfl, o19⟩
 refine nn (sr (oB2 7 ts26 rfl (oC2 2 ts26 rfl rfl (oS rfl (nn (cw_ret ?_))))))
 obtain rfl := sI H0
 exact kr Tryz.results74 (.cons (.cellN (us := [_, _]) ts26 rfl (Cells.box (id := 2) rfl 2 rfl)) (rT rfl)) [5, 6] ⟨_, _, _, _, _, _, _, _, rfl, rfl, rfl, o12, (by simp), o19⟩

theorem c_s_GuardPage (fl : Nat) (w : World) (a0 : Mc) (a1 : K) (a2 : Int) (hn0_0 : n0_0 = (a0.t.b).length) (hr0_0 : RO w (hkeys []) (RdL p0_0 c0_0 a0.t.b)) (hn0_1 : n0_1 = (a0.t.f).length) (hr0_1 : RO w (hkeys []) (RdL p0_1 c0_1 a0.t.f)) (hn0_2 : n0_2 = (a0.c.l).length) (hr0_2 : RO w (hkeys []) (RdL p0_2 c0_2 a0.c.l)) (hn0_3 : n0_3 = (a0.g.o).length) (hr0_3 : RO w (hkeys []) (RdL p0_3 c0_3 a0.g.o)) (r : Mc × Bool) (H0 : s_GuardPage fl a0 a1 a2 = some r) :
  Ct Tryz.prog 28 [.agg #[.slice p0_0 n0_0 c0_0, .slice p0_1 n0_1 c0_1, .slice p0_2 n0_2 c0_2, .int .i64 a0.c.h, .int .i64 a0.g.c, .int .i64 a0.g.n, .int .i64 a0.g.r, .slice p0_3 n0_3 c0_3, .int .i64 a0.s], .agg #[.int .i64 a1.s, .int .i64 a1.p], .int .i64 a2] w [] (fun rv h' => ∃ (x0 : Option Addr) (y0 z0 : Nat) (C0 : Res) (x1 : Option Addr) (y1 z1 : Nat) (C1 : Res) (x2 : Option Addr) (y2 z2 : Nat) (C2 : Res) (x3 : Option Addr) (y3 z3 : Nat) (C3 : Res), rv = .tuple #[.agg #[.slice x0 y0 z0, .slice x1 y1 z1, .slice x2 y2 z2, .int .i64 r.1.c.h, .int .i64 r.1.g.c, .int .i64 r.1.g.n, .int .i64 r.1.g.r, .slice x3 y3 z3, .int .i64 r.1.s], .bool r.2] ∧ h' = [(0, C0), (1, C1), (2, C2), (3, C3)] ∧ y0 = (r.1.t.b).length ∧ OwnC 3 x0 z0 r.1.t.b C0 ∧ y1 = (r.1.t.f).length ∧ OwnC 58 x1 z1 r.1.t.f C1 ∧ y2 = (r.1.c.l).length ∧ OwnC 41 x2 z2 r.1.c.l C2 ∧ y3 = (r.1.g.o).length ∧ OwnC 118 x3 z3 r.1.g.o C3) := by
 subst hn0_0 hn0_1 hn0_2 hn0_3
 unfold s_GuardPage at H0
 refine ct_of_cw Tryz.func28 rfl Tryz.ntmps28 rfl (Sat.refl _ _) ?_
 refine sr (oE (stpU_box 0 rfl rfl) rfl ?_)
 rintro _ _ ⟨b1, rfl, rfl⟩
 refine oE (stpU_box 1 rfl rfl) rfl ?_
 rintro _ _ ⟨b2, rfl, rfl⟩
 refine oE (stpU_alloc 2 tz34 rfl) rfl ?_
 rintro _ _ ⟨b3, rfl, rfl⟩
 obtain ⟨x4, e4, H0⟩ := bS H0
 refine oS rfl (nn (cw_seq (sr (oB9 0 ts34 rfl (oE (stpU_call (fun i => 3 + i) cf51 (fun w hw => c_s_MachineValid fl w a0 rfl (RO.pass hr0_0 hw) rfl (RO.pass hr0_1 hw) rfl (RO.pass hr0_2 hw) rfl (RO.pass hr0_3 hw) x4 e4) (yA rfl)) rfl ?_)))))
 rintro _ _ ⟨_, ⟨rfl, rfl⟩, rfl⟩
 refine oK rfl (nn (cw_cond rfl (fun h5 => ?_) (fun h5 => ?_)))
 ·have H0 := cond_t H0 h5
  refine sr (oD (stp_build (cs := #[.slice none 0 0, .slice none 0 0, .slice none 0 0, .int .i64 0, .int .i64 0, .int .i64 0, .int .i64 0, .slice none 0 0, .int .i64 0]) sevp_nil bt34_6) rfl (oC9 2 ts34 rfl rfl (oS rfl (nn (cw_ret (kw_nx_ret (kw_addNil 3 (kw_addNil 4 (kw_addNil 5 (kw_addNil 6 ?_))))))))))
  obtain rfl := sI H0
  exact kr Tryz.results28 (.cons (.cellN (us := [_, _, _, _, _, _, _, _, _]) ts34 rfl (Cells.box (id := 2) rfl 9 rfl)) (rT rfl)) [3, 4, 5, 6] ⟨_, _, _, _, _, _, _, _, _, _, _, _, _, _, _, _, rfl, rfl, rfl, (OwnC.nil _ _), rfl, (OwnC.nil _ _), rfl, (OwnC.nil _ _), rfl, (OwnC.nil _ _)⟩
 have H0 := cond_f H0 h5
 obtain ⟨x6, e6, H0⟩ := bS H0
 refine cw_skip (kw_nx (sr (oA 0 Tryz.underlying34 rfl ts26 rfl (oB2 0 ts26 rfl (oB2 1 ts47 rfl (oM rfl (oE (stpU_call (fun i => 7 + i) cf74 (fun w hw => c_s_ProtectPage fl w a0.t a1 a2 rfl (RO.pass hr0_0 hw) rfl (RO.pass hr0_1 hw) x6 e6) (yC rfl rfl rfl)) rfl ?_)))))))
 rintro _ _ ⟨_, ⟨p7, _, c9, C10, p11, _, c13, C14, rfl, rfl, rfl, o10, rfl, o14⟩, rfl⟩
 refine oM rfl (oT rfl (oT rfl (oE (stpU_alloc 9 tz26 rfl) rfl ?_)))
 rintro _ _ ⟨b15, rfl, rfl⟩
 refine oC2 9 ts26 rfl rfl (oS rfl (nn (cw_seq (sr (oM rfl (oK rfl (nn (cw_cond rfl (fun h16 => ?_) (fun h16 => ?_)))))))))
 ·have H0 := cond_t H0 h16
  refine sr (oD (stp_build (cs := #[.slice none 0 0, .slice none 0 0, .slice none 0 0, .int .i64 0, .int .i64 0, .int .i64 0, .int .i64 0, .slice none 0 0, .int .i64 0]) sevp_nil bt34_6) rfl (oC9 2 ts34 rfl rfl (oS rfl (nn (cw_ret (kw_nx_ret (kw_addNil 10 (kw_addNil 11 (kw_addNil 12 (kw_addNil 13 ?_))))))))))
  obtain rfl := sI H0
  exact kr Tryz.results28 (.cons (.cellN (us := [_, _, _, _, _, _, _, _, _]) ts34 rfl (Cells.box (id := 2) rfl 9 rfl)) (rT rfl)) [10, 11, 12, 13] ⟨_, _, _, _, _, _, _, _, _, _, _, _, _, _, _, _, rfl, rfl, rfl, (OwnC.nil _ _), rfl, (OwnC.nil _ _), rfl, (OwnC.nil _ _), rfl, (OwnC.nil _ _)⟩
 have H0 := cond_f H0 h16
 obtain ⟨x17, e17, H0⟩ := bS H0
 refine cw_skip (kw_nx (sr (oB9 0 ts34 rfl (oB2 1 ts47 rfl (oE (stpU_call (fun i => 14 + i) cf75 (fun w hw => c_s_l6Forget fl w a0 a1 rfl (RO.pass hr0_0 hw) rfl (RO.pass hr0_1 hw) rfl (RO.pass hr0_2 hw) rfl (RO.pass hr0_3 hw) x17 e17) (yB rfl rfl)) rfl ?_)))))
 rintro _ _ ⟨_, ⟨p18, _, c20, C21, p22, _, c24, C25, p26, _, c28, C29, p30, _, c32, C33, rfl, rfl, rfl, o21, rfl, o25, rfl, o29, rfl, o33⟩, rfl⟩
 refine oE (stpU_alloc 18 tz34 rfl) rfl ?_
 rintro _ _ ⟨b34, rfl, rfl⟩
 refine oC9 18 ts34 rfl rfl (nn (sr (oB2 9 ts26 rfl (oA 0 Tryz.underlying34 rfl ts26 rfl (oC9 18 ts26 rfl rfl (nn (sr (oB9 18 ts34 rfl (oC9 2 ts34 rfl rfl (oS rfl (nn (cw_ret ?_))))))))))))
 obtain rfl := sI H0
 exact kr Tryz.results28 (.cons (.cellN (us := [_, _, _, _, _, _, _, _, _]) ts34 rfl (Cells.box (id := 2) rfl 9 rfl)) (rT rfl)) [7, 8, 16, 17] ⟨_, _, _, _, _, _, _, _, _, _, _, _, _, _, _, _, rfl, rfl, rfl, o10, rfl, o14, rfl, o29, rfl, o33⟩

theorem c_slices_Equal_Int (fl : Nat) (w : World) (a0 : (List Int)) (a1 : (List Int)) (hn0_0 : n0_0 = (a0).length) (hr0_0 : RO w (hkeys []) (RdL p0_0 c0_0 a0)) (hn1_0 : n1_0 = (a1).length) (hr1_0 : RO w (hkeys []) (RdL p1_0 c1_0 a1)) (r : Bool) (H0 : slices_Equal_Int fl a0 a1 = some r) :
  Ct Tryz.prog 60 [.slice p0_0 n0_0 c0_0, .slice p1_0 n1_0 c1_0] w [] (fun rv h' => rv = .bool r ∧ h' = []) := by
 subst hn0_0 hn1_0
 unfold slices_Equal_Int at H0
 refine ct_of_cw Tryz.func60 rfl Tryz.ntmps60 rfl (Sat.refl _ _) ?_
 refine sr (oS rfl (nn (cw_seq (sr (oM rfl (oD (stp_len Tryz.underlying23 rfl) rfl (oM rfl (oD (stp_len Tryz.underlying23 rfl) rfl (oU rfl (nn (cw_cond rfl (fun h1 => ?_) (fun h1 => ?_))))))))))))
 ·have H0 := cond_t H0 h1
  refine sr (oS rfl (nn (cw_ret (kw_nx_ret ?_))))
  obtain rfl := sI H0
  exact kr Tryz.results60 (rT rfl) [] ⟨rfl, rfl⟩
 have H0 := cond_f H0 h1
 obtain ⟨o0_0, eo0_0, H0⟩ := bS H0
 refine cw_skip (kw_nx (cw_seq (sr (oM rfl (oD (stp_len Tryz.underlying23 rfl) rfl (oM rfl (nn (cw_join (ι := Int) (fun | v2 => o0_0 = .out v2) (fun | v2 => [(0, .slice p0_0 ((a0).length) c0_0), (1, .slice p1_0 ((a1).length) c1_0), (12, .int .i64 ((a0).length : Int)), (13, .int .i64 v2)]) (fun | v2 => []) ?_ ?_))))))))
 ·refine cw_block (cw_loopS (ι := Nat × Int) (js := []) (fun x => x.1) (fun | (fuel, v2) => slices_Equal_Int_L0 fl a0 a1 fuel v2 = some o0_0) (fun | (_, v2) => [(0, .slice p0_0 ((a0).length) c0_0), (1, .slice p1_0 ((a1).length) c1_0), (12, .int .i64 ((a0).length : Int)), (13, .int .i64 v2)]) (fun | (_, v2) => []) (fl, 0) eo0_0 ⟨rfl, rfl, rfl, rfl, trivial⟩ trivial (by decide) ?_)
  rintro ⟨fuel, v2⟩ H1
  have H1 : slices_Equal_Int_L0 fl a0 a1 fuel v2 = some o0_0 := H1
  rcases fuel with _ | fuel
  ·rw [slices_Equal_Int_L0.eq_1] at H1; cases H1
  rw [slices_Equal_Int_L0.eq_2] at H1
  dsimp only
  refine sr (oW rfl (nn (cw_seq (cw_cond rfl (fun h3 => ?_) (fun h3 => ?_)))))
  ·have H1 := cond_t H1 h3
   obtain ⟨x4, e4, H1⟩ := bS H1
   obtain ⟨x5, e5, H1⟩ := bS H1
   refine cw_skip (kw_nx (cw_seq (cw_block (sr (oM rfl (oS rfl (nn (cw_seq (rdq g_mixed [0, 1, 5] [] { dst := dS [17, 18, 19, 20, 21, 22, 23, 24, 25], pre := gA [] [[], [], [0, 1], [0, 1, 2], [], [], [4, 5], [4, 5, 6], rn 0 8], ids := fun _ => [], rs := rL [[(0, 0)], [(5, 0)], [(16, 1), (17, 2)], [(18, 3)], [(1, 0)], [(5, 0)], [(20, 5), (21, 6)], [(22, 7)], [(19, 4), (23, 8)]], rh := fun _ => [], V := fun i g => gA undef [.slice p0_0 ((a0).length) c0_0, .int .i64 v2, .pointer (some ⟨eB p0_0, eO p0_0 + Int.toNat v2 * Enc.sz Int + 0, none⟩), .int .i64 x4, .slice p1_0 ((a1).length) c1_0, .int .i64 v2, .pointer (some ⟨eB p1_0, eO p1_0 + Int.toNat v2 * Enc.sz Int + 0, none⟩), .int .i64 x5, .bool (x4 != x5)] i, U := fun _ _ => [], Φ := fun _ _ => True } ?_ ?_)))))))))
   ·exact ⟨lM, lM, lc rfl rfl fun hs hh => stp_indexAddr Tryz.underlying23 ts3 (by decide) (sv hs 16 rfl) rfl (sv hs 17 rfl) (Rdb.ro hr0_0) e4, lc rfl rfl fun hs hh => stp_load1 ts3 (sv hs 18 rfl) (Cells.el (Rdb.ro hr0_0) (by decide) e4 0 1 rfl), lM, lM, lc rfl rfl fun hs hh => stp_indexAddr Tryz.underlying23 ts3 (by decide) (sv hs 20 rfl) rfl (sv hs 21 rfl) (Rdb.ro hr1_0) e5, lc rfl rfl fun hs hh => stp_load1 ts3 (sv hs 22 rfl) (Cells.el (Rdb.ro hr1_0) (by decide) e5 0 1 rfl), lc rfl rfl fun hs hh => stp_neq (sv hs 19 rfl) (sv hs 23 rfl), trivial⟩
   intro g hΦ
   refine KW.sub (s' := [(0, .slice p0_0 ((a0).length) c0_0), (1, .slice p1_0 ((a1).length) c1_0), (12, .int .i64 ((a0).length : Int)), (13, .int .i64 v2), (24, .bool (x4 != x5))]) (h' := []) ?_ ⟨rfl, rfl, rfl, rfl, rfl, trivial⟩ trivial
   refine kw_nx (cw_cond rfl (fun h6 => ?_) (fun h6 => ?_))
   ·have H1 := cond_t H1 h6
    refine sr (oS rfl (nn (cw_ret (kw_bl_ret (kw_nx_ret (kw_lq_ret (kw_bl_ret (kw_join_ret (kw_nx_ret ?_)))))))))
    obtain rfl := sI H1
    obtain rfl := sI H0
    exact kr Tryz.results60 (rT rfl) [] ⟨rfl, rfl⟩
   have H1 := cond_f H1 h6
   obtain ⟨x7, e7, H1⟩ := bS H1
   exact cw_skip (kw_bl_normal (kw_nx (cw_region (oP e7 rfl (oM rfl (ow_nil (kw_lqS (js := []) (fuel, x7) H1 (Nat.lt_succ_self _) ⟨rfl, rfl, rfl, rfl, trivial⟩ trivial (by decide))))))))
  have H1 := cond_f H1 h3
  refine cw_exit (kw_nx_exit (kw_lq_exit (kw_bl ?_)))
  obtain rfl := sI H1
  exact kw_joinS (js := []) v2 rfl ⟨rfl, rfl, rfl, rfl, trivial⟩ trivial (by decide)
 rintro v2 rfl
 dsimp only
 refine kw_nx (sr (oS rfl (nn (cw_ret ?_))))
 obtain rfl := sI H0
 exact kr Tryz.results60 (rT rfl) [] ⟨rfl, rfl⟩

theorem c_slices_Equal_Frame (fl : Nat) (w : World) (a0 : (List F)) (a1 : (List F)) (hn0_0 : n0_0 = (a0).length) (hr0_0 : RO w (hkeys []) (RdL p0_0 c0_0 a0)) (hn1_0 : n1_0 = (a1).length) (hr1_0 : RO w (hkeys []) (RdL p1_0 c1_0 a1)) (r : Bool) (H0 : slices_Equal_Frame fl a0 a1 = some r) :
  Ct Tryz.prog 61 [.slice p0_0 n0_0 c0_0, .slice p1_0 n1_0 c1_0] w [] (fun rv h' => rv = .bool r ∧ h' = []) := by
 subst hn0_0 hn1_0
 unfold slices_Equal_Frame at H0
 refine ct_of_cw Tryz.func61 rfl Tryz.ntmps61 rfl (Sat.refl _ _) ?_
 refine sr (oS rfl (nn (cw_seq (sr (oM rfl (oD (stp_len Tryz.underlying24 rfl) rfl (oM rfl (oD (stp_len Tryz.underlying24 rfl) rfl (oU rfl (nn (cw_cond rfl (fun h1 => ?_) (fun h1 => ?_))))))))))))
 ·have H0 := cond_t H0 h1
  refine sr (oS rfl (nn (cw_ret (kw_nx_ret ?_))))
  obtain rfl := sI H0
  exact kr Tryz.results61 (rT rfl) [] ⟨rfl, rfl⟩
 have H0 := cond_f H0 h1
 obtain ⟨o0_0, eo0_0, H0⟩ := bS H0
 refine cw_skip (kw_nx (cw_seq (sr (oM rfl (oD (stp_len Tryz.underlying24 rfl) rfl (oM rfl (nn (cw_join (ι := Int) (fun | v2 => o0_0 = .out v2) (fun | v2 => [(0, .slice p0_0 ((a0).length) c0_0), (1, .slice p1_0 ((a1).length) c1_0), (12, .int .i64 ((a0).length : Int)), (13, .int .i64 v2)]) (fun | v2 => []) ?_ ?_))))))))
 ·refine cw_block (cw_loopS (ι := Nat × Int) (js := []) (fun x => x.1) (fun | (fuel, v2) => slices_Equal_Frame_L0 fl a0 a1 fuel v2 = some o0_0) (fun | (_, v2) => [(0, .slice p0_0 ((a0).length) c0_0), (1, .slice p1_0 ((a1).length) c1_0), (12, .int .i64 ((a0).length : Int)), (13, .int .i64 v2)]) (fun | (_, v2) => []) (fl, 0) eo0_0 ⟨rfl, rfl, rfl, rfl, trivial⟩ trivial (by decide) ?_)
  rintro ⟨fuel, v2⟩ H1
  have H1 : slices_Equal_Frame_L0 fl a0 a1 fuel v2 = some o0_0 := H1
  rcases fuel with _ | fuel
  ·rw [slices_Equal_Frame_L0.eq_1] at H1; cases H1
  rw [slices_Equal_Frame_L0.eq_2] at H1
  dsimp only
  refine sr (oW rfl (nn (cw_seq (cw_cond rfl (fun h3 => ?_) (fun h3 => ?_)))))
  ·have H1 := cond_t H1 h3
   obtain ⟨x4, e4, H1⟩ := bS H1
   obtain ⟨x5, e5, H1⟩ := bS H1
   refine cw_skip (kw_nx (cw_seq (cw_block (sr (oM rfl (oS rfl (nn (cw_seq (rdq g_mixed [0, 1, 5] [] { dst := dS [17, 18, 19, 20, 21, 22, 23, 24, 25], pre := gA [] [[], [], [0, 1], [0, 1, 2], [], [], [4, 5], [4, 5, 6], rn 0 8], ids := fun _ => [], rs := rL [[(0, 0)], [(5, 0)], [(16, 1), (17, 2)], [(18, 3)], [(1, 0)], [(5, 0)], [(20, 5), (21, 6)], [(22, 7)], [(19, 4), (23, 8)]], rh := fun _ => [], V := fun i g => gA undef [.slice p0_0 ((a0).length) c0_0, .int .i64 v2, .pointer (some ⟨eB p0_0, eO p0_0 + Int.toNat v2 * Enc.sz F + 0, none⟩), .agg #[.bool x4.u, .int .i64 x4.k.s, .int .i64 x4.k.p, .int .i64 x4.r, .int .i64 x4.nx], .slice p1_0 ((a1).length) c1_0, .int .i64 v2, .pointer (some ⟨eB p1_0, eO p1_0 + Int.toNat v2 * Enc.sz F + 0, none⟩), .agg #[.bool x5.u, .int .i64 x5.k.s, .int .i64 x5.k.p, .int .i64 x5.r, .int .i64 x5.nx], .bool (x4 != x5)] i, U := fun _ _ => [], Φ := fun _ _ => True } ?_ ?_)))))))))
   ·exact ⟨lM, lM, lc rfl rfl fun hs hh => stp_indexAddr Tryz.underlying24 ts58 (by decide) (sv hs 16 rfl) rfl (sv hs 17 rfl) (Rdb.ro hr0_0) e4, lc rfl rfl fun hs hh => stp_loadN (us := [_, _, _, _, _]) ts58 (sv hs 18 rfl) (Cells.el (Rdb.ro hr0_0) (by decide) e4 0 5 rfl), lM, lM, lc rfl rfl fun hs hh => stp_indexAddr Tryz.underlying24 ts58 (by decide) (sv hs 20 rfl) rfl (sv hs 21 rfl) (Rdb.ro hr1_0) e5, lc rfl rfl fun hs hh => stp_loadN (us := [_, _, _, _, _]) ts58 (sv hs 22 rfl) (Cells.el (Rdb.ro hr1_0) (by decide) e5 0 5 rfl), lc rfl rfl fun hs hh => stp_neqS te58 x4 x5 (sv hs 19 rfl) (sv hs 23 rfl), trivial⟩
   intro g hΦ
   refine KW.sub (s' := [(0, .slice p0_0 ((a0).length) c0_0), (1, .slice p1_0 ((a1).length) c1_0), (12, .int .i64 ((a0).length : Int)), (13, .int .i64 v2), (24, .bool (x4 != x5))]) (h' := []) ?_ ⟨rfl, rfl, rfl, rfl, rfl, trivial⟩ trivial
   refine kw_nx (cw_cond rfl (fun h6 => ?_) (fun h6 => ?_))
   ·have H1 := cond_t H1 h6
    refine sr (oS rfl (nn (cw_ret (kw_bl_ret (kw_nx_ret (kw_lq_ret (kw_bl_ret (kw_join_ret (kw_nx_ret ?_)))))))))
    obtain rfl := sI H1
    obtain rfl := sI H0
    exact kr Tryz.results61 (rT rfl) [] ⟨rfl, rfl⟩
   have H1 := cond_f H1 h6
   obtain ⟨x7, e7, H1⟩ := bS H1
   exact cw_skip (kw_bl_normal (kw_nx (cw_region (oP e7 rfl (oM rfl (ow_nil (kw_lqS (js := []) (fuel, x7) H1 (Nat.lt_succ_self _) ⟨rfl, rfl, rfl, rfl, trivial⟩ trivial (by decide))))))))
  have H1 := cond_f H1 h3
  refine cw_exit (kw_nx_exit (kw_lq_exit (kw_bl ?_)))
  obtain rfl := sI H1
  exact kw_joinS (js := []) v2 rfl ⟨rfl, rfl, rfl, rfl, trivial⟩ trivial (by decide)
 rintro v2 rfl
 dsimp only
 refine kw_nx (sr (oS rfl (nn (cw_ret ?_))))
 obtain rfl := sI H0
 exact kr Tryz.results61 (rT rfl) [] ⟨rfl, rfl⟩

theorem c_i_TableSame (fl : Nat) (w : World) (a0 : T) (a1 : T) (hn0_0 : n0_0 = (a0.b).length) (hr0_0 : RO w (hkeys []) (RdL p0_0 c0_0 a0.b)) (hn0_1 : n0_1 = (a0.f).length) (hr0_1 : RO w (hkeys []) (RdL p0_1 c0_1 a0.f)) (hn1_0 : n1_0 = (a1.b).length) (hr1_0 : RO w (hkeys []) (RdL p1_0 c1_0 a1.b)) (hn1_1 : n1_1 = (a1.f).length) (hr1_1 : RO w (hkeys []) (RdL p1_1 c1_1 a1.f)) (r : Bool) (H0 : i_TableSame fl a0 a1 = some r) :
  Ct Tryz.prog 20 [.agg #[.slice p0_0 n0_0 c0_0, .slice p0_1 n0_1 c0_1], .agg #[.slice p1_0 n1_0 c1_0, .slice p1_1 n1_1 c1_1]] w [] (fun rv h' => rv = .bool r ∧ h' = []) := by
 subst hn0_0 hn0_1 hn1_0 hn1_1
 unfold i_TableSame at H0
 refine ct_of_cw Tryz.func20 rfl Tryz.ntmps20 rfl (Sat.refl _ _) ?_
 refine sr (oE (stpU_box 0 rfl rfl) rfl ?_)
 rintro _ _ ⟨b1, rfl, rfl⟩
 refine oE (stpU_box 1 rfl rfl) rfl ?_
 rintro _ _ ⟨b2, rfl, rfl⟩
 obtain ⟨x3, e3, H0⟩ := bS H0
 refine oS rfl (nn (sr (oA 0 Tryz.underlying26 rfl ts23 rfl (oL 0 ts23 rfl (oA 0 Tryz.underlying26 rfl ts23 rfl (oL 1 ts23 rfl (oE (stpU_call (fun i => 2 + i) cf60 (fun w hw => c_slices_Equal_Int fl w a0.b a1.b rfl (RO.pass hr0_0 hw) rfl (RO.pass hr1_0 hw) x3 e3) (yB rfl rfl)) rfl ?_)))))))
 rintro _ _ ⟨_, ⟨rfl, rfl⟩, rfl⟩
 obtain ⟨y4, ey4, H0⟩ := bS H0
 refine oM rfl (ow_cutY 6 16 y4 ?_ ?_)
 ·rcases Bool.eq_false_or_eq_true x3 with hy4 | hy4
  ·have ey4 := cond_t ey4 hy4
   obtain ⟨x5, e5, ey4⟩ := bS ey4
   refine oG rfl hy4 (fA 1 Tryz.underlying26 rfl ts24 rfl rfl rfl) rfl (oG rfl hy4 (lB 0 ts24 rfl rfl rfl) rfl (oG rfl hy4 (fA 1 Tryz.underlying26 rfl ts24 rfl rfl rfl) rfl (oG rfl hy4 (lB 1 ts24 rfl rfl rfl) rfl (ow_eff (.some rfl hy4) (stpU_call (fun i => 2 + i) cf61 (fun w hw => c_slices_Equal_Frame fl w a0.f a1.f rfl (RO.pass hr0_1 hw) rfl (RO.pass hr1_1 hw) x5 e5) (yB rfl rfl)) rfl ?_))))
   rintro _ _ ⟨_, ⟨rfl, rfl⟩, rfl⟩
   refine oD (stp_pick_t rfl hy4 rfl) rfl ?_
   obtain rfl := sI ey4
   exact ow_nil (jy 6 0)
  have ey4 := cond_f ey4 hy4
  refine oO rfl hy4 rfl (oO rfl hy4 rfl (oO rfl hy4 rfl (oO rfl hy4 rfl (oO rfl hy4 rfl (oD (stp_pick_f rfl hy4 rfl) rfl ?_)))))
  obtain rfl := sI ey4
  exact ow_nil (jy 6 0)
 refine oS rfl (nn (cw_ret ?_))
 obtain rfl := sI H0
 exact kr Tryz.results20 (rT rfl) [] ⟨rfl, rfl⟩

theorem c_slices_Equal_Line (fl : Nat) (w : World) (a0 : (List Ln)) (a1 : (List Ln)) (hn0_0 : n0_0 = (a0).length) (hr0_0 : RO w (hkeys []) (RdL p0_0 c0_0 a0)) (hn1_0 : n1_0 = (a1).length) (hr1_0 : RO w (hkeys []) (RdL p1_0 c1_0 a1)) (r : Bool) (H0 : slices_Equal_Line fl a0 a1 = some r) :
  Ct Tryz.prog 62 [.slice p0_0 n0_0 c0_0, .slice p1_0 n1_0 c1_0] w [] (fun rv h' => rv = .bool r ∧ h' = []) := by
 subst hn0_0 hn1_0
 unfold slices_Equal_Line at H0
 refine ct_of_cw Tryz.func62 rfl Tryz.ntmps62 rfl (Sat.refl _ _) ?_
 refine sr (oS rfl (nn (cw_seq (sr (oM rfl (oD (stp_len Tryz.underlying27 rfl) rfl (oM rfl (oD (stp_len Tryz.underlying27 rfl) rfl (oU rfl (nn (cw_cond rfl (fun h1 => ?_) (fun h1 => ?_))))))))))))
 ·have H0 := cond_t H0 h1
  refine sr (oS rfl (nn (cw_ret (kw_nx_ret ?_))))
  obtain rfl := sI H0
  exact kr Tryz.results62 (rT rfl) [] ⟨rfl, rfl⟩
 have H0 := cond_f H0 h1
 obtain ⟨o0_0, eo0_0, H0⟩ := bS H0
 refine cw_skip (kw_nx (cw_seq (sr (oM rfl (oD (stp_len Tryz.underlying27 rfl) rfl (oM rfl (nn (cw_join (ι := Int) (fun | v2 => o0_0 = .out v2) (fun | v2 => [(0, .slice p0_0 ((a0).length) c0_0), (1, .slice p1_0 ((a1).length) c1_0), (12, .int .i64 ((a0).length : Int)), (13, .int .i64 v2)]) (fun | v2 => []) ?_ ?_))))))))
 ·refine cw_block (cw_loopS (ι := Nat × Int) (js := []) (fun x => x.1) (fun | (fuel, v2) => slices_Equal_Line_L0 fl a0 a1 fuel v2 = some o0_0) (fun | (_, v2) => [(0, .slice p0_0 ((a0).length) c0_0), (1, .slice p1_0 ((a1).length) c1_0), (12, .int .i64 ((a0).length : Int)), (13, .int .i64 v2)]) (fun | (_, v2) => []) (fl, 0) eo0_0 ⟨rfl, rfl, rfl, rfl, trivial⟩ trivial (by decide) ?_)
  rintro ⟨fuel, v2⟩ H1
  have H1 : slices_Equal_Line_L0 fl a0 a1 fuel v2 = some o0_0 := H1
  rcases fuel with _ | fuel
  ·rw [slices_Equal_Line_L0.eq_1] at H1; cases H1
  rw [slices_Equal_Line_L0.eq_2] at H1
  dsimp only
  refine sr (oW rfl (nn (cw_seq (cw_cond rfl (fun h3 => ?_) (fun h3 => ?_)))))
  ·have H1 := cond_t H1 h3
   obtain ⟨x4, e4, H1⟩ := bS H1
   obtain ⟨x5, e5, H1⟩ := bS H1
   refine cw_skip (kw_nx (cw_seq (cw_block (sr (oM rfl (oS rfl (nn (cw_seq (rdq g_mixed [0, 1, 5] [] { dst := dS [17, 18, 19, 20, 21, 22, 23, 24, 25], pre := gA [] [[], [], [0, 1], [0, 1, 2], [], [], [4, 5], [4, 5, 6], rn 0 8], ids := fun _ => [], rs := rL [[(0, 0)], [(5, 0)], [(16, 1), (17, 2)], [(18, 3)], [(1, 0)], [(5, 0)], [(20, 5), (21, 6)], [(22, 7)], [(19, 4), (23, 8)]], rh := fun _ => [], V := fun i g => gA undef [.slice p0_0 ((a0).length) c0_0, .int .i64 v2, .pointer (some ⟨eB p0_0, eO p0_0 + Int.toNat v2 * Enc.sz Ln + 0, none⟩), .agg #[.bool x4.va, .int .i64 x4.tg, .int .i64 x4.pg, .int .i64 x4.fr, .int .i64 x4.ri, .bool x4.wi], .slice p1_0 ((a1).length) c1_0, .int .i64 v2, .pointer (some ⟨eB p1_0, eO p1_0 + Int.toNat v2 * Enc.sz Ln + 0, none⟩), .agg #[.bool x5.va, .int .i64 x5.tg, .int .i64 x5.pg, .int .i64 x5.fr, .int .i64 x5.ri, .bool x5.wi], .bool (x4 != x5)] i, U := fun _ _ => [], Φ := fun _ _ => True } ?_ ?_)))))))))
   ·exact ⟨lM, lM, lc rfl rfl fun hs hh => stp_indexAddr Tryz.underlying27 ts41 (by decide) (sv hs 16 rfl) rfl (sv hs 17 rfl) (Rdb.ro hr0_0) e4, lc rfl rfl fun hs hh => stp_loadN (us := [_, _, _, _, _, _]) ts41 (sv hs 18 rfl) (Cells.el (Rdb.ro hr0_0) (by decide) e4 0 6 rfl), lM, lM, lc rfl rfl fun hs hh => stp_indexAddr Tryz.underlying27 ts41 (by decide) (sv hs 20 rfl) rfl (sv hs 21 rfl) (Rdb.ro hr1_0) e5, lc rfl rfl fun hs hh => stp_loadN (us := [_, _, _, _, _, _]) ts41 (sv hs 22 rfl) (Cells.el (Rdb.ro hr1_0) (by decide) e5 0 6 rfl), lc rfl rfl fun hs hh => stp_neqS te41 x4 x5 (sv hs 19 rfl) (sv hs 23 rfl), trivial⟩
   intro g hΦ
   refine KW.sub (s' := [(0, .slice p0_0 ((a0).length) c0_0), (1, .slice p1_0 ((a1).length) c1_0), (12, .int .i64 ((a0).length : Int)), (13, .int .i64 v2), (24, .bool (x4 != x5))]) (h' := []) ?_ ⟨rfl, rfl, rfl, rfl, rfl, trivial⟩ trivial
   refine kw_nx (cw_cond rfl (fun h6 => ?_) (fun h6 => ?_))
   ·have H1 := cond_t H1 h6
    refine sr (oS rfl (nn (cw_ret (kw_bl_ret (kw_nx_ret (kw_lq_ret (kw_bl_ret (kw_join_ret (kw_nx_ret ?_)))))))))
    obtain rfl := sI H1
    obtain rfl := sI H0
    exact kr Tryz.results62 (rT rfl) [] ⟨rfl, rfl⟩
   have H1 := cond_f H1 h6
   obtain ⟨x7, e7, H1⟩ := bS H1
   exact cw_skip (kw_bl_normal (kw_nx (cw_region (oP e7 rfl (oM rfl (ow_nil (kw_lqS (js := []) (fuel, x7) H1 (Nat.lt_succ_self _) ⟨rfl, rfl, rfl, rfl, trivial⟩ trivial (by decide))))))))
  have H1 := cond_f H1 h3
  refine cw_exit (kw_nx_exit (kw_lq_exit (kw_bl ?_)))
  obtain rfl := sI H1
  exact kw_joinS (js := []) v2 rfl ⟨rfl, rfl, rfl, rfl, trivial⟩ trivial (by decide)
 rintro v2 rfl
 dsimp only
 refine kw_nx (sr (oS rfl (nn (cw_ret ?_))))
 obtain rfl := sI H0
 exact kr Tryz.results62 (rT rfl) [] ⟨rfl, rfl⟩

theorem c_i_CacheSame (fl : Nat) (w : World) (a0 : Ca) (a1 : Ca) (hn0_0 : n0_0 = (a0.l).length) (hr0_0 : RO w (hkeys []) (RdL p0_0 c0_0 a0.l)) (hn1_0 : n1_0 = (a1.l).length) (hr1_0 : RO w (hkeys []) (RdL p1_0 c1_0 a1.l)) (r : Bool) (H0 : i_CacheSame fl a0 a1 = some r) :
  Ct Tryz.prog 21 [.agg #[.slice p0_0 n0_0 c0_0, .int .i64 a0.h], .agg #[.slice p1_0 n1_0 c1_0, .int .i64 a1.h]] w [] (fun rv h' => rv = .bool r ∧ h' = []) := by
 subst hn0_0 hn1_0
 unfold i_CacheSame at H0
 refine ct_of_cw Tryz.func21 rfl Tryz.ntmps21 rfl (Sat.refl _ _) ?_
 refine sr (oE (stpU_box 0 rfl rfl) rfl ?_)
 rintro _ _ ⟨b1, rfl, rfl⟩
 refine oE (stpU_box 1 rfl rfl) rfl ?_
 rintro _ _ ⟨b2, rfl, rfl⟩
 obtain ⟨y3, ey3, H0⟩ := bS H0
 refine oS rfl (nn (sr (oA 1 Tryz.underlying29 rfl ts3 rfl (oL 0 ts3 rfl (oA 1 Tryz.underlying29 rfl ts3 rfl (oL 1 ts3 rfl (oQ rfl (oM rfl (ow_cutY 6 16 y3 ?_ ?_)))))))))
 ·rcases Bool.eq_false_or_eq_true (a0.h == a1.h) with hy3 | hy3
  ·have ey3 := cond_t ey3 hy3
   obtain ⟨x4, e4, ey3⟩ := bS ey3
   refine oG rfl hy3 (fA 0 Tryz.underlying29 rfl ts27 rfl rfl rfl) rfl (oG rfl hy3 (lB 0 ts27 rfl rfl rfl) rfl (oG rfl hy3 (fA 0 Tryz.underlying29 rfl ts27 rfl rfl rfl) rfl (oG rfl hy3 (lB 1 ts27 rfl rfl rfl) rfl (ow_eff (.some rfl hy3) (stpU_call (fun i => 2 + i) cf62 (fun w hw => c_slices_Equal_Line fl w a0.l a1.l rfl (RO.pass hr0_0 hw) rfl (RO.pass hr1_0 hw) x4 e4) (yB rfl rfl)) rfl ?_))))
   rintro _ _ ⟨_, ⟨rfl, rfl⟩, rfl⟩
   refine oD (stp_pick_t rfl hy3 rfl) rfl ?_
   obtain rfl := sI ey3
   exact ow_nil (jy 6 0)
  have ey3 := cond_f ey3 hy3
  refine oO rfl hy3 rfl (oO rfl hy3 rfl (oO rfl hy3 rfl (oO rfl hy3 rfl (oO rfl hy3 rfl (oD (stp_pick_f rfl hy3 rfl) rfl ?_)))))
  obtain rfl := sI ey3
  exact ow_nil (jy 6 0)
 refine oS rfl (nn (cw_ret ?_))
 obtain rfl := sI H0
 exact kr Tryz.results21 (rT rfl) [] ⟨rfl, rfl⟩

theorem c_slices_Equal_Own (fl : Nat) (w : World) (a0 : (List Ow)) (a1 : (List Ow)) (hn0_0 : n0_0 = (a0).length) (hr0_0 : RO w (hkeys []) (RdL p0_0 c0_0 a0)) (hn1_0 : n1_0 = (a1).length) (hr1_0 : RO w (hkeys []) (RdL p1_0 c1_0 a1)) (r : Bool) (H0 : slices_Equal_Own fl a0 a1 = some r) :
  Ct Tryz.prog 91 [.slice p0_0 n0_0 c0_0, .slice p1_0 n1_0 c1_0] w [] (fun rv h' => rv = .bool r ∧ h' = []) := by
 subst hn0_0 hn1_0
 unfold slices_Equal_Own at H0
 refine ct_of_cw Tryz.func91 rfl Tryz.ntmps91 rfl (Sat.refl _ _) ?_
 refine sr (oS rfl (nn (cw_seq (sr (oM rfl (oD (stp_len Tryz.underlying30 rfl) rfl (oM rfl (oD (stp_len Tryz.underlying30 rfl) rfl (oU rfl (nn (cw_cond rfl (fun h1 => ?_) (fun h1 => ?_))))))))))))
 ·have H0 := cond_t H0 h1
  refine sr (oS rfl (nn (cw_ret (kw_nx_ret ?_))))
  obtain rfl := sI H0
  exact kr Tryz.results91 (rT rfl) [] ⟨rfl, rfl⟩
 have H0 := cond_f H0 h1
 obtain ⟨o0_0, eo0_0, H0⟩ := bS H0
 refine cw_skip (kw_nx (cw_seq (sr (oM rfl (oD (stp_len Tryz.underlying30 rfl) rfl (oM rfl (nn (cw_join (ι := Int) (fun | v2 => o0_0 = .out v2) (fun | v2 => [(0, .slice p0_0 ((a0).length) c0_0), (1, .slice p1_0 ((a1).length) c1_0), (12, .int .i64 ((a0).length : Int)), (13, .int .i64 v2)]) (fun | v2 => []) ?_ ?_))))))))
 ·refine cw_block (cw_loopS (ι := Nat × Int) (js := []) (fun x => x.1) (fun | (fuel, v2) => slices_Equal_Own_L0 fl a0 a1 fuel v2 = some o0_0) (fun | (_, v2) => [(0, .slice p0_0 ((a0).length) c0_0), (1, .slice p1_0 ((a1).length) c1_0), (12, .int .i64 ((a0).length : Int)), (13, .int .i64 v2)]) (fun | (_, v2) => []) (fl, 0) eo0_0 ⟨rfl, rfl, rfl, rfl, trivial⟩ trivial (by decide) ?_)
  rintro ⟨fuel, v2⟩ H1
  have H1 : slices_Equal_Own_L0 fl a0 a1 fuel v2 = some o0_0 := H1
  rcases fuel with _ | fuel
  ·rw [slices_Equal_Own_L0.eq_1] at H1; cases H1
  rw [slices_Equal_Own_L0.eq_2] at H1
  dsimp only
  refine sr (oW rfl (nn (cw_seq (cw_cond rfl (fun h3 => ?_) (fun h3 => ?_)))))
  ·have H1 := cond_t H1 h3
   obtain ⟨x4, e4, H1⟩ := bS H1
   obtain ⟨x5, e5, H1⟩ := bS H1
   refine cw_skip (kw_nx (cw_seq (cw_block (sr (oM rfl (oS rfl (nn (cw_seq (rdq g_mixed [0, 1, 5] [] { dst := dS [17, 18, 19, 20, 21, 22, 23, 24, 25], pre := gA [] [[], [], [0, 1], [0, 1, 2], [], [], [4, 5], [4, 5, 6], rn 0 8], ids := fun _ => [], rs := rL [[(0, 0)], [(5, 0)], [(16, 1), (17, 2)], [(18, 3)], [(1, 0)], [(5, 0)], [(20, 5), (21, 6)], [(22, 7)], [(19, 4), (23, 8)]], rh := fun _ => [], V := fun i g => gA undef [.slice p0_0 ((a0).length) c0_0, .int .i64 v2, .pointer (some ⟨eB p0_0, eO p0_0 + Int.toNat v2 * Enc.sz Ow + 0, none⟩), .agg #[.int .i64 x4.sp, .int .i64 x4.tg], .slice p1_0 ((a1).length) c1_0, .int .i64 v2, .pointer (some ⟨eB p1_0, eO p1_0 + Int.toNat v2 * Enc.sz Ow + 0, none⟩), .agg #[.int .i64 x5.sp, .int .i64 x5.tg], .bool (x4 != x5)] i, U := fun _ _ => [], Φ := fun _ _ => True } ?_ ?_)))))))))
   ·exact ⟨lM, lM, lc rfl rfl fun hs hh => stp_indexAddr Tryz.underlying30 ts118 (by decide) (sv hs 16 rfl) rfl (sv hs 17 rfl) (Rdb.ro hr0_0) e4, lc rfl rfl fun hs hh => stp_loadN (us := [_, _]) ts118 (sv hs 18 rfl) (Cells.el (Rdb.ro hr0_0) (by decide) e4 0 2 rfl), lM, lM, lc rfl rfl fun hs hh => stp_indexAddr Tryz.underlying30 ts118 (by decide) (sv hs 20 rfl) rfl (sv hs 21 rfl) (Rdb.ro hr1_0) e5, lc rfl rfl fun hs hh => stp_loadN (us := [_, _]) ts118 (sv hs 22 rfl) (Cells.el (Rdb.ro hr1_0) (by decide) e5 0 2 rfl), lc rfl rfl fun hs hh => stp_neqS te118 x4 x5 (sv hs 19 rfl) (sv hs 23 rfl), trivial⟩
   intro g hΦ
   refine KW.sub (s' := [(0, .slice p0_0 ((a0).length) c0_0), (1, .slice p1_0 ((a1).length) c1_0), (12, .int .i64 ((a0).length : Int)), (13, .int .i64 v2), (24, .bool (x4 != x5))]) (h' := []) ?_ ⟨rfl, rfl, rfl, rfl, rfl, trivial⟩ trivial
   refine kw_nx (cw_cond rfl (fun h6 => ?_) (fun h6 => ?_))
   ·have H1 := cond_t H1 h6
    refine sr (oS rfl (nn (cw_ret (kw_bl_ret (kw_nx_ret (kw_lq_ret (kw_bl_ret (kw_join_ret (kw_nx_ret ?_)))))))))
    obtain rfl := sI H1
    obtain rfl := sI H0
    exact kr Tryz.results91 (rT rfl) [] ⟨rfl, rfl⟩
   have H1 := cond_f H1 h6
   obtain ⟨x7, e7, H1⟩ := bS H1
   exact cw_skip (kw_bl_normal (kw_nx (cw_region (oP e7 rfl (oM rfl (ow_nil (kw_lqS (js := []) (fuel, x7) H1 (Nat.lt_succ_self _) ⟨rfl, rfl, rfl, rfl, trivial⟩ trivial (by decide))))))))
  have H1 := cond_f H1 h3
  refine cw_exit (kw_nx_exit (kw_lq_exit (kw_bl ?_)))
  obtain rfl := sI H1
  exact kw_joinS (js := []) v2 rfl ⟨rfl, rfl, rfl, rfl, trivial⟩ trivial (by decide)
 rintro v2 rfl
 dsimp only
 refine kw_nx (sr (oS rfl (nn (cw_ret ?_))))
 obtain rfl := sI H0
 exact kr Tryz.results91 (rT rfl) [] ⟨rfl, rfl⟩

theorem c_i_TagsSame (fl : Nat) (w : World) (a0 : Tg) (a1 : Tg) (hn0_0 : n0_0 = (a0.o).length) (hr0_0 : RO w (hkeys []) (RdL p0_0 c0_0 a0.o)) (hn1_0 : n1_0 = (a1.o).length) (hr1_0 : RO w (hkeys []) (RdL p1_0 c1_0 a1.o)) (r : Bool) (H0 : i_TagsSame fl a0 a1 = some r) :
  Ct Tryz.prog 33 [.agg #[.int .i64 a0.c, .int .i64 a0.n, .int .i64 a0.r, .slice p0_0 n0_0 c0_0], .agg #[.int .i64 a1.c, .int .i64 a1.n, .int .i64 a1.r, .slice p1_0 n1_0 c1_0]] w [] (fun rv h' => rv = .bool r ∧ h' = []) := by
 subst hn0_0 hn1_0
 unfold i_TagsSame at H0
 refine ct_of_cw Tryz.func33 rfl Tryz.ntmps33 rfl (Sat.refl _ _) ?_
 refine sr (oE (stpU_box 0 rfl rfl) rfl ?_)
 rintro _ _ ⟨b1, rfl, rfl⟩
 refine oE (stpU_box 1 rfl rfl) rfl ?_
 rintro _ _ ⟨b2, rfl, rfl⟩
 obtain ⟨y3, ey3, H0⟩ := bS H0
 refine oS rfl (nn (sr (oA 0 Tryz.underlying32 rfl ts3 rfl (oL 0 ts3 rfl (oA 0 Tryz.underlying32 rfl ts3 rfl (oL 1 ts3 rfl (oQ rfl (oM rfl (ow_cutY 6 16 y3 ?_ ?_)))))))))
 ·rcases Bool.eq_false_or_eq_true (a0.c == a1.c) with hy3 | hy3
  ·have ey3 := cond_t ey3 hy3
   refine oG rfl hy3 (fA 1 Tryz.underlying32 rfl ts3 rfl rfl rfl) rfl (oG rfl hy3 (lB 0 ts3 rfl rfl rfl) rfl (oG rfl hy3 (fA 1 Tryz.underlying32 rfl ts3 rfl rfl rfl) rfl (oG rfl hy3 (lB 1 ts3 rfl rfl rfl) rfl (oG rfl hy3 (stp_eql rfl rfl) rfl (oD (stp_pick_t rfl hy3 rfl) rfl ?_)))))
   obtain rfl := sI ey3
   exact ow_nil (jy 6 0)
  have ey3 := cond_f ey3 hy3
  refine oO rfl hy3 rfl (oO rfl hy3 rfl (oO rfl hy3 rfl (oO rfl hy3 rfl (oO rfl hy3 rfl (oD (stp_pick_f rfl hy3 rfl) rfl ?_)))))
  obtain rfl := sI ey3
  exact ow_nil (jy 6 0)
 obtain ⟨y4, ey4, H0⟩ := bS H0
 refine oM rfl (ow_cutY 6 23 y4 ?_ ?_)
 ·rcases Bool.eq_false_or_eq_true y3 with hy4 | hy4
  ·have ey4 := cond_t ey4 hy4
   refine oG rfl hy4 (fA 2 Tryz.underlying32 rfl ts3 rfl rfl rfl) rfl (oG rfl hy4 (lB 0 ts3 rfl rfl rfl) rfl (oG rfl hy4 (fA 2 Tryz.underlying32 rfl ts3 rfl rfl rfl) rfl (oG rfl hy4 (lB 1 ts3 rfl rfl rfl) rfl (oG rfl hy4 (stp_eql rfl rfl) rfl (oD (stp_pick_t rfl hy4 rfl) rfl ?_)))))
   obtain rfl := sI ey4
   exact ow_nil (jy 6 0)
  have ey4 := cond_f ey4 hy4
  refine oO rfl hy4 rfl (oO rfl hy4 rfl (oO rfl hy4 rfl (oO rfl hy4 rfl (oO rfl hy4 rfl (oD (stp_pick_f rfl hy4 rfl) rfl ?_)))))
  obtain rfl := sI ey4
  exact ow_nil (jy 6 0)
 obtain ⟨y5, ey5, H0⟩ := bS H0
 refine oM rfl (ow_cutY 6 30 y5 ?_ ?_)
 ·rcases Bool.eq_false_or_eq_true y4 with hy5 | hy5
  ·have ey5 := cond_t ey5 hy5
   obtain ⟨x6, e6, ey5⟩ := bS ey5
   refine oG rfl hy5 (fA 3 Tryz.underlying32 rfl ts30 rfl rfl rfl) rfl (oG rfl hy5 (lB 0 ts30 rfl rfl rfl) rfl (oG rfl hy5 (fA 3 Tryz.underlying32 rfl ts30 rfl rfl rfl) rfl (oG rfl hy5 (lB 1 ts30 rfl rfl rfl) rfl (ow_eff (.some rfl hy5) (stpU_call (fun i => 2 + i) cf91 (fun w hw => c_slices_Equal_Own fl w a0.o a1.o rfl (RO.pass hr0_0 hw) rfl (RO.pass hr1_0 hw) x6 e6) (yB rfl rfl)) rfl ?_))))
   rintro _ _ ⟨_, ⟨rfl, rfl⟩, rfl⟩
   refine oD (stp_pick_t rfl hy5 rfl) rfl ?_
   obtain rfl := sI ey5
   exact ow_nil (jy 6 0)
  have ey5 := cond_f ey5 hy5
  refine oO rfl hy5 rfl (oO rfl hy5 rfl (oO rfl hy5 rfl (oO rfl hy5 rfl (oO rfl hy5 rfl (oD (stp_pick_f rfl hy5 rfl) rfl ?_)))))
  obtain rfl := sI ey5
  exact ow_nil (jy 6 0)
 refine oS rfl (nn (cw_ret ?_))
 obtain rfl := sI H0
 exact kr Tryz.results33 (rT rfl) [] ⟨rfl, rfl⟩

theorem c_i_MachineSame (fl : Nat) (w : World) (a0 : Mc) (a1 : Mc) (hn0_0 : n0_0 = (a0.t.b).length) (hr0_0 : RO w (hkeys []) (RdL p0_0 c0_0 a0.t.b)) (hn0_1 : n0_1 = (a0.t.f).length) (hr0_1 : RO w (hkeys []) (RdL p0_1 c0_1 a0.t.f)) (hn0_2 : n0_2 = (a0.c.l).length) (hr0_2 : RO w (hkeys []) (RdL p0_2 c0_2 a0.c.l)) (hn0_3 : n0_3 = (a0.g.o).length) (hr0_3 : RO w (hkeys []) (RdL p0_3 c0_3 a0.g.o)) (hn1_0 : n1_0 = (a1.t.b).length) (hr1_0 : RO w (hkeys []) (RdL p1_0 c1_0 a1.t.b)) (hn1_1 : n1_1 = (a1.t.f).length) (hr1_1 : RO w (hkeys []) (RdL p1_1 c1_1 a1.t.f)) (hn1_2 : n1_2 = (a1.c.l).length) (hr1_2 : RO w (hkeys []) (RdL p1_2 c1_2 a1.c.l)) (hn1_3 : n1_3 = (a1.g.o).length) (hr1_3 : RO w (hkeys []) (RdL p1_3 c1_3 a1.g.o)) (r : Bool) (H0 : i_MachineSame fl a0 a1 = some r) :
  Ct Tryz.prog 18 [.agg #[.slice p0_0 n0_0 c0_0, .slice p0_1 n0_1 c0_1, .slice p0_2 n0_2 c0_2, .int .i64 a0.c.h, .int .i64 a0.g.c, .int .i64 a0.g.n, .int .i64 a0.g.r, .slice p0_3 n0_3 c0_3, .int .i64 a0.s], .agg #[.slice p1_0 n1_0 c1_0, .slice p1_1 n1_1 c1_1, .slice p1_2 n1_2 c1_2, .int .i64 a1.c.h, .int .i64 a1.g.c, .int .i64 a1.g.n, .int .i64 a1.g.r, .slice p1_3 n1_3 c1_3, .int .i64 a1.s]] w [] (fun rv h' => rv = .bool r ∧ h' = []) := by
 subst hn0_0 hn0_1 hn0_2 hn0_3 hn1_0 hn1_1 hn1_2 hn1_3
 unfold i_MachineSame at H0
 refine ct_of_cw Tryz.func18 rfl Tryz.ntmps18 rfl (Sat.refl _ _) ?_
 refine sr (oE (stpU_box 0 rfl rfl) rfl ?_)
 rintro _ _ ⟨b1, rfl, rfl⟩
 refine oE (stpU_box 1 rfl rfl) rfl ?_
 rintro _ _ ⟨b2, rfl, rfl⟩
 obtain ⟨x3, e3, H0⟩ := bS H0
 refine oS rfl (nn (sr (oA 0 Tryz.underlying34 rfl ts26 rfl (oB2 0 ts26 rfl (oA 0 Tryz.underlying34 rfl ts26 rfl (oB2 1 ts26 rfl (oE (stpU_call (fun i => 2 + i) cf20 (fun w hw => c_i_TableSame fl w a0.t a1.t rfl (RO.pass hr0_0 hw) rfl (RO.pass hr0_1 hw) rfl (RO.pass hr1_0 hw) rfl (RO.pass hr1_1 hw) x3 e3) (yB rfl rfl)) rfl ?_)))))))
 rintro _ _ ⟨_, ⟨rfl, rfl⟩, rfl⟩
 obtain ⟨y4, ey4, H0⟩ := bS H0
 refine oM rfl (ow_cutY 6 16 y4 ?_ ?_)
 ·rcases Bool.eq_false_or_eq_true x3 with hy4 | hy4
  ·have ey4 := cond_t ey4 hy4
   obtain ⟨x5, e5, ey4⟩ := bS ey4
   refine oG rfl hy4 (fA 2 Tryz.underlying34 rfl ts29 rfl rfl rfl) rfl (oG rfl hy4 (stp_loadN (us := [_, _]) ts29 rfl (Cells.box (id := 0) rfl 2 rfl)) rfl (oG rfl hy4 (fA 2 Tryz.underlying34 rfl ts29 rfl rfl rfl) rfl (oG rfl hy4 (stp_loadN (us := [_, _]) ts29 rfl (Cells.box (id := 1) rfl 2 rfl)) rfl (ow_eff (.some rfl hy4) (stpU_call (fun i => 2 + i) cf21 (fun w hw => c_i_CacheSame fl w a0.c a1.c rfl (RO.pass hr0_2 hw) rfl (RO.pass hr1_2 hw) x5 e5) (yB rfl rfl)) rfl ?_))))
   rintro _ _ ⟨_, ⟨rfl, rfl⟩, rfl⟩
   refine oD (stp_pick_t rfl hy4 rfl) rfl ?_
   obtain rfl := sI ey4
   exact ow_nil (jy 6 0)
  have ey4 := cond_f ey4 hy4
  refine oO rfl hy4 rfl (oO rfl hy4 rfl (oO rfl hy4 rfl (oO rfl hy4 rfl (oO rfl hy4 rfl (oD (stp_pick_f rfl hy4 rfl) rfl ?_)))))
  obtain rfl := sI ey4
  exact ow_nil (jy 6 0)
 obtain ⟨y6, ey6, H0⟩ := bS H0
 refine oM rfl (ow_cutY 6 23 y6 ?_ ?_)
 ·rcases Bool.eq_false_or_eq_true y4 with hy6 | hy6
  ·have ey6 := cond_t ey6 hy6
   obtain ⟨x7, e7, ey6⟩ := bS ey6
   refine oG rfl hy6 (fA 4 Tryz.underlying34 rfl ts32 rfl rfl rfl) rfl (oG rfl hy6 (stp_loadN (us := [_, _, _, _]) ts32 rfl (Cells.box (id := 0) rfl 4 rfl)) rfl (oG rfl hy6 (fA 4 Tryz.underlying34 rfl ts32 rfl rfl rfl) rfl (oG rfl hy6 (stp_loadN (us := [_, _, _, _]) ts32 rfl (Cells.box (id := 1) rfl 4 rfl)) rfl (ow_eff (.some rfl hy6) (stpU_call (fun i => 2 + i) cf33 (fun w hw => c_i_TagsSame fl w a0.g a1.g rfl (RO.pass hr0_3 hw) rfl (RO.pass hr1_3 hw) x7 e7) (yB rfl rfl)) rfl ?_))))
   rintro _ _ ⟨_, ⟨rfl, rfl⟩, rfl⟩
   refine oD (stp_pick_t rfl hy6 rfl) rfl ?_
   obtain rfl := sI ey6
   exact ow_nil (jy 6 0)
  have ey6 := cond_f ey6 hy6
  refine oO rfl hy6 rfl (oO rfl hy6 rfl (oO rfl hy6 rfl (oO rfl hy6 rfl (oO rfl hy6 rfl (oD (stp_pick_f rfl hy6 rfl) rfl ?_)))))
  obtain rfl := sI ey6
  exact ow_nil (jy 6 0)
 obtain ⟨y8, ey8, H0⟩ := bS H0
 refine oM rfl (ow_cutY 6 30 y8 ?_ ?_)
 ·rcases Bool.eq_false_or_eq_true y6 with hy8 | hy8
  ·have ey8 := cond_t ey8 hy8
   refine oG rfl hy8 (fA 8 Tryz.underlying34 rfl ts3 rfl rfl rfl) rfl (oG rfl hy8 (lB 0 ts3 rfl rfl rfl) rfl (oG rfl hy8 (fA 8 Tryz.underlying34 rfl ts3 rfl rfl rfl) rfl (oG rfl hy8 (lB 1 ts3 rfl rfl rfl) rfl (oG rfl hy8 (stp_eql rfl rfl) rfl (oD (stp_pick_t rfl hy8 rfl) rfl ?_)))))
   obtain rfl := sI ey8
   exact ow_nil (jy 6 0)
  have ey8 := cond_f ey8 hy8
  refine oO rfl hy8 rfl (oO rfl hy8 rfl (oO rfl hy8 rfl (oO rfl hy8 rfl (oO rfl hy8 rfl (oD (stp_pick_f rfl hy8 rfl) rfl ?_)))))
  obtain rfl := sI ey8
  exact ow_nil (jy 6 0)
 refine oS rfl (nn (cw_ret ?_))
 obtain rfl := sI H0
 exact kr Tryz.results18 (rT rfl) [] ⟨rfl, rfl⟩

theorem c_i_hash (fl : Nat) (w : World) (a0 : K) (a1 : Int) (r : Int) (H0 : i_hash fl a0 a1 = some r) :
  Ct Tryz.prog 78 [.agg #[.int .i64 a0.s, .int .i64 a0.p], .int .i64 a1] w [] (fun rv h' => rv = .int .i64 r ∧ h' = []) := by
 unfold i_hash at H0
 refine ct_of_cw Tryz.func78 rfl Tryz.ntmps78 rfl (Sat.refl _ _) ?_
 refine sr (oE (stpU_box 0 rfl rfl) rfl ?_)
 rintro _ _ ⟨b1, rfl, rfl⟩
 obtain ⟨x2, e2, H0⟩ := bS H0
 obtain ⟨x3, e3, H0⟩ := bS H0
 obtain ⟨x4, e4, H0⟩ := bS H0
 refine oS rfl (nn (sr (oA 0 Tryz.underlying47 rfl ts3 rfl (oL 0 ts3 rfl (oD (stp_mul rfl rfl e2) rfl (oA 1 Tryz.underlying47 rfl ts3 rfl (oL 0 ts3 rfl (oP e3 rfl (oD (stp_convU Tryz.underlying3 Tryz.underlying151 rfl e4) rfl (oS rfl (nn (sr (oM rfl ?_)))))))))))))
 obtain ⟨x5, e5, H0⟩ := bS H0
 obtain ⟨x6, e6, H0⟩ := bS H0
 obtain ⟨x7, e7, H0⟩ := bS H0
 obtain ⟨x8, e8, H0⟩ := bS H0
 obtain ⟨x9, e9, H0⟩ := bS H0
 refine oD (stp_mulU rfl rfl e5) rfl (oD (stp_rem rfl rfl e6) rfl (oS rfl (nn (sr (oM rfl (oM rfl (oD (stp_convU Tryz.underlying3 Tryz.underlying151 rfl e7) rfl (oD (stp_mulU rfl rfl e8) rfl (oD (stp_shr (d := 4294967296) (by decide) rfl rfl) rfl (oD (stp_convI Tryz.underlying151 Tryz.underlying3 rfl e9) rfl (oS rfl (nn (cw_ret ?_)))))))))))))
 obtain rfl := sI H0
 exact kr Tryz.results78 (rT rfl) [] ⟨rfl, rfl⟩

theorem c_i_Table_chain (fl : Nat) (w : World) (a0 : T) (a1 : Int) (hn0_0 : n0_0 = (a0.b).length) (hr0_0 : RO w (hkeys []) (RdL p0_0 c0_0 a0.b)) (hn0_1 : n0_1 = (a0.f).length) (hr0_1 : RO w (hkeys []) (RdL p0_1 c0_1 a0.f)) (r : (List Int)) (H0 : i_Table_chain fl a0 a1 = some r) :
  Ct Tryz.prog 77 [.agg #[.slice p0_0 n0_0 c0_0, .slice p0_1 n0_1 c0_1], .int .i64 a1] w [] (fun rv h' => ∃ (x0 : Option Addr) (y0 z0 : Nat) (C0 : Res), rv = .slice x0 y0 z0 ∧ h' = [(0, C0)] ∧ y0 = (r).length ∧ OwnC 3 x0 z0 r C0) := by
 subst hn0_0 hn0_1
 unfold i_Table_chain at H0
 refine ct_of_cw Tryz.func77 rfl Tryz.ntmps77 rfl (Sat.refl _ _) ?_
 refine sr (oE (stpU_box 0 rfl rfl) rfl ?_)
 rintro _ _ ⟨b1, rfl, rfl⟩
 obtain ⟨x2, e2, H0⟩ := bS H0
 refine oS rfl (nn (sr (oS rfl (nn (cw_seq (sr (oA 0 Tryz.underlying26 rfl ts23 rfl (oL 0 ts23 rfl (oM rfl (oD (stp_indexAddr Tryz.underlying23 ts3 (by decide) rfl rfl rfl (Rdb.ro hr0_0) e2) rfl (oD (stp_load1 ts3 rfl (Cells.el (Rdb.ro hr0_0) (by decide) e2 0 1 rfl)) rfl (oS rfl (nn ?_)))))))))))))
 obtain ⟨o0_0, eo0_0, H0⟩ := bS H0
 refine cw_addNil 1 (cw_join (ι := (List Int) × Int × Option Addr × Nat × Nat × Res) (fun | (v3, v8, p4, n5, c6, C7) => o0_0 = .out (v3, v8) ∧ n5 = (v3).length ∧ OwnC 3 p4 c6 v3 C7) (fun | (v3, v8, p4, n5, c6, C7) => [(2, .pointer (some ⟨b1, 0, none⟩)), (5, .slice p4 n5 c6), (6, .int .i64 v8)]) (fun | (v3, v8, p4, n5, c6, C7) => [(0, [(b1, .cells #[.slice p0_0 ((a0.b).length) c0_0, .slice p0_1 ((a0.f).length) c0_1] 26 (0, 0))]), (1001, C7)]) ?_ ?_)
 ·refine cw_block (cw_loopS (ι := Nat × (List Int) × Int × Option Addr × Nat × Nat × Res) (js := [0, 1]) (fun x => x.1) (fun | (fuel, v3, v8, p4, n5, c6, C7) => i_Table_chain_L0 fl a0 fuel v3 v8 = some o0_0 ∧ n5 = (v3).length ∧ OwnC 3 p4 c6 v3 C7) (fun | (_, v3, v8, p4, n5, c6, C7) => [(2, .pointer (some ⟨b1, 0, none⟩)), (5, .slice p4 n5 c6), (6, .int .i64 v8)]) (fun | (_, v3, v8, p4, n5, c6, C7) => [(0, [(b1, .cells #[.slice p0_0 ((a0.b).length) c0_0, .slice p0_1 ((a0.f).length) c0_1] 26 (0, 0))]), (1001, C7)]) (fl, [], x2, none, 0, 0, []) ⟨eo0_0, rfl, (OwnC.nil _ _)⟩ ⟨rfl, rfl, rfl, trivial⟩ ⟨0, [1], rfl, rfl, 1, [], rfl, rfl, trivial⟩ (by decide) ?_)
  rintro ⟨fuel, v3, v8, p4, _, c6, C7⟩ ⟨H1, rfl, o7⟩
  have H1 : i_Table_chain_L0 fl a0 fuel v3 v8 = some o0_0 := H1
  rcases fuel with _ | fuel
  ·rw [i_Table_chain_L0.eq_1] at H1; cases H1
  rw [i_Table_chain_L0.eq_2] at H1
  dsimp only
  refine cw_seq (sr (oM rfl (oU rfl (nn (cw_cond rfl (fun h9 => ?_) (fun h9 => ?_))))))
  ·have H1 := cond_t H1 h9
   refine cw_skip (kw_nx (cw_seq (cw_block (cw_region (oM rfl (oM rfl (oE (stpU_lit (sz := 1) (l := [v8]) [.int .i64 v8] sl23 2 (sevp_cons rfl sevp_nil) rfl rfl rfl rfl rfl rfl rfl rfl rfl) rfl ?_)))))))
   rintro _ _ ⟨p10, C11, rfl, rfl, o11⟩
   obtain ⟨x12, e12, H1⟩ := bS H1
   refine oE (stpU_append sl23 rfl (id := 1001) rfl rfl rfl (by simp) rfl o7 (Rdb.own (id := 2) rfl o11) e12) rfl ?_
   rintro _ _ ⟨p13, c14, C15, rfl, rfl, o15⟩
   obtain ⟨x16, e16, H1⟩ := bS H1
   exact oS rfl (ow_nil (kw_bl_normal (kw_nx (cw_region (oA 1 Tryz.underlying26 rfl ts24 rfl (oL 0 ts24 rfl (oM rfl (oD (stp_indexAddr Tryz.underlying24 ts58 (by decide) rfl rfl rfl (Rdb.ro hr0_1) e16) rfl (oA 4 Tryz.underlying58 rfl ts3 rfl (oD (stp_load1 ts3 rfl (Cells.el (Rdb.ro hr0_1) (by decide) e16 4 1 rfl)) rfl (oS rfl (ow_nil (kw_lqS (js := [0, 1001]) (fuel, x12, x16.nx, p13, ((x12).length), c14, C15) ⟨H1, rfl, o15⟩ (Nat.lt_succ_self _) ⟨rfl, rfl, rfl, trivial⟩ ⟨0, [1001], rfl, rfl, 1001, [], rfl, rfl, trivial⟩ (by decide))))))))))))))
  have H1 := cond_f H1 h9
  refine cw_exit (kw_nx_exit (kw_lq_exit (kw_bl ?_)))
  obtain rfl := sI H1
  exact kw_joinS (js := [0, 1001]) (v3, v8, p4, ((v3).length), c6, C7) ⟨rfl, rfl, o7⟩ ⟨rfl, rfl, rfl, trivial⟩ ⟨0, [1001], rfl, rfl, 1001, [], rfl, rfl, trivial⟩ (by decide)
 rintro ⟨v3, v8, p4, _, c6, C7⟩ ⟨rfl, rfl, o7⟩
 dsimp only
 refine kw_nx (sr (oM rfl (oE (stpU_call (fun i => i) cf129 (fun w hw => c_clip129 w p4 ((v3).length) c6 (OwnC.len o7).1) (yA rfl)) rfl ?_)))
 rintro _ _ ⟨_, ⟨rfl, rfl⟩, rfl⟩
 refine oS rfl (nn (cw_ret ?_))
 obtain rfl := sI H0
 exact kr Tryz.results77 (rT rfl) [1001] ⟨_, _, _, _, rfl, rfl, rfl, (OwnC.clip o7)⟩

theorem c_i_FindPage (fl : Nat) (w : World) (a0 : T) (a1 : K) (hn0_0 : n0_0 = (a0.b).length) (hr0_0 : RO w (hkeys []) (RdL p0_0 c0_0 a0.b)) (hn0_1 : n0_1 = (a0.f).length) (hr0_1 : RO w (hkeys []) (RdL p0_1 c0_1 a0.f)) (hg : RO w (hkeys []) (fun w' => w'.rangeAt 0 0 [.bool false, .int .i64 0, .int .i64 0, .int .i64 0, .int .i64 (-1)])) (r : Int × Int × Bool) (H0 : i_FindPage fl a0 a1 = some r) :
  Ct Tryz.prog 29 [.agg #[.slice p0_0 n0_0 c0_0, .slice p0_1 n0_1 c0_1], .agg #[.int .i64 a1.s, .int .i64 a1.p]] w [] (fun rv h' => rv = .tuple #[.int .i64 r.1, .int .i64 r.2.1, .bool r.2.2] ∧ h' = []) := by
 subst hn0_0 hn0_1
 unfold i_FindPage at H0
 refine ct_of_cw Tryz.func29 rfl Tryz.ntmps29 rfl (Sat.refl _ _) ?_
 refine sr (oE (stpU_box 0 rfl rfl) rfl ?_)
 rintro _ _ ⟨b1, rfl, rfl⟩
 refine oE (stpU_box 1 rfl rfl) rfl ?_
 rintro _ _ ⟨b2, rfl, rfl⟩
 obtain ⟨x3, e3, H0⟩ := bS H0
 refine oS rfl (oS rfl (oS rfl (nn (cw_seq (sr (oB2 0 ts26 rfl (oE (stpU_call (fun i => 2 + i) cf54 (fun w hw => c_i_TableValid fl w a0 rfl (RO.pass hr0_0 hw) rfl (RO.pass hr0_1 hw) (RO.pass hg hw) x3 e3) (yA rfl)) rfl ?_)))))))
 rintro _ _ ⟨_, ⟨rfl, rfl⟩, rfl⟩
 obtain ⟨y4, ey4, H0⟩ := bS H0
 refine oK rfl (oM rfl (ow_cutY 4 17 y4 ?_ ?_))
 ·rcases Bool.eq_false_or_eq_true (!x3) with hy4 | hy4
  ·have ey4 := cond_t ey4 hy4
   refine oO rfl hy4 rfl (oO rfl hy4 rfl (oO rfl hy4 rfl (oD (stp_pick_t rfl hy4 rfl) rfl ?_)))
   obtain rfl := sI ey4
   exact ow_nil (jy 4 0)
  have ey4 := cond_f ey4 hy4
  obtain ⟨x5, e5, ey4⟩ := bS ey4
  refine oG rfl hy4 (stp_loadN (us := [_, _]) ts47 rfl (Cells.box (id := 1) rfl 2 rfl)) rfl (ow_eff (.some rfl hy4) (stpU_call (fun i => 2 + i) cf76 (fun w hw => c_i_KeyValid fl w a1 x5 e5) (yA rfl)) rfl ?_)
  rintro _ _ ⟨_, ⟨rfl, rfl⟩, rfl⟩
  refine oG rfl hy4 (stp_not rfl) rfl (oD (stp_pick_f rfl hy4 rfl) rfl ?_)
  obtain rfl := sI ey4
  exact ow_nil (jy 4 0)
 refine ow_nil (kw_nx (cw_cond rfl (fun h6 => ?_) (fun h6 => ?_)))
 ·have H0 := cond_t H0 h6
  refine sr (oS rfl (oS rfl (oS rfl (nn (cw_ret (kw_nx_ret ?_))))))
  obtain rfl := sI H0
  exact kr Tryz.results29 (.cons (.tmp rfl) (.cons (.tmp rfl) (rT rfl))) [] ⟨rfl, rfl⟩
 have H0 := cond_f H0 h6
 obtain ⟨x7, e7, H0⟩ := bS H0
 obtain ⟨x8, e8, H0⟩ := bS H0
 refine cw_skip (kw_nx (cw_seq (rdq g_mixed [2, 3] [0, 1] { dst := dS [19, 20, 21, 22, 23, 24, 25, 8], pre := gA [] [[], [], [], [2], [2, 3], rn 1 4, rn 0 6, rn 0 7], ids := gA [] [[], [], [], [], [], [], [2]], rs := rL [[(2, 0)], [(3, 0)], [(2, 0)], [(20, 3)], [(21, 4)], [(19, 2), (22, 5)], [(18, 1), (23, 6)], [(24, 7)]], rh := rL [[(0, 0)], [(1, 0)], [], [(0, 0)]], V := fun i g => gA undef [.agg #[.slice p0_0 ((a0.b).length) c0_0, .slice p0_1 ((a0.f).length) c0_1], .agg #[.int .i64 a1.s, .int .i64 a1.p], .pointer (some ⟨b1, 0, none⟩), .slice p0_0 ((a0.b).length) c0_0, .int .i64 ((a0.b).length : Int), .int .i64 x7, .slice ((g 6).A 0) ((x8).length) ((g 6).C 0), .slice ((g 6).A 0) ((x8).length) ((g 6).C 0)] i, U := fun i g => match i with | 6 => [(2, ((g 6).R 0))] | _ => [], Φ := fun i x => match i with | 6 => OwnC 3 (x.A 0) (x.C 0) x8 (x.R 0) | _ => True } ?_ ?_)))
 ·refine ⟨lc rfl rfl fun hs hh => stp_loadN (us := [_, _]) ts26 (sv hs 2 rfl) (Cells.box (id := 0) (hh.get 0 _ rfl) 2 rfl), lc rfl rfl fun hs hh => stp_loadN (us := [_, _]) ts47 (sv hs 3 rfl) (Cells.box (id := 1) (hh.get 1 _ rfl) 2 rfl), lc rfl rfl fun hs hh => stp_fieldAddr (j := 0) Tryz.underlying26 rfl ts23 rfl (sv hs 2 rfl) rfl, lc rfl rfl fun hs hh => stp_load1 ts23 (sv hs 20 rfl) (Cells.box (id := 0) (hh.get 0 _ rfl) 1 rfl), lc rfl rfl fun hs hh => stp_len Tryz.underlying23 (sv hs 21 rfl), ?_, ?_, lS, trivial⟩
  ·refine le rfl rfl (fun g hΦ s h hs hh => (stpU_call (fun i => 2 + i) cf78 (fun w hw => c_i_hash fl w a1 ((a0.b).length : Int) x7 e7) (yB (sv hs 19 rfl) (sv hs 22 rfl)))) ?_
   rintro g _ _ ⟨_, ⟨rfl, rfl⟩, rfl⟩
   exact ⟨⟨[], [], []⟩, trivial, .inr rfl, rfl⟩
  refine le rfl rfl (fun g hΦ s h hs hh => (stpU_call (fun i => 2 + i) cf77 (fun w hw => c_i_Table_chain fl w a0 x7 rfl (RO.pass hr0_0 hw) rfl (RO.pass hr0_1 hw) x8 e8) (yB (sv hs 18 rfl) (sv hs 23 rfl)))) ?_
  rintro g _ _ ⟨_, ⟨p9, _, c11, C12, rfl, rfl, rfl, o12⟩, rfl⟩
  exact ⟨⟨[p9], [c11], [C12]⟩, o12, .inr rfl, rfl⟩
 intro g hΦ
 refine kw_gen (ι := Option Addr × Nat × Res) (((g 6).A 0), ((g 6).C 0), ((g 6).R 0)) (fun | (p9, c11, C12) => OwnC 3 p9 c11 x8 C12) (fun | (p9, c11, C12) => [(2, .pointer (some ⟨b1, 0, none⟩)), (3, .pointer (some ⟨b2, 0, none⟩)), (7, .slice p9 ((x8).length) c11)]) (fun | (p9, c11, C12) => [(0, [(b1, .cells #[.slice p0_0 ((a0.b).length) c0_0, .slice p0_1 ((a0.f).length) c0_1] 26 (0, 0))]), (1, [(b2, .cells #[.int .i64 a1.s, .int .i64 a1.p] 47 (0, 0))]), (2, C12)]) (hΦ 6 (by decide)) ⟨rfl, rfl, rfl, trivial⟩ ⟨rfl, rfl, rfl, trivial⟩ ?_
 rintro ⟨p9, c11, C12⟩ o12
 have o12 : OwnC 3 p9 c11 x8 C12 := o12
 dsimp only
 obtain ⟨o0_0, eo0_0, H0⟩ := bS H0
 refine kw_nx (cw_seq (sr (oM rfl (oD (stp_len Tryz.underlying23 rfl) rfl (oM rfl (nn (cw_join (ι := Int) (fun | v13 => o0_0 = .out v13) (fun | v13 => [(2, .pointer (some ⟨b1, 0, none⟩)), (3, .pointer (some ⟨b2, 0, none⟩)), (7, .slice p9 ((x8).length) c11), (25, .slice p9 ((x8).length) c11), (26, .int .i64 ((x8).length : Int)), (27, .int .i64 v13)]) (fun | v13 => [(0, [(b1, .cells #[.slice p0_0 ((a0.b).length) c0_0, .slice p0_1 ((a0.f).length) c0_1] 26 (0, 0))]), (1, [(b2, .cells #[.int .i64 a1.s, .int .i64 a1.p] 47 (0, 0))]), (2, C12)]) ?_ ?_)))))))
 ·refine cw_block (cw_loopS (ι := Nat × Int) (js := [0, 1, 2]) (fun x => x.1) (fun | (fuel, v13) => i_FindPage_L0 fl a0 a1 x8 fuel v13 = some o0_0) (fun | (_, v13) => [(2, .pointer (some ⟨b1, 0, none⟩)), (3, .pointer (some ⟨b2, 0, none⟩)), (7, .slice p9 ((x8).length) c11), (25, .slice p9 ((x8).length) c11), (26, .int .i64 ((x8).length : Int)), (27, .int .i64 v13)]) (fun | (_, v13) => [(0, [(b1, .cells #[.slice p0_0 ((a0.b).length) c0_0, .slice p0_1 ((a0.f).length) c0_1] 26 (0, 0))]), (1, [(b2, .cells #[.int .i64 a1.s, .int .i64 a1.p] 47 (0, 0))]), (2, C12)]) (fl, 0) eo0_0 ⟨rfl, rfl, rfl, rfl, rfl, rfl, trivial⟩ ⟨0, [1, 2], rfl, rfl, 1, [2], rfl, rfl, 2, [], rfl, rfl, trivial⟩ (by decide) ?_)
  rintro ⟨fuel, v13⟩ H1
  have H1 : i_FindPage_L0 fl a0 a1 x8 fuel v13 = some o0_0 := H1
  rcases fuel with _ | fuel
  ·rw [i_FindPage_L0.eq_1] at H1; cases H1
  rw [i_FindPage_L0.eq_2] at H1
  dsimp only
  refine sr (oW rfl (nn (cw_seq (cw_cond rfl (fun h14 => ?_) (fun h14 => ?_)))))
  ·have H1 := cond_t H1 h14
   obtain ⟨x15, e15, H1⟩ := bS H1
   obtain ⟨x16, e16, H1⟩ := bS H1
   refine cw_skip (kw_nx (cw_seq (cw_block (sr (oM rfl (oD (stp_indexAddr Tryz.underlying23 ts3 (by decide) rfl rfl rfl (Rdb.own (id := 2) rfl o12) e15) rfl (oD (stp_load1 ts3 rfl (Cells.el (Rdb.own (id := 2) rfl o12) (by decide) e15 0 1 rfl)) rfl (oS rfl (oS rfl (nn (cw_seq (rdq g_mixed [2, 3, 9] [0, 1] { dst := dS [33, 34, 35, 36, 37, 38, 39, 40], pre := gA [] [[], [0], [], [0, 1, 2], rn 0 4, rn 0 5, [], rn 0 7], ids := fun _ => [], rs := rL [[(2, 0)], [(32, 1)], [(9, 0)], [(33, 2), (34, 3)], [(35, 4)], [(36, 5)], [(3, 0)], [(37, 6), (38, 7)]], rh := rL [[], [(0, 0)], [], [], [], [], [(1, 0)]], V := fun i g => gA undef [.pointer (some ⟨b1, 1, none⟩), .slice p0_1 ((a0.f).length) c0_1, .int .i64 x15, .pointer (some ⟨eB p0_1, eO p0_1 + Int.toNat x15 * Enc.sz F + 0, none⟩), .pointer (some ⟨eB p0_1, eO p0_1 + Int.toNat x15 * Enc.sz F + 1, none⟩), .agg #[.int .i64 x16.k.s, .int .i64 x16.k.p], .agg #[.int .i64 a1.s, .int .i64 a1.p], .bool (x16.k == a1)] i, U := fun _ _ => [], Φ := fun _ _ => True } ?_ ?_))))))))))))
   ·exact ⟨lc rfl rfl fun hs hh => stp_fieldAddr (j := 1) Tryz.underlying26 rfl ts24 rfl (sv hs 2 rfl) rfl, lc rfl rfl fun hs hh => stp_load1 ts24 (sv hs 32 rfl) (Cells.box (id := 0) (hh.get 0 _ rfl) 1 rfl), lM, lc rfl rfl fun hs hh => stp_indexAddr Tryz.underlying24 ts58 (by decide) (sv hs 33 rfl) rfl (sv hs 34 rfl) (Rdb.ro hr0_1) e16, lc rfl rfl fun hs hh => stp_fieldAddr (j := 1) Tryz.underlying58 rfl ts47 rfl (sv hs 35 rfl) rfl, lc rfl rfl fun hs hh => stp_loadN (us := [_, _]) ts47 (sv hs 36 rfl) (Cells.el (Rdb.ro hr0_1) (by decide) e16 1 2 rfl), lc rfl rfl fun hs hh => stp_loadN (us := [_, _]) ts47 (sv hs 3 rfl) (Cells.box (id := 1) (hh.get 1 _ rfl) 2 rfl), lc rfl rfl fun hs hh => stp_eqlS te47 x16.k a1 (sv hs 37 rfl) (sv hs 38 rfl), trivial⟩
   intro g hΦ
   refine KW.sub (s' := [(2, .pointer (some ⟨b1, 0, none⟩)), (3, .pointer (some ⟨b2, 0, none⟩)), (7, .slice p9 ((x8).length) c11), (8, .int .i64 v13), (9, .int .i64 x15), (25, .slice p9 ((x8).length) c11), (26, .int .i64 ((x8).length : Int)), (27, .int .i64 v13), (39, .bool (x16.k == a1))]) (h' := [(0, [(b1, .cells #[.slice p0_0 ((a0.b).length) c0_0, .slice p0_1 ((a0.f).length) c0_1] 26 (0, 0))]), (1, [(b2, .cells #[.int .i64 a1.s, .int .i64 a1.p] 47 (0, 0))]), (2, C12)]) ?_ ⟨rfl, rfl, rfl, rfl, rfl, rfl, rfl, rfl, rfl, trivial⟩ ⟨rfl, rfl, rfl, trivial⟩
   refine kw_nx (cw_cond rfl (fun h17 => ?_) (fun h17 => ?_))
   ·have H1 := cond_t H1 h17
    obtain ⟨x18, e18, H1⟩ := bS H1
    refine sr (oM rfl (oM rfl (oP e18 rfl (oS rfl (oS rfl (oS rfl (nn (cw_ret (kw_bl_ret (kw_nx_ret (kw_lq_ret (kw_bl_ret (kw_join_ret ?_)))))))))))))
    refine kw_nx_ret ?_
    obtain rfl := sI H1
    obtain rfl := sI H0
    exact kr Tryz.results29 (.cons (.tmp rfl) (.cons (.tmp rfl) (rT rfl))) [] ⟨rfl, rfl⟩
   have H1 := cond_f H1 h17
   obtain ⟨x19, e19, H1⟩ := bS H1
   exact cw_skip (kw_bl_normal (kw_nx (cw_region (oP e19 rfl (oM rfl (ow_nil (kw_lqS (js := [0, 1, 2]) (fuel, x19) H1 (Nat.lt_succ_self _) ⟨rfl, rfl, rfl, rfl, rfl, rfl, trivial⟩ ⟨0, [1, 2], rfl, rfl, 1, [2], rfl, rfl, 2, [], rfl, rfl, trivial⟩ (by decide))))))))
  have H1 := cond_f H1 h14
  refine cw_exit (kw_nx_exit (kw_lq_exit (kw_bl ?_)))
  obtain rfl := sI H1
  exact kw_joinS (js := [0, 1, 2]) v13 rfl ⟨rfl, rfl, rfl, rfl, rfl, rfl, trivial⟩ ⟨0, [1, 2], rfl, rfl, 1, [2], rfl, rfl, 2, [], rfl, rfl, trivial⟩ (by decide)
 rintro v13 rfl
 dsimp only
 refine kw_nx (sr (oM rfl (oD (stp_len Tryz.underlying23 rfl) rfl (oS rfl (oS rfl (oS rfl (nn (cw_ret ?_))))))))
 obtain rfl := sI H0
 exact kr Tryz.results29 (.cons (.tmp rfl) (.cons (.tmp rfl) (rT rfl))) [] ⟨rfl, rfl⟩

theorem c_l_FnGuardBack (fl : Nat) (w : World) (a0 : (List UInt8)) (hn0_0 : n0_0 = (a0).length) (hr0_0 : RO w (hkeys []) (RdL p0_0 c0_0 a0)) (hg : RO w (hkeys []) (fun w' => w'.rangeAt 0 0 [.bool false, .int .i64 0, .int .i64 0, .int .i64 0, .int .i64 (-1)])) (r : Bool) (H0 : l_FnGuardBack fl a0 = some r) :
  Ct Tryz.prog 6 [.slice p0_0 n0_0 c0_0] w [] (fun rv h' => rv = .bool r ∧ h' = []) := by
 subst hn0_0
 unfold l_FnGuardBack at H0
 refine ct_of_cw Tryz.func6 rfl Tryz.ntmps6 rfl (Sat.refl _ _) ?_
 refine sr (oS rfl (nn (cw_seq (sr (oM rfl (oD (stp_len Tryz.underlying22 rfl) rfl (oJ rfl (nn (cw_cond rfl (fun h1 => ?_) (fun h1 => ?_))))))))))
 ·have H0 := cond_t H0 h1
  refine sr (oS rfl (nn (cw_ret (kw_nx_ret ?_))))
  obtain rfl := sI H0
  exact kr Tryz.results6 (rT rfl) [] ⟨rfl, rfl⟩
 have H0 := cond_f H0 h1
 obtain ⟨x2, e2, H0⟩ := bS H0
 refine cw_skip (kw_nx (sr (oM rfl (oE (stpU_call (fun i => 0 + i) cf26 (fun w hw => c_s_DrawGuardPage fl w a0 rfl (RO.pass hr0_0 hw) x2 e2) (yA rfl)) rfl ?_))))
 rintro _ _ ⟨_, ⟨p3, _, c5, C6, p7, _, c9, C10, p11, _, c13, C14, p15, _, c17, C18, rfl, rfl, rfl, o6, rfl, o10, rfl, o14, rfl, o18⟩, rfl⟩
 refine oM rfl (oT rfl (oT rfl (oT rfl (oE (stpU_alloc 4 tz34 rfl) rfl ?_))))
 rintro _ _ ⟨b19, rfl, rfl⟩
 refine oE (stpU_alloc 5 tz47 rfl) rfl ?_
 rintro _ _ ⟨b20, rfl, rfl⟩
 obtain ⟨x21, e21, H0⟩ := bS H0
 refine oC9 4 ts34 rfl rfl (oC2 5 ts47 rfl rfl (oS rfl (nn (sr (oB9 4 ts34 rfl (oB2 5 ts47 rfl (oM rfl (oE (stpU_call (fun i => 6 + i) cf27 (fun w hw => c_i_GuardPage fl w x2.1 x2.2.1 x2.2.2 rfl (OwnC.pass (id := 0) rfl o6 hw) rfl (OwnC.pass (id := 1) rfl o10 hw) rfl (OwnC.pass (id := 2) rfl o14 hw) rfl (OwnC.pass (id := 3) rfl o18 hw) (RO.pass hg hw) x21 e21) (yC rfl rfl rfl)) rfl ?_))))))))
 rintro _ _ ⟨_, ⟨p22, _, c24, C25, p26, _, c28, C29, p30, _, c32, C33, p34, _, c36, C37, rfl, rfl, rfl, o25, rfl, o29, rfl, o33, rfl, o37⟩, rfl⟩
 refine oM rfl (oT rfl (oT rfl (oE (stpU_alloc 10 tz34 rfl) rfl ?_)))
 rintro _ _ ⟨b38, rfl, rfl⟩
 obtain ⟨x39, e39, H0⟩ := bS H0
 refine oC9 10 ts34 rfl rfl (oS rfl (nn (sr (oB9 4 ts34 rfl (oB2 5 ts47 rfl (oM rfl (oE (stpU_call (fun i => 11 + i) cf28 (fun w hw => c_s_GuardPage fl w x2.1 x2.2.1 x2.2.2 rfl (OwnC.pass (id := 0) rfl o6 hw) rfl (OwnC.pass (id := 1) rfl o10 hw) rfl (OwnC.pass (id := 2) rfl o14 hw) rfl (OwnC.pass (id := 3) rfl o18 hw) x39 e39) (yC rfl rfl rfl)) rfl ?_)))))))
 rintro _ _ ⟨_, ⟨p40, _, c42, C43, p44, _, c46, C47, p48, _, c50, C51, p52, _, c54, C55, rfl, rfl, rfl, o43, rfl, o47, rfl, o51, rfl, o55⟩, rfl⟩
 refine oM rfl (oT rfl (oT rfl (oE (stpU_alloc 15 tz34 rfl) rfl ?_)))
 rintro _ _ ⟨b56, rfl, rfl⟩
 obtain ⟨x57, e57, H0⟩ := bS H0
 refine oC9 15 ts34 rfl rfl (oS rfl (nn (cw_seq (sr (oB9 10 ts34 rfl (oB9 15 ts34 rfl (oE (stpU_call (fun i => 16 + i) cf18 (fun w hw => c_i_MachineSame fl w x21.1 x39.1 rfl (OwnC.pass (id := 6) rfl o25 hw) rfl (OwnC.pass (id := 7) rfl o29 hw) rfl (OwnC.pass (id := 8) rfl o33 hw) rfl (OwnC.pass (id := 9) rfl o37 hw) rfl (OwnC.pass (id := 11) rfl o43 hw) rfl (OwnC.pass (id := 12) rfl o47 hw) rfl (OwnC.pass (id := 13) rfl o51 hw) rfl (OwnC.pass (id := 14) rfl o55 hw) x57 e57) (yB rfl rfl)) rfl ?_)))))))
 rintro _ _ ⟨_, ⟨rfl, rfl⟩, rfl⟩
 obtain ⟨y58, ey58, H0⟩ := bS H0
 refine oK rfl (oM rfl (ow_cutY 4 46 y58 ?_ ?_))
 ·rcases Bool.eq_false_or_eq_true (!x57) with hy58 | hy58
  ·have ey58 := cond_t ey58 hy58
   refine oO rfl hy58 rfl (oO rfl hy58 rfl (oO rfl hy58 rfl (oD (stp_pick_t rfl hy58 rfl) rfl ?_)))
   obtain rfl := sI ey58
   exact ow_nil (jy 4 0)
  have ey58 := cond_f ey58 hy58
  refine oG rfl hy58 (mv rfl) rfl (oG rfl hy58 (mv rfl) rfl (oG rfl hy58 (stp_neqB Tryz.underlying4 rfl rfl) rfl (oD (stp_pick_f rfl hy58 rfl) rfl ?_)))
  obtain rfl := sI ey58
  exact ow_nil (jy 4 0)
 obtain ⟨y59, ey59, H0⟩ := bS H0
 refine oM rfl (ow_cutY 3 50 y59 ?_ ?_)
 ·rcases Bool.eq_false_or_eq_true y58 with hy59 | hy59
  ·have ey59 := cond_t ey59 hy59
   refine oO rfl hy59 rfl (oO rfl hy59 rfl (oD (stp_pick_t rfl hy59 rfl) rfl ?_))
   obtain rfl := sI ey59
   exact ow_nil (jy 3 0)
  have ey59 := cond_f ey59 hy59
  refine oG rfl hy59 (mv rfl) rfl (oG rfl hy59 (stp_not rfl) rfl (oD (stp_pick_f rfl hy59 rfl) rfl ?_))
  obtain rfl := sI ey59
  exact ow_nil (jy 3 0)
 refine ow_nil (kw_nx (cw_cond rfl (fun h60 => ?_) (fun h60 => ?_)))
 ·have H0 := cond_t H0 h60
  refine sr (oB9 10 ts34 rfl (oB9 15 ts34 rfl (oE (stpU_call (fun i => 16 + i) cf18 (fun w hw => c_i_MachineSame fl w x21.1 x39.1 rfl (OwnC.pass (id := 6) rfl o25 hw) rfl (OwnC.pass (id := 7) rfl o29 hw) rfl (OwnC.pass (id := 8) rfl o33 hw) rfl (OwnC.pass (id := 9) rfl o37 hw) rfl (OwnC.pass (id := 11) rfl o43 hw) rfl (OwnC.pass (id := 12) rfl o47 hw) rfl (OwnC.pass (id := 13) rfl o51 hw) rfl (OwnC.pass (id := 14) rfl o55 hw) x57 e57) (yB rfl rfl)) rfl ?_)))
  rintro _ _ ⟨_, ⟨rfl, rfl⟩, rfl⟩
  obtain ⟨y61, ey61, H0⟩ := bS H0
  refine oM rfl (ow_cutY 4 58 y61 ?_ ?_)
  ·rcases Bool.eq_false_or_eq_true x57 with hy61 | hy61
   ·have ey61 := cond_t ey61 hy61
    refine oG rfl hy61 (mv rfl) rfl (oG rfl hy61 (mv rfl) rfl (oG rfl hy61 (stp_eqlB Tryz.underlying4 rfl rfl) rfl (oD (stp_pick_t rfl hy61 rfl) rfl ?_)))
    obtain rfl := sI ey61
    exact ow_nil (jy 4 0)
   have ey61 := cond_f ey61 hy61
   refine oO rfl hy61 rfl (oO rfl hy61 rfl (oO rfl hy61 rfl (oD (stp_pick_f rfl hy61 rfl) rfl ?_)))
   obtain rfl := sI ey61
   exact ow_nil (jy 4 0)
  refine oS rfl (nn (cw_ret (kw_nx_ret ?_)))
  obtain rfl := sI H0
  exact kr Tryz.results6 (rT rfl) [] ⟨rfl, rfl⟩
 have H0 := cond_f H0 h60
 obtain ⟨x62, e62, H0⟩ := bS H0
 refine cw_skip (kw_nx (sr (oA 0 Tryz.underlying34 rfl ts26 rfl (oB2 4 ts26 rfl (oB2 5 ts47 rfl (oE (stpU_call (fun i => 16 + i) cf29 (fun w hw => c_i_FindPage fl w x2.1.t x2.2.1 rfl (OwnC.pass (id := 0) rfl o6 hw) rfl (OwnC.pass (id := 1) rfl o10 hw) (RO.pass hg hw) x62 e62) (yB rfl rfl)) rfl ?_))))))
 rintro _ _ ⟨_, ⟨rfl, rfl⟩, rfl⟩
 obtain ⟨x63, e63, H0⟩ := bS H0
 obtain ⟨x64, e64, H0⟩ := bS H0
 refine oM rfl (oT rfl (oT rfl (oT rfl (oS rfl (oS rfl (oS rfl (nn (cw_seq (rdq g_mixed [3, 4, 6, 10] [1, 4, 5, 6, 7, 8, 9, 10] { dst := dS [69, 70, 71, 72, 73, 74, 75, 76, 77, 78, 68, 79, 80, 14, 0, 15], pre := gA [] [[], [], [], [2], [2, 3], [], rn 2 4, rn 2 5, rn 2 6, rn 0 9, rn 0 10, rn 0 11, rn 0 11, [], [0, 1, 2, 3, 4, 5, 6, 7, 8, 9, 10, 11, 13], rn 0 15], ids := fun i => match i with | 9 => [16, 17, 18, 19] | 13 => [20] | 14 => [20] | _ => [], rs := rL [[(6, 0)], [(4, 0)], [(3, 0)], [(70, 3)], [(71, 4)], [(10, 0)], [(72, 5), (73, 6)], [(74, 7)], [(75, 8)], [(68, 1), (69, 2), (76, 9)], [(77, 10)], [(67, 11)], [(67, 11)], [], [(13, 14), (78, 12)], [(79, 13)]], rh := rL [[(10, 0)], [(5, 0)], [], [], [(4, 0)], [], [(1, 0)], [], [(1, 0)], [(6, 0), (7, 0), (8, 0), (9, 0)], [], [], [], [], [(20, 14)]], V := fun i g => gA undef [.agg #[.slice p22 ((x21.1.t.b).length) c24, .slice p26 ((x21.1.t.f).length) c28, .slice p30 ((x21.1.c.l).length) c32, .int .i64 x21.1.c.h, .int .i64 x21.1.g.c, .int .i64 x21.1.g.n, .int .i64 x21.1.g.r, .slice p34 ((x21.1.g.o).length) c36, .int .i64 x21.1.s], .agg #[.int .i64 x2.2.1.s, .int .i64 x2.2.1.p], .pointer (some ⟨b19, 0, none⟩), .pointer (some ⟨b19, 1, none⟩), .slice p7 ((x2.1.t.f).length) c9, .int .i64 x62.1, .pointer (some ⟨eB p7, eO p7 + Int.toNat x62.1 * Enc.sz F + 0, none⟩), .pointer (some ⟨eB p7, eO p7 + Int.toNat x62.1 * Enc.sz F + 3, none⟩), .int .i64 x63.r, .tuple #[.agg #[.slice ((g 9).A 0) ((x64.1.t.b).length) ((g 9).C 0), .slice ((g 9).A 1) ((x64.1.t.f).length) ((g 9).C 1), .slice ((g 9).A 2) ((x64.1.c.l).length) ((g 9).C 2), .int .i64 x64.1.c.h, .int .i64 x64.1.g.c, .int .i64 x64.1.g.n, .int .i64 x64.1.g.r, .slice ((g 9).A 3) ((x64.1.g.o).length) ((g 9).C 3), .int .i64 x64.1.s], .bool x64.2], .tuple #[.agg #[.slice ((g 9).A 0) ((x64.1.t.b).length) ((g 9).C 0), .slice ((g 9).A 1) ((x64.1.t.f).length) ((g 9).C 1), .slice ((g 9).A 2) ((x64.1.c.l).length) ((g 9).C 2), .int .i64 x64.1.c.h, .int .i64 x64.1.g.c, .int .i64 x64.1.g.n, .int .i64 x64.1.g.r, .slice ((g 9).A 3) ((x64.1.g.o).length) ((g 9).C 3), .int .i64 x64.1.s], .bool x64.2], .agg #[.slice ((g 9).A 0) ((x64.1.t.b).length) ((g 9).C 0), .slice ((g 9).A 1) ((x64.1.t.f).length) ((g 9).C 1), .slice ((g 9).A 2) ((x64.1.c.l).length) ((g 9).C 2), .int .i64 x64.1.c.h, .int .i64 x64.1.g.c, .int .i64 x64.1.g.n, .int .i64 x64.1.g.r, .slice ((g 9).A 3) ((x64.1.g.o).length) ((g 9).C 3), .int .i64 x64.1.s], .bool x64.2, .pointer (some ⟨((g 13).C 0), 0, none⟩), undef, .bool x64.2] i, U := fun i g => match i with | 9 => [(16, ((g 9).R 0)), (17, ((g 9).R 1)), (18, ((g 9).R 2)), (19, ((g 9).R 3))] | 13 => [(20, [(((g 13).C 0), .cells #[.slice none 0 0, .slice none 0 0, .slice none 0 0, .int .i64 0, .int .i64 0, .int .i64 0, .int .i64 0, .slice none 0 0, .int .i64 0] 34 (0, 0))])] | 14 => [(20, [(((g 13).C 0), .cells #[.slice ((g 9).A 0) ((x64.1.t.b).length) ((g 9).C 0), .slice ((g 9).A 1) ((x64.1.t.f).length) ((g 9).C 1), .slice ((g 9).A 2) ((x64.1.c.l).length) ((g 9).C 2), .int .i64 x64.1.c.h, .int .i64 x64.1.g.c, .int .i64 x64.1.g.n, .int .i64 x64.1.g.r, .slice ((g 9).A 3) ((x64.1.g.o).length) ((g 9).C 3), .int .i64 x64.1.s] 34 (0, 0))])] | _ => [], Φ := fun i x => match i with | 9 => OwnC 3 (x.A 0) (x.C 0) x64.1.t.b (x.R 0) ∧ OwnC 58 (x.A 1) (x.C 1) x64.1.t.f (x.R 1) ∧ OwnC 41 (x.A 2) (x.C 2) x64.1.c.l (x.R 2) ∧ OwnC 118 (x.A 3) (x.C 3) x64.1.g.o (x.R 3) | _ => True } ?_ ?_)))))))))
 ·refine ⟨lc rfl rfl fun hs hh => stp_loadN (us := [_, _, _, _, _, _, _, _, _]) ts34 (sv hs 6 rfl) (Cells.box (id := 10) (hh.get 10 _ rfl) 9 rfl), lc rfl rfl fun hs hh => stp_loadN (us := [_, _]) ts47 (sv hs 4 rfl) (Cells.box (id := 5) (hh.get 5 _ rfl) 2 rfl), lc rfl rfl fun hs hh => stp_fieldAddr (j := 0) Tryz.underlying34 rfl ts26 rfl (sv hs 3 rfl) rfl, lc rfl rfl fun hs hh => stp_fieldAddr (j := 1) Tryz.underlying26 rfl ts24 rfl (sv hs 70 rfl) rfl, lc rfl rfl fun hs hh => stp_load1 ts24 (sv hs 71 rfl) (Cells.box (id := 4) (hh.get 4 _ rfl) 1 rfl), lM, lc rfl rfl fun hs hh => stp_indexAddr Tryz.underlying24 ts58 (by decide) (sv hs 72 rfl) rfl (sv hs 73 rfl) (Rdb.own (id := 1) (hh.get 1 _ rfl) o10) e63, lc rfl rfl fun hs hh => stp_fieldAddr (j := 3) Tryz.underlying58 rfl ts3 rfl (sv hs 74 rfl) rfl, lc rfl rfl fun hs hh => stp_load1 ts3 (sv hs 75 rfl) (Cells.el (Rdb.own (id := 1) (hh.get 1 _ rfl) o10) (by decide) e63 3 1 rfl), ?_, lM, lT, lT, ?_, ?_, lS, trivial⟩
  ·refine le rfl rfl (fun g hΦ s h hs hh => (stpU_call (fun i => 16 + i) cf27 (fun w hw => c_i_GuardPage fl w x21.1 x2.2.1 x63.r rfl (OwnC.pass (id := 6) (hh.get 6 _ rfl) o25 hw) rfl (OwnC.pass (id := 7) (hh.get 7 _ rfl) o29 hw) rfl (OwnC.pass (id := 8) (hh.get 8 _ rfl) o33 hw) rfl (OwnC.pass (id := 9) (hh.get 9 _ rfl) o37 hw) (RO.pass hg hw) x64 e64) (yC (sv hs 68 rfl) (sv hs 69 rfl) (sv hs 76 rfl)))) ?_
   rintro g _ _ ⟨_, ⟨p65, _, c67, C68, p69, _, c71, C72, p73, _, c75, C76, p77, _, c79, C80, rfl, rfl, rfl, o68, rfl, o72, rfl, o76, rfl, o80⟩, rfl⟩
   exact ⟨⟨[p65, p69, p73, p77], [c67, c71, c75, c79], [C68, C72, C76, C80]⟩, ⟨o68, o72, o76, o80⟩, .inr rfl, rfl⟩
  ·refine le rfl rfl (fun g hΦ s h hs hh => (stpU_alloc 20 tz34 rfl)) ?_
   rintro g _ _ ⟨b81, rfl, rfl⟩
   exact ⟨⟨[], [b81], []⟩, trivial, .inr rfl, rfl⟩
  refine le rfl rfl (fun g hΦ s h hs hh => (stpU_store (id := 20) (cs' := [.slice ((g 9).A 0) ((x64.1.t.b).length) ((g 9).C 0), .slice ((g 9).A 1) ((x64.1.t.f).length) ((g 9).C 1), .slice ((g 9).A 2) ((x64.1.c.l).length) ((g 9).C 2), .int .i64 x64.1.c.h, .int .i64 x64.1.g.c, .int .i64 x64.1.g.n, .int .i64 x64.1.g.r, .slice ((g 9).A 3) ((x64.1.g.o).length) ((g 9).C 3), .int .i64 x64.1.s]) ts34 (sv hs 13 rfl) (sv hs 78 rfl) (hh.get 20 _ rfl) rfl rfl rfl rfl)) ?_
  rintro g _ _ rfl
  exact ⟨⟨[], [], []⟩, trivial, .inl rfl, rfl⟩
 intro g hΦ
 refine kw_gen (ι := Option Addr × Option Addr × Option Addr × Option Addr × Nat × Nat × Nat × Nat × Res × Res × Res × Res × Nat) (((g 9).A 0), ((g 9).A 1), ((g 9).A 2), ((g 9).A 3), ((g 9).C 0), ((g 9).C 1), ((g 9).C 2), ((g 9).C 3), ((g 9).R 0), ((g 9).R 1), ((g 9).R 2), ((g 9).R 3), ((g 13).C 0)) (fun | (p65, p69, p73, p77, c67, c71, c75, c79, C68, C72, C76, C80, b81) => OwnC 3 p65 c67 x64.1.t.b C68 ∧ OwnC 58 p69 c71 x64.1.t.f C72 ∧ OwnC 41 p73 c75 x64.1.c.l C76 ∧ OwnC 118 p77 c79 x64.1.g.o C80) (fun | (p65, p69, p73, p77, c67, c71, c75, c79, C68, C72, C76, C80, b81) => [(3, .pointer (some ⟨b19, 0, none⟩)), (13, .pointer (some ⟨b81, 0, none⟩)), (14, .bool x64.2)]) (fun | (p65, p69, p73, p77, c67, c71, c75, c79, C68, C72, C76, C80, b81) => [(0, C6), (1, C10), (2, C14), (3, C18), (4, [(b19, .cells #[.slice p3 ((x2.1.t.b).length) c5, .slice p7 ((x2.1.t.f).length) c9, .slice p11 ((x2.1.c.l).length) c13, .int .i64 x2.1.c.h, .int .i64 x2.1.g.c, .int .i64 x2.1.g.n, .int .i64 x2.1.g.r, .slice p15 ((x2.1.g.o).length) c17, .int .i64 x2.1.s] 34 (0, 0))]), (16, C68), (17, C72), (18, C76), (19, C80), (20, [(b81, .cells #[.slice p65 ((x64.1.t.b).length) c67, .slice p69 ((x64.1.t.f).length) c71, .slice p73 ((x64.1.c.l).length) c75, .int .i64 x64.1.c.h, .int .i64 x64.1.g.c, .int .i64 x64.1.g.n, .int .i64 x64.1.g.r, .slice p77 ((x64.1.g.o).length) c79, .int .i64 x64.1.s] 34 (0, 0))])]) ⟨(hΦ 9 (by decide)).1, (hΦ 9 (by decide)).2.1, (hΦ 9 (by decide)).2.2.1, (hΦ 9 (by decide)).2.2.2⟩ ⟨rfl, rfl, rfl, trivial⟩ ⟨rfl, rfl, rfl, rfl, rfl, rfl, rfl, rfl, rfl, rfl, trivial⟩ ?_
 rintro ⟨p65, p69, p73, p77, c67, c71, c75, c79, C68, C72, C76, C80, b81⟩ ⟨o68, o72, o76, o80⟩
 dsimp only
 obtain ⟨y82, ey82, H0⟩ := bS H0
 refine kw_nx (sr (oM rfl (oM rfl (ow_cutY 6 87 y82 ?_ ?_))))
 ·rcases Bool.eq_false_or_eq_true x64.2 with hy82 | hy82
  ·have ey82 := cond_t ey82 hy82
   obtain ⟨x83, e83, ey82⟩ := bS ey82
   refine oG rfl hy82 (fA 0 Tryz.underlying34 rfl ts26 rfl rfl rfl) rfl (oG rfl hy82 (stp_loadN (us := [_, _]) ts26 rfl (Cells.box (id := 20) rfl 2 rfl)) rfl (oG rfl hy82 (fA 0 Tryz.underlying34 rfl ts26 rfl rfl rfl) rfl (oG rfl hy82 (stp_loadN (us := [_, _]) ts26 rfl (Cells.box (id := 4) rfl 2 rfl)) rfl (ow_eff (.some rfl hy82) (stpU_call (fun i => 21 + i) cf20 (fun w hw => c_i_TableSame fl w x64.1.t x2.1.t rfl (OwnC.pass (id := 16) rfl o68 hw) rfl (OwnC.pass (id := 17) rfl o72 hw) rfl (OwnC.pass (id := 0) rfl o6 hw) rfl (OwnC.pass (id := 1) rfl o10 hw) x83 e83) (yB rfl rfl)) rfl ?_))))
   rintro _ _ ⟨_, ⟨rfl, rfl⟩, rfl⟩
   refine oD (stp_pick_t rfl hy82 rfl) rfl ?_
   obtain rfl := sI ey82
   exact ow_nil (jy 6 0)
  have ey82 := cond_f ey82 hy82
  refine oO rfl hy82 rfl (oO rfl hy82 rfl (oO rfl hy82 rfl (oO rfl hy82 rfl (oO rfl hy82 rfl (oD (stp_pick_f rfl hy82 rfl) rfl ?_)))))
  obtain rfl := sI ey82
  exact ow_nil (jy 6 0)
 obtain ⟨y84, ey84, H0⟩ := bS H0
 refine oM rfl (ow_cutY 3 91 y84 ?_ ?_)
 ·rcases Bool.eq_false_or_eq_true y82 with hy84 | hy84
  ·have ey84 := cond_t ey84 hy84
   obtain ⟨x85, e85, ey84⟩ := bS ey84
   refine oG rfl hy84 (stp_loadN (us := [_, _, _, _, _, _, _, _, _]) ts34 rfl (Cells.box (id := 20) rfl 9 rfl)) rfl (ow_eff (.some rfl hy84) (stpU_call (fun i => 21 + i) cf19 (fun w hw => c_i_MachineValid fl w x64.1 rfl (OwnC.pass (id := 16) rfl o68 hw) rfl (OwnC.pass (id := 17) rfl o72 hw) rfl (OwnC.pass (id := 18) rfl o76 hw) rfl (OwnC.pass (id := 19) rfl o80 hw) (RO.pass hg hw) x85 e85) (yA rfl)) rfl ?_)
   rintro _ _ ⟨_, ⟨rfl, rfl⟩, rfl⟩
   refine oD (stp_pick_t rfl hy84 rfl) rfl ?_
   obtain rfl := sI ey84
   exact ow_nil (jy 3 0)
  have ey84 := cond_f ey84 hy84
  refine oO rfl hy84 rfl (oO rfl hy84 rfl (oD (stp_pick_f rfl hy84 rfl) rfl ?_))
  obtain rfl := sI ey84
  exact ow_nil (jy 3 0)
 refine oS rfl (nn (cw_ret ?_))
 obtain rfl := sI H0
 exact kr Tryz.results6 (rT rfl) [] ⟨rfl, rfl⟩
end Go.Proofs.YtkohlcjdagckhaaGreatDoor
