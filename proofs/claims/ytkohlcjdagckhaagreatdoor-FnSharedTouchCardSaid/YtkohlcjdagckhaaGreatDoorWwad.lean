/- The walks: functions of the program return what their pure functions say. Printed by a program (gen.py). -/
import Derived.Test.YtkohlcjdagckhaaGreatDoorWp
import Derived.Test.YtkohlcjdagckhaaGreatDoorWt
import Derived.Test.YtkohlcjdagckhaaGreatDoorMan
import Derived.Test.YtkohlcjdagckhaaGreatDoorMap
import Derived.Test.YtkohlcjdagckhaaGreatDoorCpy
import Derived.Test.YtkohlcjdagckhaaGreatDoorWe
import Derived.Test.YtkohlcjdagckhaaGreatDoorWwab
import Derived.Test.YtkohlcjdagckhaaGreatDoorWwac
import Derived.Test.YtkohlcjdagckhaaGreatDoorWws
set_option linter.unusedSimpArgs false
set_option linter.unusedVariables false
set_option linter.unusedSectionVars false
namespace Go.Proofs.YtkohlcjdagckhaaGreatDoor
open Go.RowKit
set_option maxHeartbeats 4000000
set_option maxRecDepth 20000
variable {p0_0 p0_1 p0_2 p0_3 p1_0 p1_1 p1_2 p1_3 : Option Addr} {n0_0 n0_1 n0_2 n0_3 n1_0 n1_1 n1_2 n1_3 : Nat} {c0_0 c0_1 c0_2 c0_3 c1_0 c1_1 c1_2 c1_3 : Nat}
theorem c_slices_IndexFunc_Frame_of_i_Table_find_1 (fl : Nat) (w : World) (a0 : (List F)) (q1_0 : Nat) (a1_0 : K) (hn0_0 : n0_0 = (a0).length) (hr0_0 : RO w (hkeys []) (RdL p0_0 c0_0 a0)) (hba1_0 : RO w (hkeys []) (fun w' => w'.rangeAt q1_0 0 [.int .i64 a1_0.s, .int .i64 a1_0.p])) (r : Int) (H0 : slices_IndexFunc_Frame_of_i_Table_find_1 fl a0 a1_0 = some r) :
  Ct Tryz.prog 115 [.slice p0_0 n0_0 c0_0, .func (.func 116) #[] #[.pointer (some ⟨q1_0, 0, none⟩)]] w [] (fun rv h' => rv = .int .i64 r ∧ h' = []) := by
 subst hn0_0
 unfold slices_IndexFunc_Frame_of_i_Table_find_1 at H0
 refine ct_of_cw Tryz.func115 rfl Tryz.ntmps115 rfl (Sat.refl _ _) ?_
 obtain ⟨o0_0, eo0_0, H0⟩ := bS H0
 refine sr (oS rfl (nn (cw_seq (sr (oM rfl (oD (stp_len Tryz.underlying24 rfl) rfl (oM rfl (nn (cw_join (ι := Int) (fun | v1 => o0_0 = .out v1) (fun | v1 => [(0, .slice p0_0 ((a0).length) c0_0), (1, .func (.func 116) #[] #[.pointer (some ⟨q1_0, 0, none⟩)]), (7, .int .i64 ((a0).length : Int)), (8, .int .i64 v1)]) (fun | v1 => []) ?_ ?_)))))))))
 ·refine cw_block (cw_loopS (ι := Nat × Int) (js := []) (fun x => x.1) (fun | (fuel, v1) => slices_IndexFunc_Frame_of_i_Table_find_1_L0 fl a0 a1_0 fuel v1 = some o0_0) (fun | (_, v1) => [(0, .slice p0_0 ((a0).length) c0_0), (1, .func (.func 116) #[] #[.pointer (some ⟨q1_0, 0, none⟩)]), (7, .int .i64 ((a0).length : Int)), (8, .int .i64 v1)]) (fun | (_, v1) => []) (fl, 0) eo0_0 ⟨rfl, rfl, rfl, rfl, trivial⟩ trivial (by decide) ?_)
  rintro ⟨fuel, v1⟩ H1
  have H1 : slices_IndexFunc_Frame_of_i_Table_find_1_L0 fl a0 a1_0 fuel v1 = some o0_0 := H1
  rcases fuel with _ | fuel
  ·rw [slices_IndexFunc_Frame_of_i_Table_find_1_L0.eq_1] at H1; cases H1
  rw [slices_IndexFunc_Frame_of_i_Table_find_1_L0.eq_2] at H1
  dsimp only
  refine sr (oW rfl (nn (cw_seq (cw_cond rfl (fun h2 => ?_) (fun h2 => ?_)))))
  ·have H1 := cond_t H1 h2
   obtain ⟨x3, e3, H1⟩ := bS H1
   refine cw_skip (kw_nx (cw_seq (cw_block (sr (oM rfl (oS rfl (nn (sr (oM rfl (oM rfl (oM rfl (oD (stp_indexAddr Tryz.underlying24 ts58 (by decide) rfl rfl rfl (Rdb.ro hr0_0) e3) rfl (oD (stp_loadN (us := [_, _, _, _, _]) ts58 rfl (Cells.el (Rdb.ro hr0_0) (by decide) e3 0 5 rfl)) rfl ?_)))))))))))))
   obtain ⟨x4, e4, H1⟩ := bS H1
   refine oE (stpU_callF (vals := [_]) (ca := [_]) (fun i => 0 + i) cf116 (fun w hw => c_i_Table_find_1 fl w x3 q1_0 a1_0 (RO.pass hba1_0 hw) x4 e4) rfl (yA rfl)) rfl ?_
   rintro _ _ ⟨_, ⟨rfl, rfl⟩, rfl⟩
   refine nn (cw_cond rfl (fun h5 => ?_) (fun h5 => ?_))
   ·have H1 := cond_t H1 h5
    refine sr (oM rfl (oS rfl (nn (cw_ret (kw_bl_ret (kw_nx_ret (kw_lq_ret (kw_bl_ret (kw_join_ret (kw_nx_ret ?_))))))))))
    obtain rfl := sI H1
    obtain rfl := sI H0
    exact kr Tryz.results115 (rT rfl) [] ⟨rfl, rfl⟩
   have H1 := cond_f H1 h5
   obtain ⟨x6, e6, H1⟩ := bS H1
   exact cw_skip (kw_bl_normal (kw_nx (cw_region (oP e6 rfl (oM rfl (ow_nil (kw_lqS (js := []) (fuel, x6) H1 (Nat.lt_succ_self _) ⟨rfl, rfl, rfl, rfl, trivial⟩ trivial (by decide))))))))
  have H1 := cond_f H1 h2
  refine cw_exit (kw_nx_exit (kw_lq_exit (kw_bl ?_)))
  obtain rfl := sI H1
  exact kw_joinS (js := []) v1 rfl ⟨rfl, rfl, rfl, rfl, trivial⟩ trivial (by decide)
 rintro v1 rfl
 dsimp only
 refine kw_nx (sr (oS rfl (nn (cw_ret ?_))))
 obtain rfl := sI H0
 exact kr Tryz.results115 (rT rfl) [] ⟨rfl, rfl⟩

theorem c_i_Table_find (fl : Nat) (w : World) (a0 : T) (a1 : K) (hn0_0 : n0_0 = (a0.b).length) (hr0_0 : RO w (hkeys []) (RdL p0_0 c0_0 a0.b)) (hn0_1 : n0_1 = (a0.f).length) (hr0_1 : RO w (hkeys []) (RdL p0_1 c0_1 a0.f)) (r : Int) (H0 : i_Table_find fl a0 a1 = some r) :
  Ct Tryz.prog 59 [.agg #[.slice p0_0 n0_0 c0_0, .slice p0_1 n0_1 c0_1], .agg #[.int .i64 a1.s, .int .i64 a1.p]] w [] (fun rv h' => rv = .int .i64 r ∧ h' = []) := by
 subst hn0_0 hn0_1
 unfold i_Table_find at H0
 refine ct_of_cw Tryz.func59 rfl Tryz.ntmps59 rfl (Sat.refl _ _) ?_
 refine sr (oE (stpU_box 0 rfl rfl) rfl ?_)
 rintro _ _ ⟨b1, rfl, rfl⟩
 refine oE (stpU_box 1 rfl rfl) rfl ?_
 rintro _ _ ⟨b2, rfl, rfl⟩
 obtain ⟨x3, e3, H0⟩ := bS H0
 refine oS rfl (nn (sr (oA 1 Tryz.underlying26 rfl ts24 rfl (oL 0 ts24 rfl (oD (stp_makeFunc (yA rfl)) rfl (oE (stpU_call (fun i => 2 + i) cf115 (fun w hw => c_slices_IndexFunc_Frame_of_i_Table_find_1 fl w a0.f b2 a1 rfl (RO.pass hr0_1 hw) (box_pass (id := 1) rfl hw) x3 e3) (yB rfl rfl)) rfl ?_))))))
 rintro _ _ ⟨_, ⟨rfl, rfl⟩, rfl⟩
 refine oS rfl (nn (cw_ret ?_))
 obtain rfl := sI H0
 exact kr Tryz.results59 (rT rfl) [] ⟨rfl, rfl⟩

theorem c_i_MachineValid (fl : Nat) (w : World) (a0 : Mc) (hn0_0 : n0_0 = (a0.t.b).length) (hr0_0 : RO w (hkeys []) (RdL p0_0 c0_0 a0.t.b)) (hn0_1 : n0_1 = (a0.t.f).length) (hr0_1 : RO w (hkeys []) (RdL p0_1 c0_1 a0.t.f)) (hn0_2 : n0_2 = (a0.c.l).length) (hr0_2 : RO w (hkeys []) (RdL p0_2 c0_2 a0.c.l)) (hn0_3 : n0_3 = (a0.g.o).length) (hr0_3 : RO w (hkeys []) (RdL p0_3 c0_3 a0.g.o)) (hg : RO w (hkeys []) (fun w' => w'.rangeAt 0 0 [.bool false, .int .i64 0, .int .i64 0, .int .i64 0, .int .i64 (-1)])) (r : Bool) (H0 : i_MachineValid fl a0 = some r) :
  Ct Tryz.prog 19 [.agg #[.slice p0_0 n0_0 c0_0, .slice p0_1 n0_1 c0_1, .slice p0_2 n0_2 c0_2, .int .i64 a0.c.h, .int .i64 a0.g.c, .int .i64 a0.g.n, .int .i64 a0.g.r, .slice p0_3 n0_3 c0_3, .int .i64 a0.s]] w [] (fun rv h' => rv = .bool r ∧ h' = []) := by
 subst hn0_0 hn0_1 hn0_2 hn0_3
 unfold i_MachineValid at H0
 refine ct_of_cw Tryz.func19 rfl Tryz.ntmps19 rfl (Sat.refl _ _) ?_
 refine sr (oE (stpU_box 0 rfl rfl) rfl ?_)
 rintro _ _ ⟨b1, rfl, rfl⟩
 obtain ⟨x2, e2, H0⟩ := bS H0
 refine oS rfl (nn (cw_seq (sr (oA 0 Tryz.underlying34 rfl ts26 rfl (oB2 0 ts26 rfl (oE (stpU_call (fun i => 1 + i) cf54 (fun w hw => c_i_TableValid fl w a0.t rfl (RO.pass hr0_0 hw) rfl (RO.pass hr0_1 hw) (RO.pass hg hw) x2 e2) (yA rfl)) rfl ?_))))))
 rintro _ _ ⟨_, ⟨rfl, rfl⟩, rfl⟩
 obtain ⟨y3, ey3, H0⟩ := bS H0
 refine oK rfl (oM rfl (ow_cutY 5 21 y3 ?_ ?_))
 ·rcases Bool.eq_false_or_eq_true (!x2) with hy3 | hy3
  ·have ey3 := cond_t ey3 hy3
   refine oO rfl hy3 rfl (oO rfl hy3 rfl (oO rfl hy3 rfl (oO rfl hy3 rfl (oD (stp_pick_t rfl hy3 rfl) rfl ?_))))
   obtain rfl := sI ey3
   exact ow_nil (jy 5 0)
  have ey3 := cond_f ey3 hy3
  obtain ⟨x4, e4, ey3⟩ := bS ey3
  refine oG rfl hy3 (fA 2 Tryz.underlying34 rfl ts29 rfl rfl rfl) rfl (oG rfl hy3 (stp_loadN (us := [_, _]) ts29 rfl (Cells.box (id := 0) rfl 2 rfl)) rfl (ow_eff (.some rfl hy3) (stpU_call (fun i => 1 + i) cf55 (fun w hw => c_i_CacheValid fl w a0.c rfl (RO.pass hr0_2 hw) x4 e4) (yA rfl)) rfl ?_))
  rintro _ _ ⟨_, ⟨rfl, rfl⟩, rfl⟩
  refine oG rfl hy3 (stp_not rfl) rfl (oD (stp_pick_f rfl hy3 rfl) rfl ?_)
  obtain rfl := sI ey3
  exact ow_nil (jy 5 0)
 obtain ⟨y5, ey5, H0⟩ := bS H0
 refine oM rfl (ow_cutY 5 27 y5 ?_ ?_)
 ·rcases Bool.eq_false_or_eq_true y3 with hy5 | hy5
  ·have ey5 := cond_t ey5 hy5
   refine oO rfl hy5 rfl (oO rfl hy5 rfl (oO rfl hy5 rfl (oO rfl hy5 rfl (oD (stp_pick_t rfl hy5 rfl) rfl ?_))))
   obtain rfl := sI ey5
   exact ow_nil (jy 5 0)
  have ey5 := cond_f ey5 hy5
  obtain ⟨x6, e6, ey5⟩ := bS ey5
  refine oG rfl hy5 (fA 4 Tryz.underlying34 rfl ts32 rfl rfl rfl) rfl (oG rfl hy5 (stp_loadN (us := [_, _, _, _]) ts32 rfl (Cells.box (id := 0) rfl 4 rfl)) rfl (ow_eff (.some rfl hy5) (stpU_call (fun i => 1 + i) cf56 (fun w hw => c_i_TagsValid fl w a0.g rfl (RO.pass hr0_3 hw) x6 e6) (yA rfl)) rfl ?_))
  rintro _ _ ⟨_, ⟨rfl, rfl⟩, rfl⟩
  refine oG rfl hy5 (stp_not rfl) rfl (oD (stp_pick_f rfl hy5 rfl) rfl ?_)
  obtain rfl := sI ey5
  exact ow_nil (jy 5 0)
 obtain ⟨y7, ey7, H0⟩ := bS H0
 refine oM rfl (ow_cutY 7 35 y7 ?_ ?_)
 ·rcases Bool.eq_false_or_eq_true y5 with hy7 | hy7
  ·have ey7 := cond_t ey7 hy7
   refine oO rfl hy7 rfl (oO rfl hy7 rfl (oO rfl hy7 rfl (oO rfl hy7 rfl (oO rfl hy7 rfl (oO rfl hy7 rfl (oD (stp_pick_t rfl hy7 rfl) rfl ?_))))))
   obtain rfl := sI ey7
   exact ow_nil (jy 7 0)
  have ey7 := cond_f ey7 hy7
  obtain ⟨x8, e8, ey7⟩ := bS ey7
  refine oG rfl hy7 (fA 4 Tryz.underlying34 rfl ts32 rfl rfl rfl) rfl (oG rfl hy7 (stp_loadN (us := [_, _, _, _]) ts32 rfl (Cells.box (id := 0) rfl 4 rfl)) rfl (oG rfl hy7 (fA 8 Tryz.underlying34 rfl ts3 rfl rfl rfl) rfl (oG rfl hy7 (lB 0 ts3 rfl rfl rfl) rfl (ow_eff (.some rfl hy7) (stpU_call (fun i => 1 + i) cf57 (fun w hw => c_i_Tags_own fl w a0.g a0.s rfl (RO.pass hr0_3 hw) x8 e8) (yB rfl rfl)) rfl ?_))))
  rintro _ _ ⟨_, ⟨rfl, rfl⟩, rfl⟩
  refine oG rfl hy7 (stp_lss rfl rfl) rfl (oD (stp_pick_f rfl hy7 rfl) rfl ?_)
  obtain rfl := sI ey7
  exact ow_nil (jy 7 0)
 refine ow_nil (kw_nx (cw_cond rfl (fun h9 => ?_) (fun h9 => ?_)))
 ·have H0 := cond_t H0 h9
  refine sr (oS rfl (nn (cw_ret (kw_nx_ret ?_))))
  obtain rfl := sI H0
  exact kr Tryz.results19 (rT rfl) [] ⟨rfl, rfl⟩
 have H0 := cond_f H0 h9
 obtain ⟨o0_0, eo0_0, H0⟩ := bS H0
 refine cw_skip (kw_nx (cw_seq (sr (oA 0 Tryz.underlying34 rfl ts26 rfl (oA 1 Tryz.underlying26 rfl ts24 rfl (oL 0 ts24 rfl (oD (stp_len Tryz.underlying24 rfl) rfl (oM rfl (nn (cw_join (ι := Int) (fun | v10 => o0_0 = .out v10) (fun | v10 => [(1, .pointer (some ⟨b1, 0, none⟩)), (38, .slice p0_1 ((a0.t.f).length) c0_1), (39, .int .i64 ((a0.t.f).length : Int)), (40, .int .i64 v10)]) (fun | v10 => [(0, [(b1, .cells #[.slice p0_0 ((a0.t.b).length) c0_0, .slice p0_1 ((a0.t.f).length) c0_1, .slice p0_2 ((a0.c.l).length) c0_2, .int .i64 a0.c.h, .int .i64 a0.g.c, .int .i64 a0.g.n, .int .i64 a0.g.r, .slice p0_3 ((a0.g.o).length) c0_3, .int .i64 a0.s] 34 (0, 0))])]) ?_ ?_))))))))))
 ·refine cw_block (cw_loopS (ι := Nat × Int) (js := [0]) (fun x => x.1) (fun | (fuel, v10) => i_MachineValid_L0 fl a0 fuel v10 = some o0_0) (fun | (_, v10) => [(1, .pointer (some ⟨b1, 0, none⟩)), (38, .slice p0_1 ((a0.t.f).length) c0_1), (39, .int .i64 ((a0.t.f).length : Int)), (40, .int .i64 v10)]) (fun | (_, v10) => [(0, [(b1, .cells #[.slice p0_0 ((a0.t.b).length) c0_0, .slice p0_1 ((a0.t.f).length) c0_1, .slice p0_2 ((a0.c.l).length) c0_2, .int .i64 a0.c.h, .int .i64 a0.g.c, .int .i64 a0.g.n, .int .i64 a0.g.r, .slice p0_3 ((a0.g.o).length) c0_3, .int .i64 a0.s] 34 (0, 0))])]) (fl, 0) eo0_0 ⟨rfl, rfl, rfl, rfl, trivial⟩ ⟨0, [], rfl, rfl, trivial⟩ (by decide) ?_)
  rintro ⟨fuel, v10⟩ H1
  have H1 : i_MachineValid_L0 fl a0 fuel v10 = some o0_0 := H1
  rcases fuel with _ | fuel
  ·rw [i_MachineValid_L0.eq_1] at H1; cases H1
  rw [i_MachineValid_L0.eq_2] at H1
  dsimp only
  refine sr (oW rfl (nn (cw_seq (cw_cond rfl (fun h11 => ?_) (fun h11 => ?_)))))
  ·have H1 := cond_t H1 h11
   obtain ⟨x12, e12, H1⟩ := bS H1
   refine cw_skip (kw_nx (cw_seq (cw_block (sr (oD (stp_indexAddr Tryz.underlying24 ts58 (by decide) rfl rfl rfl (Rdb.ro hr0_1) e12) rfl (oD (stp_loadN (us := [_, _, _, _, _]) ts58 rfl (Cells.el (Rdb.ro hr0_1) (by decide) e12 0 5 rfl)) rfl (oE (stpU_alloc 1 tz58 rfl) rfl ?_)))))))
   rintro _ _ ⟨b13, rfl, rfl⟩
   obtain ⟨y14, ey14, H1⟩ := bS H1
   refine oC5 1 ts58 rfl rfl (nn (sr (oA 0 Tryz.underlying58 rfl ts4 rfl (oL 1 ts4 rfl (oM rfl (ow_cutY 5 51 y14 ?_ ?_))))))
   ·rcases Bool.eq_false_or_eq_true x12.u with hy14 | hy14
    ·have ey14 := cond_t ey14 hy14
     refine oG rfl hy14 (fA 1 Tryz.underlying58 rfl ts47 rfl rfl rfl) rfl (oG rfl hy14 (fA 1 Tryz.underlying47 rfl ts3 rfl rfl rfl) rfl (oG rfl hy14 (lB 1 ts3 rfl rfl rfl) rfl (oG rfl hy14 (stp_geq rfl rfl) rfl (oD (stp_pick_t rfl hy14 rfl) rfl ?_))))
     obtain rfl := sI ey14
     exact ow_nil (jy 5 0)
    have ey14 := cond_f ey14 hy14
    refine oO rfl hy14 rfl (oO rfl hy14 rfl (oO rfl hy14 rfl (oO rfl hy14 rfl (oD (stp_pick_f rfl hy14 rfl) rfl ?_))))
    obtain rfl := sI ey14
    exact ow_nil (jy 5 0)
   obtain ⟨y15, ey15, H1⟩ := bS H1
   refine oM rfl (ow_cutY 5 57 y15 ?_ ?_)
   ·rcases Bool.eq_false_or_eq_true y14 with hy15 | hy15
    ·have ey15 := cond_t ey15 hy15
     refine oG rfl hy15 (fA 1 Tryz.underlying58 rfl ts47 rfl rfl rfl) rfl (oG rfl hy15 (fA 0 Tryz.underlying47 rfl ts3 rfl rfl rfl) rfl (oG rfl hy15 (lB 1 ts3 rfl rfl rfl) rfl (oG rfl hy15 (stp_neq rfl rfl) rfl (oD (stp_pick_t rfl hy15 rfl) rfl ?_))))
     obtain rfl := sI ey15
     exact ow_nil (jy 5 0)
    have ey15 := cond_f ey15 hy15
    refine oO rfl hy15 rfl (oO rfl hy15 rfl (oO rfl hy15 rfl (oO rfl hy15 rfl (oD (stp_pick_f rfl hy15 rfl) rfl ?_))))
    obtain rfl := sI ey15
    exact ow_nil (jy 5 0)
   refine ow_nil (kw_nx (cw_cond rfl (fun h16 => ?_) (fun h16 => ?_)))
   ·have H1 := cond_t H1 h16
    refine sr (oS rfl (nn (cw_ret (kw_bl_ret (kw_nx_ret (kw_lq_ret (kw_bl_ret (kw_join_ret (kw_nx_ret ?_)))))))))
    obtain rfl := sI H1
    obtain rfl := sI H0
    exact kr Tryz.results19 (rT rfl) [] ⟨rfl, rfl⟩
   have H1 := cond_f H1 h16
   obtain ⟨x17, e17, H1⟩ := bS H1
   exact cw_skip (kw_bl_normal (kw_nx (cw_region (oP e17 rfl (oM rfl (ow_nil (kw_lqS (js := [0]) (fuel, x17) H1 (Nat.lt_succ_self _) ⟨rfl, rfl, rfl, rfl, trivial⟩ ⟨0, [], rfl, rfl, trivial⟩ (by decide))))))))
  have H1 := cond_f H1 h11
  refine cw_exit (kw_nx_exit (kw_lq_exit (kw_bl ?_)))
  obtain rfl := sI H1
  exact kw_joinS (js := [0]) v10 rfl ⟨rfl, rfl, rfl, rfl, trivial⟩ ⟨0, [], rfl, rfl, trivial⟩ (by decide)
 rintro v10 rfl
 dsimp only
 obtain ⟨o0_1, eo0_1, H0⟩ := bS H0
 refine kw_nx (cw_seq (sr (oA 2 Tryz.underlying34 rfl ts29 rfl (oA 0 Tryz.underlying29 rfl ts27 rfl (oL 0 ts27 rfl (oD (stp_len Tryz.underlying27 rfl) rfl (oM rfl (nn (cw_join (ι := Int) (fun | v18 => o0_1 = .out v18) (fun | v18 => [(1, .pointer (some ⟨b1, 0, none⟩)), (61, .slice p0_2 ((a0.c.l).length) c0_2), (62, .int .i64 ((a0.c.l).length : Int)), (63, .int .i64 v18)]) (fun | v18 => [(0, [(b1, .cells #[.slice p0_0 ((a0.t.b).length) c0_0, .slice p0_1 ((a0.t.f).length) c0_1, .slice p0_2 ((a0.c.l).length) c0_2, .int .i64 a0.c.h, .int .i64 a0.g.c, .int .i64 a0.g.n, .int .i64 a0.g.r, .slice p0_3 ((a0.g.o).length) c0_3, .int .i64 a0.s] 34 (0, 0))])]) ?_ ?_)))))))))
 ·refine cw_block (cw_loopS (ι := Nat × Int) (js := [0]) (fun x => x.1) (fun | (fuel, v18) => i_MachineValid_L1 fl a0 fuel v18 = some o0_1) (fun | (_, v18) => [(1, .pointer (some ⟨b1, 0, none⟩)), (61, .slice p0_2 ((a0.c.l).length) c0_2), (62, .int .i64 ((a0.c.l).length : Int)), (63, .int .i64 v18)]) (fun | (_, v18) => [(0, [(b1, .cells #[.slice p0_0 ((a0.t.b).length) c0_0, .slice p0_1 ((a0.t.f).length) c0_1, .slice p0_2 ((a0.c.l).length) c0_2, .int .i64 a0.c.h, .int .i64 a0.g.c, .int .i64 a0.g.n, .int .i64 a0.g.r, .slice p0_3 ((a0.g.o).length) c0_3, .int .i64 a0.s] 34 (0, 0))])]) (fl, 0) eo0_1 ⟨rfl, rfl, rfl, rfl, trivial⟩ ⟨0, [], rfl, rfl, trivial⟩ (by decide) ?_)
  rintro ⟨fuel, v18⟩ H1
  have H1 : i_MachineValid_L1 fl a0 fuel v18 = some o0_1 := H1
  rcases fuel with _ | fuel
  ·rw [i_MachineValid_L1.eq_1] at H1; cases H1
  rw [i_MachineValid_L1.eq_2] at H1
  dsimp only
  refine sr (oW rfl (nn (cw_seq (cw_cond rfl (fun h19 => ?_) (fun h19 => ?_)))))
  ·have H1 := cond_t H1 h19
   obtain ⟨x20, e20, H1⟩ := bS H1
   refine cw_skip (kw_nx (cw_seq (cw_block (sr (oD (stp_indexAddr Tryz.underlying27 ts41 (by decide) rfl rfl rfl (Rdb.ro hr0_2) e20) rfl (oD (stp_loadN (us := [_, _, _, _, _, _]) ts41 rfl (Cells.el (Rdb.ro hr0_2) (by decide) e20 0 6 rfl)) rfl (oE (stpU_alloc 2 tz41 rfl) rfl ?_)))))))
   rintro _ _ ⟨b21, rfl, rfl⟩
   refine oC6 2 ts41 rfl rfl (nn (cw_seq (sr (oA 0 Tryz.underlying41 rfl ts4 rfl (oL 2 ts4 rfl (oK rfl (nn (cw_cond rfl (fun h22 => ?_) (fun h22 => ?_)))))))))
   ·have H1 := cond_t H1 h22
    obtain ⟨x23, e23, H1⟩ := bS H1
    exact cw_exit (kw_nx_exit (kw_bl (kw_nx (cw_region (oP e23 rfl (oM rfl (ow_nil (kw_lqS (js := [0]) (fuel, x23) H1 (Nat.lt_succ_self _) ⟨rfl, rfl, rfl, rfl, trivial⟩ ⟨0, [], rfl, rfl, trivial⟩ (by decide)))))))))
   have H1 := cond_f H1 h22
   refine cw_skip (kw_nx (sr (oA 2 Tryz.underlying41 rfl ts3 rfl (oL 2 ts3 rfl (oI rfl (oS rfl (nn (cw_seq (sr (oM rfl (oA 1 Tryz.underlying41 rfl ts3 rfl (oL 2 ts3 rfl (oQ rfl ?_)))))))))))))
   obtain ⟨y24, ey24, H1⟩ := bS H1
   refine oD (stp_neqB Tryz.underlying4 rfl rfl) rfl (oM rfl (ow_cutY 7 85 y24 ?_ ?_))
   ·rcases Bool.eq_false_or_eq_true ((decide (128 ≤ x20.pg)) != (x20.tg == (-1))) with hy24 | hy24
    ·have ey24 := cond_t ey24 hy24
     refine oO rfl hy24 rfl (oO rfl hy24 rfl (oO rfl hy24 rfl (oX rfl rfl rfl (oX rfl rfl rfl (oO rfl hy24 rfl (oD (stp_pick_t rfl hy24 rfl) rfl ?_))))))
     obtain rfl := sI ey24
     exact ow_nil (jy 7 0)
    have ey24 := cond_f ey24 hy24
    obtain ⟨y25, ey25, ey24⟩ := bS ey24
    refine oG rfl hy24 (fA 5 Tryz.underlying41 rfl ts4 rfl rfl rfl) rfl (oG rfl hy24 (lB 2 ts4 rfl rfl rfl) rfl (oG rfl hy24 (mv rfl) rfl (ow_cutY 3 84 y25 ?_ ?_)))
    ·rcases Bool.eq_false_or_eq_true x20.wi with hy25 | hy25
     ·have ey25 := cond_t ey25 hy25
      refine oG rfl hy25 (mv rfl) rfl (oG rfl hy25 (stp_not rfl) rfl (oG rfl hy24 (stp_pick_t rfl hy25 rfl) rfl ?_))
      obtain rfl := sI ey25
      exact ow_nil (jy 3 0)
     have ey25 := cond_f ey25 hy25
     refine oO rfl hy25 rfl (oO rfl hy25 rfl (oG rfl hy24 (stp_pick_f rfl hy25 rfl) rfl ?_))
     obtain rfl := sI ey25
     exact ow_nil (jy 3 0)
    refine oD (stp_pick_f rfl hy24 rfl) rfl ?_
    obtain rfl := sI ey24
    exact ow_nil (jy 5 0)
   refine ow_nil (kw_nx (cw_cond rfl (fun h26 => ?_) (fun h26 => ?_)))
   ·have H1 := cond_t H1 h26
    refine sr (oS rfl (nn (cw_ret (kw_nx_ret (kw_bl_ret (kw_nx_ret (kw_lq_ret (kw_bl_ret (kw_join_ret (kw_nx_ret ?_))))))))))
    obtain rfl := sI H1
    obtain rfl := sI H0
    exact kr Tryz.results19 (rT rfl) [] ⟨rfl, rfl⟩
   have H1 := cond_f H1 h26
   refine cw_skip (kw_nx (sr (oS rfl (nn (cw_seq (sr (oM rfl (oK rfl (nn (cw_cond rfl (fun h27 => ?_) (fun h27 => ?_)))))))))))
   ·have H1 := cond_t H1 h27
    obtain ⟨x28, e28, H1⟩ := bS H1
    refine sr (oA 4 Tryz.underlying34 rfl ts32 rfl (oB4 0 ts32 rfl (oA 1 Tryz.underlying41 rfl ts3 rfl (oL 2 ts3 rfl (oE (stpU_call (fun i => 3 + i) cf58 (fun w hw => c_i_SpaceOf fl w a0.g x20.tg rfl (RO.pass hr0_3 hw) x28 e28) (yB rfl rfl)) rfl ?_)))))
    rintro _ _ ⟨_, ⟨rfl, rfl⟩, rfl⟩
    refine oM rfl (oT rfl (oT rfl (oS rfl (oS rfl (nn (cw_seq (sr (oM rfl (oK rfl (nn (cw_cond rfl (fun h29 => ?_) (fun h29 => ?_))))))))))))
    ·have H1 := cond_t H1 h29
     refine sr (oS rfl (nn (cw_ret (kw_nx_ret (kw_nx_ret (kw_bl_ret (kw_nx_ret (kw_lq_ret (kw_bl_ret (kw_join_ret (kw_nx_ret ?_)))))))))))
     obtain rfl := sI H1
     obtain rfl := sI H0
     exact kr Tryz.results19 (rT rfl) [] ⟨rfl, rfl⟩
    have H1 := cond_f H1 h29
    obtain ⟨x30, e30, H1⟩ := bS H1
    obtain ⟨x31, e31, H1⟩ := bS H1
    refine cw_skip (kw_nx (cw_region (oM rfl (oS rfl (nn (cw_seq (rdq g_mixed [1, 6, 8] [0, 2] { dst := dS [100, 101, 102, 103, 104, 105, 106, 12], pre := gA [] [[], [0], [], [], [3], [2, 3, 4], rn 0 6, rn 0 7], ids := fun _ => [], rs := rL [[(1, 0)], [(99, 1)], [(8, 0)], [(6, 0)], [(102, 4)], [(101, 3), (103, 5)], [(100, 2), (104, 6)], [(105, 7)]], rh := rL [[], [(0, 0)], [], [], [(2, 0)]], V := fun i g => gA undef [.pointer (some ⟨b1, 0, none⟩), .agg #[.slice p0_0 ((a0.t.b).length) c0_0, .slice p0_1 ((a0.t.f).length) c0_1], .int .i64 x28.1, .pointer (some ⟨b21, 2, none⟩), .int .i64 x20.pg, .agg #[.int .i64 x30.s, .int .i64 x30.p], .int .i64 x31, .int .i64 x31] i, U := fun _ _ => [], Φ := fun _ _ => True } ?_ ?_)))))))
    ·refine ⟨lc rfl rfl fun hs hh => stp_fieldAddr (j := 0) Tryz.underlying34 rfl ts26 rfl (sv hs 1 rfl) rfl, lc rfl rfl fun hs hh => stp_loadN (us := [_, _]) ts26 (sv hs 99 rfl) (Cells.box (id := 0) (hh.get 0 _ rfl) 2 rfl), lM, lc rfl rfl fun hs hh => stp_fieldAddr (j := 2) Tryz.underlying41 rfl ts3 rfl (sv hs 6 rfl) rfl, lc rfl rfl fun hs hh => stp_load1 ts3 (sv hs 102 rfl) (Cells.box (id := 2) (hh.get 2 _ rfl) 1 rfl), ?_, ?_, lS, trivial⟩
     ·refine le rfl rfl (fun g hΦ s h hs hh => (stpU_call (fun i => 3 + i) cf34 (fun w hw => c_i_KeyFor fl w x28.1 x20.pg x30 e30) (yB (sv hs 101 rfl) (sv hs 103 rfl)))) ?_
      rintro g _ _ ⟨_, ⟨rfl, rfl⟩, rfl⟩
      exact ⟨⟨[], [], []⟩, trivial, .inr rfl, rfl⟩
     refine le rfl rfl (fun g hΦ s h hs hh => (stpU_call (fun i => 3 + i) cf59 (fun w hw => c_i_Table_find fl w a0.t x30 rfl (RO.pass hr0_0 hw) rfl (RO.pass hr0_1 hw) x31 e31) (yB (sv hs 100 rfl) (sv hs 104 rfl)))) ?_
     rintro g _ _ ⟨_, ⟨rfl, rfl⟩, rfl⟩
     exact ⟨⟨[], [], []⟩, trivial, .inr rfl, rfl⟩
    intro g hΦ
    refine KW.sub (s' := [(1, .pointer (some ⟨b1, 0, none⟩)), (6, .pointer (some ⟨b21, 0, none⟩)), (11, .int .i64 x31), (61, .slice p0_2 ((a0.c.l).length) c0_2), (62, .int .i64 ((a0.c.l).length : Int)), (63, .int .i64 v18)]) (h' := [(0, [(b1, .cells #[.slice p0_0 ((a0.t.b).length) c0_0, .slice p0_1 ((a0.t.f).length) c0_1, .slice p0_2 ((a0.c.l).length) c0_2, .int .i64 a0.c.h, .int .i64 a0.g.c, .int .i64 a0.g.n, .int .i64 a0.g.r, .slice p0_3 ((a0.g.o).length) c0_3, .int .i64 a0.s] 34 (0, 0))]), (2, [(b21, .cells #[.bool x20.va, .int .i64 x20.tg, .int .i64 x20.pg, .int .i64 x20.fr, .int .i64 x20.ri, .bool x20.wi] 41 (0, 0))])]) ?_ ⟨rfl, rfl, rfl, rfl, rfl, rfl, trivial⟩ ⟨rfl, rfl, trivial⟩
    obtain ⟨y32, ey32, H1⟩ := bS H1
    obtain ⟨y33, ey33, H1⟩ := bS H1
    refine kw_nx (cw_seq (cw_join (ι := Unit) (fun | _ => True) (fun | _ => [(1, .pointer (some ⟨b1, 0, none⟩)), (61, .slice p0_2 ((a0.c.l).length) c0_2), (62, .int .i64 ((a0.c.l).length : Int)), (63, .int .i64 v18), (125, .bool y33)]) (fun | _ => [(0, [(b1, .cells #[.slice p0_0 ((a0.t.b).length) c0_0, .slice p0_1 ((a0.t.f).length) c0_1, .slice p0_2 ((a0.c.l).length) c0_2, .int .i64 a0.c.h, .int .i64 a0.g.c, .int .i64 a0.g.n, .int .i64 a0.g.r, .slice p0_3 ((a0.g.o).length) c0_3, .int .i64 a0.s] 34 (0, 0))])]) ?_ ?_))
    ·rcases Bool.eq_false_or_eq_true (decide (x31 < 0)) with hy32 | hy32
     ·have ey32 := cond_t ey32 hy32
      have qy32 := sI ey32
      have hy33 : y32 = true := by rw [← qy32]
      have ey33 := cond_t ey33 hy33
      have qy33 := sI ey33
      refine rdq g_mixed [11] [] { dst := dS [107, 108, 109, 110, 111, 112, 113, 114, 115, 116, 117, 118, 119, 120, 121, 122, 123, 124, 125, 126], pre := gA [] [[], [0], [0, 1], [0, 1, 2], [0, 1, 2], [0, 1, 2, 4], rn 0 6, rn 0 7, rn 0 8, rn 0 9, rn 0 10, rn 0 11, rn 0 9, rn 0 13, rn 0 14, rn 0 15, rn 0 9, [0, 1, 2, 3, 4, 5, 6, 7, 8, 16], rn 0 18, rn 0 19], ids := fun _ => [], rs := rL [[(11, 0)], [(106, 1)], [(107, 2)], [(108, 3)], [(108, 3)], [(108, 3)], [(108, 3)], [(108, 3), (112, 7)], [(113, 8)], [(114, 9)], [(114, 9)], [(114, 9)], [(114, 9)], [(114, 9)], [(114, 9)], [(114, 9)], [(114, 9)], [(114, 9)], [(114, 9)], [(114, 9), (124, 19)]], rh := fun _ => [], V := fun i g => gA undef [.int .i64 x31, .bool (decide (x31 < 0)), .bool (decide (x31 < 0)), undef, undef, undef, undef, .bool y32, .bool y32, undef, undef, undef, undef, undef, undef, undef, undef, undef, undef, .bool y33] i, U := fun _ _ => [], Φ := fun _ _ => True } ?_ ?_
      ·exact ⟨lM, lc rfl rfl fun hs hh => stp_lss (sv hs 106 rfl) rfl, lM, lo rfl rfl 108 hy32, lo rfl rfl 108 hy32, lo rfl rfl 108 hy32, lo rfl rfl 108 hy32, lc rfl rfl fun hs hh => stp_pick_tB (sv hs 108 rfl) hy32 rfl qy32, lM, lo rfl rfl 114 hy33, lo rfl rfl 114 hy33, lo rfl rfl 114 hy33, lo rfl rfl 114 hy33, lo rfl rfl 114 hy33, lo rfl rfl 114 hy33, lo rfl rfl 114 hy33, lo rfl rfl 114 hy33, lo rfl rfl 114 hy33, lo rfl rfl 114 hy33, lc rfl rfl fun hs hh => stp_pick_tB (sv hs 114 rfl) hy33 rfl qy33, trivial⟩
      intro g hΦ
      exact kw_join () trivial ⟨rfl, rfl, rfl, rfl, rfl, trivial⟩ ⟨rfl, trivial⟩
     have ey32 := cond_f ey32 hy32
     have qy32 := sI ey32
     rcases Bool.eq_false_or_eq_true y32 with hy33 | hy33
     ·have ey33 := cond_t ey33 hy33
      have qy33 := sI ey33
      refine rdq g_mixed [6, 11] [2] { dst := dS [107, 108, 109, 110, 111, 112, 113, 114, 115, 116, 117, 118, 119, 120, 121, 122, 123, 124, 125, 126], pre := gA [] [[], [0], [0, 1], [0, 1, 2], [0, 1, 2], [0, 1, 2, 4], rn 0 6, rn 0 7, rn 0 8, rn 0 9, rn 0 10, rn 0 11, rn 0 9, rn 0 13, rn 0 14, rn 0 15, rn 0 9, [0, 1, 2, 3, 4, 5, 6, 7, 8, 16], rn 0 18, rn 0 19], ids := fun _ => [], rs := rL [[(11, 0)], [(106, 1)], [(107, 2)], [(11, 0), (108, 3)], [(6, 0), (108, 3)], [(110, 5), (108, 3)], [(109, 4), (111, 6), (108, 3)], [(108, 3), (112, 7)], [(113, 8)], [(114, 9)], [(114, 9)], [(114, 9)], [(114, 9)], [(114, 9)], [(114, 9)], [(114, 9)], [(114, 9)], [(114, 9)], [(114, 9)], [(114, 9), (124, 19)]], rh := rL [[], [], [], [], [], [(2, 0)]], V := fun i g => gA undef [.int .i64 x31, .bool (decide (x31 < 0)), .bool (decide (x31 < 0)), .int .i64 x31, .pointer (some ⟨b21, 3, none⟩), .int .i64 x20.fr, .bool (x31 != x20.fr), .bool y32, .bool y32, undef, undef, undef, undef, undef, undef, undef, undef, undef, undef, .bool y33] i, U := fun _ _ => [], Φ := fun _ _ => True } ?_ ?_
      ·exact ⟨lM, lc rfl rfl fun hs hh => stp_lss (sv hs 106 rfl) rfl, lM, lg rfl rfl 108 hy32 fun hs hh => stp_move (sv hs 11 rfl), lg rfl rfl 108 hy32 fun hs hh => stp_fieldAddr (j := 3) Tryz.underlying41 rfl ts3 rfl (sv hs 6 rfl) rfl, lg rfl rfl 108 hy32 fun hs hh => stp_load1 ts3 (sv hs 110 rfl) (Cells.box (id := 2) (hh.get 2 _ rfl) 1 rfl), lg rfl rfl 108 hy32 fun hs hh => stp_neq (sv hs 109 rfl) (sv hs 111 rfl), lc rfl rfl fun hs hh => stp_pick_fB (sv hs 108 rfl) hy32 (sv hs 112 rfl) qy32, lM, lo rfl rfl 114 hy33, lo rfl rfl 114 hy33, lo rfl rfl 114 hy33, lo rfl rfl 114 hy33, lo rfl rfl 114 hy33, lo rfl rfl 114 hy33, lo rfl rfl 114 hy33, lo rfl rfl 114 hy33, lo rfl rfl 114 hy33, lo rfl rfl 114 hy33, lc rfl rfl fun hs hh => stp_pick_tB (sv hs 114 rfl) hy33 rfl qy33, trivial⟩
      intro g hΦ
      exact kw_join () trivial ⟨rfl, rfl, rfl, rfl, rfl, trivial⟩ ⟨rfl, trivial⟩
     have ey33 := cond_f ey33 hy33
     obtain ⟨x34, e34, ey33⟩ := bS ey33
     have qy33 := sI ey33
     refine rdq g_mixed [1, 6, 11] [0, 2] { dst := dS [107, 108, 109, 110, 111, 112, 113, 114, 115, 116, 117, 118, 119, 120, 121, 122, 123, 124, 125, 126], pre := gA [] [[], [0], [0, 1], [0, 1, 2], [0, 1, 2], [0, 1, 2, 4], rn 0 6, rn 0 7, rn 0 8, rn 0 9, rn 0 10, rn 0 11, rn 0 9, rn 0 13, rn 0 14, rn 0 15, rn 0 9, [0, 1, 2, 3, 4, 5, 6, 7, 8, 16], rn 0 18, rn 0 19], ids := fun _ => [], rs := rL [[(11, 0)], [(106, 1)], [(107, 2)], [(11, 0), (108, 3)], [(6, 0), (108, 3)], [(110, 5), (108, 3)], [(109, 4), (111, 6), (108, 3)], [(108, 3), (112, 7)], [(113, 8)], [(1, 0), (114, 9)], [(115, 10), (114, 9)], [(116, 11), (114, 9)], [(11, 0), (114, 9)], [(117, 12), (118, 13), (114, 9)], [(119, 14), (114, 9)], [(120, 15), (114, 9)], [(6, 0), (114, 9)], [(122, 17), (114, 9)], [(121, 16), (123, 18), (114, 9)], [(114, 9), (124, 19)]], rh := rL [[], [], [], [], [], [(2, 0)], [], [], [], [], [], [(0, 0)], [], [], [], [], [], [(2, 0)]], V := fun i g => gA undef [.int .i64 x31, .bool (decide (x31 < 0)), .bool (decide (x31 < 0)), .int .i64 x31, .pointer (some ⟨b21, 3, none⟩), .int .i64 x20.fr, .bool (x31 != x20.fr), .bool y32, .bool y32, .pointer (some ⟨b1, 0, none⟩), .pointer (some ⟨b1, 1, none⟩), .slice p0_1 ((a0.t.f).length) c0_1, .int .i64 x31, .pointer (some ⟨eB p0_1, eO p0_1 + Int.toNat x31 * Enc.sz F + 0, none⟩), .pointer (some ⟨eB p0_1, eO p0_1 + Int.toNat x31 * Enc.sz F + 3, none⟩), .int .i64 x34.r, .pointer (some ⟨b21, 4, none⟩), .int .i64 x20.ri, .bool (x34.r != x20.ri), .bool y33] i, U := fun _ _ => [], Φ := fun _ _ => True } ?_ ?_
     ·exact ⟨lM, lc rfl rfl fun hs hh => stp_lss (sv hs 106 rfl) rfl, lM, lg rfl rfl 108 hy32 fun hs hh => stp_move (sv hs 11 rfl), lg rfl rfl 108 hy32 fun hs hh => stp_fieldAddr (j := 3) Tryz.underlying41 rfl ts3 rfl (sv hs 6 rfl) rfl, lg rfl rfl 108 hy32 fun hs hh => stp_load1 ts3 (sv hs 110 rfl) (Cells.box (id := 2) (hh.get 2 _ rfl) 1 rfl), lg rfl rfl 108 hy32 fun hs hh => stp_neq (sv hs 109 rfl) (sv hs 111 rfl), lc rfl rfl fun hs hh => stp_pick_fB (sv hs 108 rfl) hy32 (sv hs 112 rfl) qy32, lM, lg rfl rfl 114 hy33 fun hs hh => stp_fieldAddr (j := 0) Tryz.underlying34 rfl ts26 rfl (sv hs 1 rfl) rfl, lg rfl rfl 114 hy33 fun hs hh => stp_fieldAddr (j := 1) Tryz.underlying26 rfl ts24 rfl (sv hs 115 rfl) rfl, lg rfl rfl 114 hy33 fun hs hh => stp_load1 ts24 (sv hs 116 rfl) (Cells.box (id := 0) (hh.get 0 _ rfl) 1 rfl), lg rfl rfl 114 hy33 fun hs hh => stp_move (sv hs 11 rfl), lg rfl rfl 114 hy33 fun hs hh => stp_indexAddr Tryz.underlying24 ts58 (by decide) (sv hs 117 rfl) rfl (sv hs 118 rfl) (Rdb.ro hr0_1) e34, lg rfl rfl 114 hy33 fun hs hh => stp_fieldAddr (j := 3) Tryz.underlying58 rfl ts3 rfl (sv hs 119 rfl) rfl, lg rfl rfl 114 hy33 fun hs hh => stp_load1 ts3 (sv hs 120 rfl) (Cells.el (Rdb.ro hr0_1) (by decide) e34 3 1 rfl), lg rfl rfl 114 hy33 fun hs hh => stp_fieldAddr (j := 4) Tryz.underlying41 rfl ts3 rfl (sv hs 6 rfl) rfl, lg rfl rfl 114 hy33 fun hs hh => stp_load1 ts3 (sv hs 122 rfl) (Cells.box (id := 2) (hh.get 2 _ rfl) 1 rfl), lg rfl rfl 114 hy33 fun hs hh => stp_neq (sv hs 121 rfl) (sv hs 123 rfl), lc rfl rfl fun hs hh => stp_pick_fB (sv hs 114 rfl) hy33 (sv hs 124 rfl) qy33, trivial⟩
     intro g hΦ
     exact kw_join () trivial ⟨rfl, rfl, rfl, rfl, rfl, trivial⟩ ⟨rfl, trivial⟩
    rintro _ -
    dsimp only
    refine kw_nx (cw_cond rfl (fun h35 => ?_) (fun h35 => ?_))
    ·have H1 := cond_t H1 h35
     refine sr (oS rfl (nn (cw_ret (kw_bl_ret (kw_nx_ret (kw_lq_ret (kw_bl_ret (kw_join_ret (kw_nx_ret ?_)))))))))
     obtain rfl := sI H1
     obtain rfl := sI H0
     exact kr Tryz.results19 (rT rfl) [] ⟨rfl, rfl⟩
    have H1 := cond_f H1 h35
    obtain ⟨x36, e36, H1⟩ := bS H1
    exact cw_skip (kw_bl_normal (kw_nx (cw_region (oP e36 rfl (oM rfl (ow_nil (kw_lqS (js := [0]) (fuel, x36) H1 (Nat.lt_succ_self _) ⟨rfl, rfl, rfl, rfl, trivial⟩ ⟨0, [], rfl, rfl, trivial⟩ (by decide))))))))
   have H1 := cond_f H1 h27
   obtain ⟨x37, e37, H1⟩ := bS H1
   obtain ⟨x38, e38, H1⟩ := bS H1
   refine cw_skip (kw_nx (cw_seq (rdq g_mixed [1, 6, 8] [0, 2] { dst := dS [100, 101, 102, 103, 104, 105, 106, 12], pre := gA [] [[], [0], [], [], [3], [2, 3, 4], rn 0 6, rn 0 7], ids := fun _ => [], rs := rL [[(1, 0)], [(99, 1)], [(8, 0)], [(6, 0)], [(102, 4)], [(101, 3), (103, 5)], [(100, 2), (104, 6)], [(105, 7)]], rh := rL [[], [(0, 0)], [], [], [(2, 0)]], V := fun i g => gA undef [.pointer (some ⟨b1, 0, none⟩), .agg #[.slice p0_0 ((a0.t.b).length) c0_0, .slice p0_1 ((a0.t.f).length) c0_1], .int .i64 0, .pointer (some ⟨b21, 2, none⟩), .int .i64 x20.pg, .agg #[.int .i64 x37.s, .int .i64 x37.p], .int .i64 x38, .int .i64 x38] i, U := fun _ _ => [], Φ := fun _ _ => True } ?_ ?_)))
   ·refine ⟨lc rfl rfl fun hs hh => stp_fieldAddr (j := 0) Tryz.underlying34 rfl ts26 rfl (sv hs 1 rfl) rfl, lc rfl rfl fun hs hh => stp_loadN (us := [_, _]) ts26 (sv hs 99 rfl) (Cells.box (id := 0) (hh.get 0 _ rfl) 2 rfl), lM, lc rfl rfl fun hs hh => stp_fieldAddr (j := 2) Tryz.underlying41 rfl ts3 rfl (sv hs 6 rfl) rfl, lc rfl rfl fun hs hh => stp_load1 ts3 (sv hs 102 rfl) (Cells.box (id := 2) (hh.get 2 _ rfl) 1 rfl), ?_, ?_, lS, trivial⟩
    ·refine le rfl rfl (fun g hΦ s h hs hh => (stpU_call (fun i => 3 + i) cf34 (fun w hw => c_i_KeyFor fl w 0 x20.pg x37 e37) (yB (sv hs 101 rfl) (sv hs 103 rfl)))) ?_
     rintro g _ _ ⟨_, ⟨rfl, rfl⟩, rfl⟩
     exact ⟨⟨[], [], []⟩, trivial, .inr rfl, rfl⟩
    refine le rfl rfl (fun g hΦ s h hs hh => (stpU_call (fun i => 3 + i) cf59 (fun w hw => c_i_Table_find fl w a0.t x37 rfl (RO.pass hr0_0 hw) rfl (RO.pass hr0_1 hw) x38 e38) (yB (sv hs 100 rfl) (sv hs 104 rfl)))) ?_
    rintro g _ _ ⟨_, ⟨rfl, rfl⟩, rfl⟩
    exact ⟨⟨[], [], []⟩, trivial, .inr rfl, rfl⟩
   intro g hΦ
   refine KW.sub (s' := [(1, .pointer (some ⟨b1, 0, none⟩)), (6, .pointer (some ⟨b21, 0, none⟩)), (11, .int .i64 x38), (61, .slice p0_2 ((a0.c.l).length) c0_2), (62, .int .i64 ((a0.c.l).length : Int)), (63, .int .i64 v18)]) (h' := [(0, [(b1, .cells #[.slice p0_0 ((a0.t.b).length) c0_0, .slice p0_1 ((a0.t.f).length) c0_1, .slice p0_2 ((a0.c.l).length) c0_2, .int .i64 a0.c.h, .int .i64 a0.g.c, .int .i64 a0.g.n, .int .i64 a0.g.r, .slice p0_3 ((a0.g.o).length) c0_3, .int .i64 a0.s] 34 (0, 0))]), (2, [(b21, .cells #[.bool x20.va, .int .i64 x20.tg, .int .i64 x20.pg, .int .i64 x20.fr, .int .i64 x20.ri, .bool x20.wi] 41 (0, 0))])]) ?_ ⟨rfl, rfl, rfl, rfl, rfl, rfl, trivial⟩ ⟨rfl, rfl, trivial⟩
   obtain ⟨y39, ey39, H1⟩ := bS H1
   obtain ⟨y40, ey40, H1⟩ := bS H1
   refine kw_nx (cw_seq (cw_join (ι := Unit) (fun | _ => True) (fun | _ => [(1, .pointer (some ⟨b1, 0, none⟩)), (61, .slice p0_2 ((a0.c.l).length) c0_2), (62, .int .i64 ((a0.c.l).length : Int)), (63, .int .i64 v18), (125, .bool y40)]) (fun | _ => [(0, [(b1, .cells #[.slice p0_0 ((a0.t.b).length) c0_0, .slice p0_1 ((a0.t.f).length) c0_1, .slice p0_2 ((a0.c.l).length) c0_2, .int .i64 a0.c.h, .int .i64 a0.g.c, .int .i64 a0.g.n, .int .i64 a0.g.r, .slice p0_3 ((a0.g.o).length) c0_3, .int .i64 a0.s] 34 (0, 0))])]) ?_ ?_))
   ·rcases Bool.eq_false_or_eq_true (decide (x38 < 0)) with hy39 | hy39
    ·have ey39 := cond_t ey39 hy39
     have qy39 := sI ey39
     have hy40 : y39 = true := by rw [← qy39]
     have ey40 := cond_t ey40 hy40
     have qy40 := sI ey40
     refine rdq g_mixed [11] [] { dst := dS [107, 108, 109, 110, 111, 112, 113, 114, 115, 116, 117, 118, 119, 120, 121, 122, 123, 124, 125, 126], pre := gA [] [[], [0], [0, 1], [0, 1, 2], [0, 1, 2], [0, 1, 2, 4], rn 0 6, rn 0 7, rn 0 8, rn 0 9, rn 0 10, rn 0 11, rn 0 9, rn 0 13, rn 0 14, rn 0 15, rn 0 9, [0, 1, 2, 3, 4, 5, 6, 7, 8, 16], rn 0 18, rn 0 19], ids := fun _ => [], rs := rL [[(11, 0)], [(106, 1)], [(107, 2)], [(108, 3)], [(108, 3)], [(108, 3)], [(108, 3)], [(108, 3), (112, 7)], [(113, 8)], [(114, 9)], [(114, 9)], [(114, 9)], [(114, 9)], [(114, 9)], [(114, 9)], [(114, 9)], [(114, 9)], [(114, 9)], [(114, 9)], [(114, 9), (124, 19)]], rh := fun _ => [], V := fun i g => gA undef [.int .i64 x38, .bool (decide (x38 < 0)), .bool (decide (x38 < 0)), undef, undef, undef, undef, .bool y39, .bool y39, undef, undef, undef, undef, undef, undef, undef, undef, undef, undef, .bool y40] i, U := fun _ _ => [], Φ := fun _ _ => True } ?_ ?_
     ·exact ⟨lM, lc rfl rfl fun hs hh => stp_lss (sv hs 106 rfl) rfl, lM, lo rfl rfl 108 hy39, lo rfl rfl 108 hy39, lo rfl rfl 108 hy39, lo rfl rfl 108 hy39, lc rfl rfl fun hs hh => stp_pick_tB (sv hs 108 rfl) hy39 rfl qy39, lM, lo rfl rfl 114 hy40, lo rfl rfl 114 hy40, lo rfl rfl 114 hy40, lo rfl rfl 114 hy40, lo rfl rfl 114 hy40, lo rfl rfl 114 hy40, lo rfl rfl 114 hy40, lo rfl rfl 114 hy40, lo rfl rfl 114 hy40, lo rfl rfl 114 hy40, lc rfl rfl fun hs hh => stp_pick_tB (sv hs 114 rfl) hy40 rfl qy40, trivial⟩
     intro g hΦ
     exact kw_join () trivial ⟨rfl, rfl, rfl, rfl, rfl, trivial⟩ ⟨rfl, trivial⟩
    have ey39 := cond_f ey39 hy39
    have qy39 := sI ey39
    rcases Bool.eq_false_or_eq_true y39 with hy40 | hy40
    ·have ey40 := cond_t ey40 hy40
     have qy40 := sI ey40
     refine rdq g_mixed [6, 11] [2] { dst := dS [107, 108, 109, 110, 111, 112, 113, 114, 115, 116, 117, 118, 119, 120, 121, 122, 123, 124, 125, 126], pre := gA [] [[], [0], [0, 1], [0, 1, 2], [0, 1, 2], [0, 1, 2, 4], rn 0 6, rn 0 7, rn 0 8, rn 0 9, rn 0 10, rn 0 11, rn 0 9, rn 0 13, rn 0 14, rn 0 15, rn 0 9, [0, 1, 2, 3, 4, 5, 6, 7, 8, 16], rn 0 18, rn 0 19], ids := fun _ => [], rs := rL [[(11, 0)], [(106, 1)], [(107, 2)], [(11, 0), (108, 3)], [(6, 0), (108, 3)], [(110, 5), (108, 3)], [(109, 4), (111, 6), (108, 3)], [(108, 3), (112, 7)], [(113, 8)], [(114, 9)], [(114, 9)], [(114, 9)], [(114, 9)], [(114, 9)], [(114, 9)], [(114, 9)], [(114, 9)], [(114, 9)], [(114, 9)], [(114, 9), (124, 19)]], rh := rL [[], [], [], [], [], [(2, 0)]], V := fun i g => gA undef [.int .i64 x38, .bool (decide (x38 < 0)), .bool (decide (x38 < 0)), .int .i64 x38, .pointer (some ⟨b21, 3, none⟩), .int .i64 x20.fr, .bool (x38 != x20.fr), .bool y39, .bool y39, undef, undef, undef, undef, undef, undef, undef, undef, undef, undef, .bool y40] i, U := fun _ _ => [], Φ := fun _ _ => True } ?_ ?_
     ·exact ⟨lM, lc rfl rfl fun hs hh => stp_lss (sv hs 106 rfl) rfl, lM, lg rfl rfl 108 hy39 fun hs hh => stp_move (sv hs 11 rfl), lg rfl rfl 108 hy39 fun hs hh => stp_fieldAddr (j := 3) Tryz.underlying41 rfl ts3 rfl (sv hs 6 rfl) rfl, lg rfl rfl 108 hy39 fun hs hh => stp_load1 ts3 (sv hs 110 rfl) (Cells.box (id := 2) (hh.get 2 _ rfl) 1 rfl), lg rfl rfl 108 hy39 fun hs hh => stp_neq (sv hs 109 rfl) (sv hs 111 rfl), lc rfl rfl fun hs hh => stp_pick_fB (sv hs 108 rfl) hy39 (sv hs 112 rfl) qy39, lM, lo rfl rfl 114 hy40, lo rfl rfl 114 hy40, lo rfl rfl 114 hy40, lo rfl rfl 114 hy40, lo rfl rfl 114 hy40, lo rfl rfl 114 hy40, lo rfl rfl 114 hy40, lo rfl rfl 114 hy40, lo rfl rfl 114 hy40, lo rfl rfl 114 hy40, lc rfl rfl fun hs hh => stp_pick_tB (sv hs 114 rfl) hy40 rfl qy40, trivial⟩
     intro g hΦ
     exact kw_join () trivial ⟨rfl, rfl, rfl, rfl, rfl, trivial⟩ ⟨rfl, trivial⟩
    have ey40 := cond_f ey40 hy40
    obtain ⟨x41, e41, ey40⟩ := bS ey40
    have qy40 := sI ey40
    refine rdq g_mixed [1, 6, 11] [0, 2] { dst := dS [107, 108, 109, 110, 111, 112, 113, 114, 115, 116, 117, 118, 119, 120, 121, 122, 123, 124, 125, 126], pre := gA [] [[], [0], [0, 1], [0, 1, 2], [0, 1, 2], [0, 1, 2, 4], rn 0 6, rn 0 7, rn 0 8, rn 0 9, rn 0 10, rn 0 11, rn 0 9, rn 0 13, rn 0 14, rn 0 15, rn 0 9, [0, 1, 2, 3, 4, 5, 6, 7, 8, 16], rn 0 18, rn 0 19], ids := fun _ => [], rs := rL [[(11, 0)], [(106, 1)], [(107, 2)], [(11, 0), (108, 3)], [(6, 0), (108, 3)], [(110, 5), (108, 3)], [(109, 4), (111, 6), (108, 3)], [(108, 3), (112, 7)], [(113, 8)], [(1, 0), (114, 9)], [(115, 10), (114, 9)], [(116, 11), (114, 9)], [(11, 0), (114, 9)], [(117, 12), (118, 13), (114, 9)], [(119, 14), (114, 9)], [(120, 15), (114, 9)], [(6, 0), (114, 9)], [(122, 17), (114, 9)], [(121, 16), (123, 18), (114, 9)], [(114, 9), (124, 19)]], rh := rL [[], [], [], [], [], [(2, 0)], [], [], [], [], [], [(0, 0)], [], [], [], [], [], [(2, 0)]], V := fun i g => gA undef [.int .i64 x38, .bool (decide (x38 < 0)), .bool (decide (x38 < 0)), .int .i64 x38, .pointer (some ⟨b21, 3, none⟩), .int .i64 x20.fr, .bool (x38 != x20.fr), .bool y39, .bool y39, .pointer (some ⟨b1, 0, none⟩), .pointer (some ⟨b1, 1, none⟩), .slice p0_1 ((a0.t.f).length) c0_1, .int .i64 x38, .pointer (some ⟨eB p0_1, eO p0_1 + Int.toNat x38 * Enc.sz F + 0, none⟩), .pointer (some ⟨eB p0_1, eO p0_1 + Int.toNat x38 * Enc.sz F + 3, none⟩), .int .i64 x41.r, .pointer (some ⟨b21, 4, none⟩), .int .i64 x20.ri, .bool (x41.r != x20.ri), .bool y40] i, U := fun _ _ => [], Φ := fun _ _ => True } ?_ ?_
    ·exact ⟨lM, lc rfl rfl fun hs hh => stp_lss (sv hs 106 rfl) rfl, lM, lg rfl rfl 108 hy39 fun hs hh => stp_move (sv hs 11 rfl), lg rfl rfl 108 hy39 fun hs hh => stp_fieldAddr (j := 3) Tryz.underlying41 rfl ts3 rfl (sv hs 6 rfl) rfl, lg rfl rfl 108 hy39 fun hs hh => stp_load1 ts3 (sv hs 110 rfl) (Cells.box (id := 2) (hh.get 2 _ rfl) 1 rfl), lg rfl rfl 108 hy39 fun hs hh => stp_neq (sv hs 109 rfl) (sv hs 111 rfl), lc rfl rfl fun hs hh => stp_pick_fB (sv hs 108 rfl) hy39 (sv hs 112 rfl) qy39, lM, lg rfl rfl 114 hy40 fun hs hh => stp_fieldAddr (j := 0) Tryz.underlying34 rfl ts26 rfl (sv hs 1 rfl) rfl, lg rfl rfl 114 hy40 fun hs hh => stp_fieldAddr (j := 1) Tryz.underlying26 rfl ts24 rfl (sv hs 115 rfl) rfl, lg rfl rfl 114 hy40 fun hs hh => stp_load1 ts24 (sv hs 116 rfl) (Cells.box (id := 0) (hh.get 0 _ rfl) 1 rfl), lg rfl rfl 114 hy40 fun hs hh => stp_move (sv hs 11 rfl), lg rfl rfl 114 hy40 fun hs hh => stp_indexAddr Tryz.underlying24 ts58 (by decide) (sv hs 117 rfl) rfl (sv hs 118 rfl) (Rdb.ro hr0_1) e41, lg rfl rfl 114 hy40 fun hs hh => stp_fieldAddr (j := 3) Tryz.underlying58 rfl ts3 rfl (sv hs 119 rfl) rfl, lg rfl rfl 114 hy40 fun hs hh => stp_load1 ts3 (sv hs 120 rfl) (Cells.el (Rdb.ro hr0_1) (by decide) e41 3 1 rfl), lg rfl rfl 114 hy40 fun hs hh => stp_fieldAddr (j := 4) Tryz.underlying41 rfl ts3 rfl (sv hs 6 rfl) rfl, lg rfl rfl 114 hy40 fun hs hh => stp_load1 ts3 (sv hs 122 rfl) (Cells.box (id := 2) (hh.get 2 _ rfl) 1 rfl), lg rfl rfl 114 hy40 fun hs hh => stp_neq (sv hs 121 rfl) (sv hs 123 rfl), lc rfl rfl fun hs hh => stp_pick_fB (sv hs 114 rfl) hy40 (sv hs 124 rfl) qy40, trivial⟩
    intro g hΦ
    exact kw_join () trivial ⟨rfl, rfl, rfl, rfl, rfl, trivial⟩ ⟨rfl, trivial⟩
   rintro _ -
   dsimp only
   refine kw_nx (cw_cond rfl (fun h42 => ?_) (fun h42 => ?_))
   ·have H1 := cond_t H1 h42
    refine sr (oS rfl (nn (cw_ret (kw_bl_ret (kw_nx_ret (kw_lq_ret (kw_bl_ret (kw_join_ret (kw_nx_ret ?_)))))))))
    obtain rfl := sI H1
    obtain rfl := sI H0
    exact kr Tryz.results19 (rT rfl) [] ⟨rfl, rfl⟩
   have H1 := cond_f H1 h42
   obtain ⟨x43, e43, H1⟩ := bS H1
   exact cw_skip (kw_bl_normal (kw_nx (cw_region (oP e43 rfl (oM rfl (ow_nil (kw_lqS (js := [0]) (fuel, x43) H1 (Nat.lt_succ_self _) ⟨rfl, rfl, rfl, rfl, trivial⟩ ⟨0, [], rfl, rfl, trivial⟩ (by decide))))))))
  have H1 := cond_f H1 h19
  refine cw_exit (kw_nx_exit (kw_lq_exit (kw_bl ?_)))
  obtain rfl := sI H1
  exact kw_joinS (js := [0]) v18 rfl ⟨rfl, rfl, rfl, rfl, trivial⟩ ⟨0, [], rfl, rfl, trivial⟩ (by decide)
 rintro v18 rfl
 dsimp only
 refine kw_nx (sr (oS rfl (nn (cw_ret ?_))))
 obtain rfl := sI H0
 exact kr Tryz.results19 (rT rfl) [] ⟨rfl, rfl⟩

theorem c_slices_Clone_Int (fl : Nat) (w : World) (a0 : (List Int)) (hn0_0 : n0_0 = (a0).length) (hr0_0 : RO w (hkeys []) (RdL p0_0 c0_0 a0)) (r : (List Int)) (H0 : slices_Clone_Int fl a0 = some r) :
  Ct Tryz.prog 141 [.slice p0_0 n0_0 c0_0] w [] (fun rv h' => ∃ (x0 : Option Addr) (y0 z0 : Nat) (C0 : Res), rv = .slice x0 y0 z0 ∧ h' = [(0, C0)] ∧ y0 = (r).length ∧ OwnC 3 x0 z0 r C0) := by
 subst hn0_0
 unfold slices_Clone_Int at H0
 refine ct_of_cw Tryz.func141 rfl Tryz.ntmps141 rfl (Sat.refl _ _) ?_
 refine sr (oS rfl (nn (cw_seq (sr (oM rfl (oD (stp_eqlNil Tryz.underlying23 rfl) rfl (nn (cw_cond rfl (fun h1 => ?_) (fun h1 => ?_)))))))))
 ·have := True.intro
  obtain rfl : p0_0 = none := by simpa using h1
  obtain rfl : a0 = [] := nil_of_none hr0_0
  obtain rfl : r = [] := (cnt_some H0).1
  exact sr (oS rfl (nn (cw_ret (kw_nx_ret (kw_addNil 0 (kw_ret Tryz.results141 (rT rfl) [(0, [])] [0] ⟨0, [], rfl, rfl, trivial⟩ (by decide) ⟨none, 0, 0, [], rfl, rfl, rfl, (OwnC.nil _ _)⟩))))))
 have := True.intro
 refine cw_skip (kw_nx (sr (oE (stpU_lit0 sl23 1) rfl ?_)))
 rintro _ _ ⟨p2, C3, rfl, rfl, o3⟩
 refine oM rfl ?_
 have e4 : cnt (([] : List Int) ++ a0) = some r := H0
 refine oE (stpU_append sl23 rfl (id := 1) rfl (by simp) rfl rfl rfl o3 (Rdb.ro hr0_0) e4) rfl ?_
 rintro _ _ ⟨p5, c6, C7, rfl, rfl, o7⟩
 exact oS rfl (nn (cw_ret (kw_ret Tryz.results141 (rT rfl) [(0, C7)] [1] ⟨1, [], rfl, rfl, trivial⟩ (by decide) ⟨p5, ((r).length), c6, C7, rfl, rfl, rfl, o7⟩)))

theorem c_slices_Clone_Frame (fl : Nat) (w : World) (a0 : (List F)) (hn0_0 : n0_0 = (a0).length) (hr0_0 : RO w (hkeys []) (RdL p0_0 c0_0 a0)) (r : (List F)) (H0 : slices_Clone_Frame fl a0 = some r) :
  Ct Tryz.prog 143 [.slice p0_0 n0_0 c0_0] w [] (fun rv h' => ∃ (x0 : Option Addr) (y0 z0 : Nat) (C0 : Res), rv = .slice x0 y0 z0 ∧ h' = [(0, C0)] ∧ y0 = (r).length ∧ OwnC 58 x0 z0 r C0) := by
 subst hn0_0
 unfold slices_Clone_Frame at H0
 refine ct_of_cw Tryz.func143 rfl Tryz.ntmps143 rfl (Sat.refl _ _) ?_
 refine sr (oS rfl (nn (cw_seq (sr (oM rfl (oD (stp_eqlNil Tryz.underlying24 rfl) rfl (nn (cw_cond rfl (fun h1 => ?_) (fun h1 => ?_)))))))))
 ·have := True.intro
  obtain rfl : p0_0 = none := by simpa using h1
  obtain rfl : a0 = [] := nil_of_none hr0_0
  obtain rfl : r = [] := (cnt_some H0).1
  exact sr (oS rfl (nn (cw_ret (kw_nx_ret (kw_addNil 0 (kw_ret Tryz.results143 (rT rfl) [(0, [])] [0] ⟨0, [], rfl, rfl, trivial⟩ (by decide) ⟨none, 0, 0, [], rfl, rfl, rfl, (OwnC.nil _ _)⟩))))))
 have := True.intro
 refine cw_skip (kw_nx (sr (oE (stpU_lit0 sl24 1) rfl ?_)))
 rintro _ _ ⟨p2, C3, rfl, rfl, o3⟩
 refine oM rfl ?_
 have e4 : cnt (([] : List F) ++ a0) = some r := H0
 refine oE (stpU_append sl24 rfl (id := 1) rfl (by simp) rfl rfl rfl o3 (Rdb.ro hr0_0) e4) rfl ?_
 rintro _ _ ⟨p5, c6, C7, rfl, rfl, o7⟩
 exact oS rfl (nn (cw_ret (kw_ret Tryz.results143 (rT rfl) [(0, C7)] [1] ⟨1, [], rfl, rfl, trivial⟩ (by decide) ⟨p5, ((r).length), c6, C7, rfl, rfl, rfl, o7⟩)))

theorem c_i_Table_clone (fl : Nat) (w : World) (a0 : T) (hn0_0 : n0_0 = (a0.b).length) (hr0_0 : RO w (hkeys []) (RdL p0_0 c0_0 a0.b)) (hn0_1 : n0_1 = (a0.f).length) (hr0_1 : RO w (hkeys []) (RdL p0_1 c0_1 a0.f)) (r : T) (H0 : i_Table_clone fl a0 = some r) :
  Ct Tryz.prog 98 [.agg #[.slice p0_0 n0_0 c0_0, .slice p0_1 n0_1 c0_1]] w [] (fun rv h' => ∃ (x0 : Option Addr) (y0 z0 : Nat) (C0 : Res) (x1 : Option Addr) (y1 z1 : Nat) (C1 : Res), rv = .agg #[.slice x0 y0 z0, .slice x1 y1 z1] ∧ h' = [(0, C0), (1, C1)] ∧ y0 = (r.b).length ∧ OwnC 3 x0 z0 r.b C0 ∧ y1 = (r.f).length ∧ OwnC 58 x1 z1 r.f C1) := by
 subst hn0_0 hn0_1
 unfold i_Table_clone at H0
 refine ct_of_cw Tryz.func98 rfl Tryz.ntmps98 rfl (Sat.refl _ _) ?_
 refine sr (oE (stpU_box 0 rfl rfl) rfl ?_)
 rintro _ _ ⟨b1, rfl, rfl⟩
 refine oE (stpU_alloc 1 tz26 rfl) rfl ?_
 rintro _ _ ⟨b2, rfl, rfl⟩
 obtain ⟨x3, e3, H0⟩ := bS H0
 obtain ⟨x8, e8, H0⟩ := bS H0
 refine nn (cw_seq (rdq g_mixed [1, 2] [0, 1] { dst := dS [4, 5, 6, 7, 8, 9, 10, 11, 12, 0], pre := gA [] [[], [0], [0, 1], [0, 1, 2], [], [4], rn 0 6, rn 0 7, rn 0 8, rn 0 9], ids := gA [] [[], [], [2], [], [], [], [3], [], [], [1]], rs := rL [[(1, 0)], [(3, 1)], [(4, 2)], [(5, 3)], [(1, 0)], [(7, 5)], [(8, 6)], [(9, 7)], [(6, 4), (10, 8)], [(2, 0), (11, 9)]], rh := rL [[], [(0, 0)], [], [], [], [(0, 0)], [], [], [], [(1, 0)]], V := fun i g => gA undef [.pointer (some ⟨b1, 0, none⟩), .slice p0_0 ((a0.b).length) c0_0, .slice ((g 2).A 0) ((x3).length) ((g 2).C 0), .slice ((g 2).A 0) ((x3).length) ((x3).length), .pointer (some ⟨b1, 1, none⟩), .slice p0_1 ((a0.f).length) c0_1, .slice ((g 6).A 0) ((x8).length) ((g 6).C 0), .slice ((g 6).A 0) ((x8).length) ((x8).length), .agg #[.slice ((g 2).A 0) ((x3).length) ((x3).length), .slice ((g 6).A 0) ((x8).length) ((x8).length)]] i, U := fun i g => gA [] [[], [], [(2, ((g 2).R 0))], [], [], [], [(3, ((g 6).R 0))], [], [], [(1, [(b2, .cells #[.slice ((g 2).A 0) ((x3).length) ((x3).length), .slice ((g 6).A 0) ((x8).length) ((x8).length)] 26 (0, 0))])]] i, Φ := fun i x => match i with | 2 => OwnC 3 (x.A 0) (x.C 0) x3 (x.R 0) | 6 => OwnC 58 (x.A 0) (x.C 0) x8 (x.R 0) | _ => True } ?_ ?_))
 ·refine ⟨lc rfl rfl fun hs hh => stp_fieldAddr (j := 0) Tryz.underlying26 rfl ts23 rfl (sv hs 1 rfl) rfl, lc rfl rfl fun hs hh => stp_load1 ts23 (sv hs 3 rfl) (Cells.box (id := 0) (hh.get 0 _ rfl) 1 rfl), ?_, ?_, lc rfl rfl fun hs hh => stp_fieldAddr (j := 1) Tryz.underlying26 rfl ts24 rfl (sv hs 1 rfl) rfl, lc rfl rfl fun hs hh => stp_load1 ts24 (sv hs 7 rfl) (Cells.box (id := 0) (hh.get 0 _ rfl) 1 rfl), ?_, ?_, ld rfl rfl fun g hΦ s h hs hh => stp_build (cs := #[.slice ((g 2).A 0) ((x3).length) ((x3).length), .slice ((g 6).A 0) ((x8).length) ((x8).length)]) (sevp_cons (sv hs 6 rfl) (sevp_cons (sv hs 10 rfl) sevp_nil)) bt26_14, ?_, trivial⟩
  ·refine le rfl rfl (fun g hΦ s h hs hh => (stpU_call (fun i => 2 + i) cf141 (fun w hw => c_slices_Clone_Int fl w a0.b rfl (RO.pass hr0_0 hw) x3 e3) (yA (sv hs 4 rfl)))) ?_
   rintro g _ _ ⟨_, ⟨p4, _, c6, C7, rfl, rfl, rfl, o7⟩, rfl⟩
   exact ⟨⟨[p4], [c6], [C7]⟩, o7, .inr rfl, rfl⟩
  ·refine le rfl rfl (fun g hΦ s h hs hh => (stpU_call (fun i => i) cf129 (fun w hw => c_clip129 w ((g 2).A 0) ((x3).length) ((g 2).C 0) (OwnC.len (hΦ 2 rfl)).1) (yA (sv hs 5 rfl)))) ?_
   rintro g _ _ ⟨_, ⟨rfl, rfl⟩, rfl⟩
   exact ⟨⟨[], [], []⟩, trivial, .inr rfl, rfl⟩
  ·refine le rfl rfl (fun g hΦ s h hs hh => (stpU_call (fun i => 3 + i) cf143 (fun w hw => c_slices_Clone_Frame fl w a0.f rfl (RO.pass hr0_1 hw) x8 e8) (yA (sv hs 8 rfl)))) ?_
   rintro g _ _ ⟨_, ⟨p9, _, c11, C12, rfl, rfl, rfl, o12⟩, rfl⟩
   exact ⟨⟨[p9], [c11], [C12]⟩, o12, .inr rfl, rfl⟩
  ·refine le rfl rfl (fun g hΦ s h hs hh => (stpU_call (fun i => i) cf142 (fun w hw => c_clip142 w ((g 6).A 0) ((x8).length) ((g 6).C 0) (OwnC.len (hΦ 6 rfl)).1) (yA (sv hs 9 rfl)))) ?_
   rintro g _ _ ⟨_, ⟨rfl, rfl⟩, rfl⟩
   exact ⟨⟨[], [], []⟩, trivial, .inr rfl, rfl⟩
  refine le rfl rfl (fun g hΦ s h hs hh => (stpU_store (id := 1) (cs' := [.slice ((g 2).A 0) ((x3).length) ((x3).length), .slice ((g 6).A 0) ((x8).length) ((x8).length)]) ts26 (sv hs 2 rfl) (sv hs 11 rfl) (hh.get 1 _ rfl) rfl rfl rfl rfl)) ?_
  rintro g _ _ rfl
  exact ⟨⟨[], [], []⟩, trivial, .inl rfl, rfl⟩
 intro g hΦ
 refine kw_gen (ι := Option Addr × Nat × Res × Option Addr × Nat × Res) (((g 2).A 0), ((g 2).C 0), ((g 2).R 0), ((g 6).A 0), ((g 6).C 0), ((g 6).R 0)) (fun | (p4, c6, C7, p9, c11, C12) => OwnC 3 p4 c6 x3 C7 ∧ OwnC 58 p9 c11 x8 C12) (fun | (p4, c6, C7, p9, c11, C12) => [(2, .pointer (some ⟨b2, 0, none⟩))]) (fun | (p4, c6, C7, p9, c11, C12) => [(1, [(b2, .cells #[.slice p4 ((x3).length) ((x3).length), .slice p9 ((x8).length) ((x8).length)] 26 (0, 0))]), (2, C7), (3, C12)]) ⟨(hΦ 2 (by decide)), (hΦ 6 (by decide))⟩ ⟨rfl, trivial⟩ ⟨rfl, rfl, rfl, trivial⟩ ?_
 rintro ⟨p4, c6, C7, p9, c11, C12⟩ ⟨o7, o12⟩
 dsimp only
 refine kw_nx (cw_ret ?_)
 obtain rfl := sI H0
 exact kr Tryz.results98 (rC2 1 ts26 rfl rfl) [2, 3] ⟨_, _, _, _, _, _, _, _, rfl, rfl, rfl, (OwnC.clip o7), rfl, (OwnC.clip o12)⟩

theorem c_slices_Clone_Line (fl : Nat) (w : World) (a0 : (List Ln)) (hn0_0 : n0_0 = (a0).length) (hr0_0 : RO w (hkeys []) (RdL p0_0 c0_0 a0)) (r : (List Ln)) (H0 : slices_Clone_Line fl a0 = some r) :
  Ct Tryz.prog 100 [.slice p0_0 n0_0 c0_0] w [] (fun rv h' => ∃ (x0 : Option Addr) (y0 z0 : Nat) (C0 : Res), rv = .slice x0 y0 z0 ∧ h' = [(0, C0)] ∧ y0 = (r).length ∧ OwnC 41 x0 z0 r C0) := by
 subst hn0_0
 unfold slices_Clone_Line at H0
 refine ct_of_cw Tryz.func100 rfl Tryz.ntmps100 rfl (Sat.refl _ _) ?_
 refine sr (oS rfl (nn (cw_seq (sr (oM rfl (oD (stp_eqlNil Tryz.underlying27 rfl) rfl (nn (cw_cond rfl (fun h1 => ?_) (fun h1 => ?_)))))))))
 ·have := True.intro
  obtain rfl : p0_0 = none := by simpa using h1
  obtain rfl : a0 = [] := nil_of_none hr0_0
  obtain rfl : r = [] := (cnt_some H0).1
  exact sr (oS rfl (nn (cw_ret (kw_nx_ret (kw_addNil 0 (kw_ret Tryz.results100 (rT rfl) [(0, [])] [0] ⟨0, [], rfl, rfl, trivial⟩ (by decide) ⟨none, 0, 0, [], rfl, rfl, rfl, (OwnC.nil _ _)⟩))))))
 have := True.intro
 refine cw_skip (kw_nx (sr (oE (stpU_lit0 sl27 1) rfl ?_)))
 rintro _ _ ⟨p2, C3, rfl, rfl, o3⟩
 refine oM rfl ?_
 have e4 : cnt (([] : List Ln) ++ a0) = some r := H0
 refine oE (stpU_append sl27 rfl (id := 1) rfl (by simp) rfl rfl rfl o3 (Rdb.ro hr0_0) e4) rfl ?_
 rintro _ _ ⟨p5, c6, C7, rfl, rfl, o7⟩
 exact oS rfl (nn (cw_ret (kw_ret Tryz.results100 (rT rfl) [(0, C7)] [1] ⟨1, [], rfl, rfl, trivial⟩ (by decide) ⟨p5, ((r).length), c6, C7, rfl, rfl, rfl, o7⟩)))

theorem c_slices_Clone_Own (fl : Nat) (w : World) (a0 : (List Ow)) (hn0_0 : n0_0 = (a0).length) (hr0_0 : RO w (hkeys []) (RdL p0_0 c0_0 a0)) (r : (List Ow)) (H0 : slices_Clone_Own fl a0 = some r) :
  Ct Tryz.prog 97 [.slice p0_0 n0_0 c0_0] w [] (fun rv h' => ∃ (x0 : Option Addr) (y0 z0 : Nat) (C0 : Res), rv = .slice x0 y0 z0 ∧ h' = [(0, C0)] ∧ y0 = (r).length ∧ OwnC 118 x0 z0 r C0) := by
 subst hn0_0
 unfold slices_Clone_Own at H0
 refine ct_of_cw Tryz.func97 rfl Tryz.ntmps97 rfl (Sat.refl _ _) ?_
 refine sr (oS rfl (nn (cw_seq (sr (oM rfl (oD (stp_eqlNil Tryz.underlying30 rfl) rfl (nn (cw_cond rfl (fun h1 => ?_) (fun h1 => ?_)))))))))
 ·have := True.intro
  obtain rfl : p0_0 = none := by simpa using h1
  obtain rfl : a0 = [] := nil_of_none hr0_0
  obtain rfl : r = [] := (cnt_some H0).1
  exact sr (oS rfl (nn (cw_ret (kw_nx_ret (kw_addNil 0 (kw_ret Tryz.results97 (rT rfl) [(0, [])] [0] ⟨0, [], rfl, rfl, trivial⟩ (by decide) ⟨none, 0, 0, [], rfl, rfl, rfl, (OwnC.nil _ _)⟩))))))
 have := True.intro
 refine cw_skip (kw_nx (sr (oE (stpU_lit0 sl30 1) rfl ?_)))
 rintro _ _ ⟨p2, C3, rfl, rfl, o3⟩
 refine oM rfl ?_
 have e4 : cnt (([] : List Ow) ++ a0) = some r := H0
 refine oE (stpU_append sl30 rfl (id := 1) rfl (by simp) rfl rfl rfl o3 (Rdb.ro hr0_0) e4) rfl ?_
 rintro _ _ ⟨p5, c6, C7, rfl, rfl, o7⟩
 exact oS rfl (nn (cw_ret (kw_ret Tryz.results97 (rT rfl) [(0, C7)] [1] ⟨1, [], rfl, rfl, trivial⟩ (by decide) ⟨p5, ((r).length), c6, C7, rfl, rfl, rfl, o7⟩)))

theorem c_i_Machine_clone (fl : Nat) (w : World) (a0 : Mc) (hn0_0 : n0_0 = (a0.t.b).length) (hr0_0 : RO w (hkeys []) (RdL p0_0 c0_0 a0.t.b)) (hn0_1 : n0_1 = (a0.t.f).length) (hr0_1 : RO w (hkeys []) (RdL p0_1 c0_1 a0.t.f)) (hn0_2 : n0_2 = (a0.c.l).length) (hr0_2 : RO w (hkeys []) (RdL p0_2 c0_2 a0.c.l)) (hn0_3 : n0_3 = (a0.g.o).length) (hr0_3 : RO w (hkeys []) (RdL p0_3 c0_3 a0.g.o)) (r : Mc) (H0 : i_Machine_clone fl a0 = some r) :
  Ct Tryz.prog 49 [.agg #[.slice p0_0 n0_0 c0_0, .slice p0_1 n0_1 c0_1, .slice p0_2 n0_2 c0_2, .int .i64 a0.c.h, .int .i64 a0.g.c, .int .i64 a0.g.n, .int .i64 a0.g.r, .slice p0_3 n0_3 c0_3, .int .i64 a0.s]] w [] (fun rv h' => ∃ (x0 : Option Addr) (y0 z0 : Nat) (C0 : Res) (x1 : Option Addr) (y1 z1 : Nat) (C1 : Res) (x2 : Option Addr) (y2 z2 : Nat) (C2 : Res) (x3 : Option Addr) (y3 z3 : Nat) (C3 : Res), rv = .agg #[.slice x0 y0 z0, .slice x1 y1 z1, .slice x2 y2 z2, .int .i64 r.c.h, .int .i64 r.g.c, .int .i64 r.g.n, .int .i64 r.g.r, .slice x3 y3 z3, .int .i64 r.s] ∧ h' = [(0, C0), (1, C1), (2, C2), (3, C3)] ∧ y0 = (r.t.b).length ∧ OwnC 3 x0 z0 r.t.b C0 ∧ y1 = (r.t.f).length ∧ OwnC 58 x1 z1 r.t.f C1 ∧ y2 = (r.c.l).length ∧ OwnC 41 x2 z2 r.c.l C2 ∧ y3 = (r.g.o).length ∧ OwnC 118 x3 z3 r.g.o C3) := by
 subst hn0_0 hn0_1 hn0_2 hn0_3
 unfold i_Machine_clone at H0
 refine ct_of_cw Tryz.func49 rfl Tryz.ntmps49 rfl (Sat.refl _ _) ?_
 refine sr (oE (stpU_box 0 rfl rfl) rfl ?_)
 rintro _ _ ⟨b1, rfl, rfl⟩
 refine oE (stpU_alloc 1 tz34 rfl) rfl ?_
 rintro _ _ ⟨b2, rfl, rfl⟩
 obtain ⟨x3, e3, H0⟩ := bS H0
 refine nn (sr (oA 0 Tryz.underlying34 rfl ts26 rfl (oB2 0 ts26 rfl (oE (stpU_call (fun i => 2 + i) cf98 (fun w hw => c_i_Table_clone fl w a0.t rfl (RO.pass hr0_0 hw) rfl (RO.pass hr0_1 hw) x3 e3) (yA rfl)) rfl ?_))))
 rintro _ _ ⟨_, ⟨p4, _, c6, C7, p8, _, c10, C11, rfl, rfl, rfl, o7, rfl, o11⟩, rfl⟩
 obtain ⟨x12, e12, H0⟩ := bS H0
 refine oA 0 Tryz.underlying34 rfl ts26 rfl (oC9 0 ts26 rfl rfl (nn (sr (oA 2 Tryz.underlying34 rfl ts29 rfl (oA 0 Tryz.underlying29 rfl ts27 rfl (oL 0 ts27 rfl (oE (stpU_call (fun i => 4 + i) cf100 (fun w hw => c_slices_Clone_Line fl w a0.c.l rfl (RO.pass hr0_2 hw) x12 e12) (yA rfl)) rfl ?_)))))))
 rintro _ _ ⟨_, ⟨p13, _, c15, C16, rfl, rfl, rfl, o16⟩, rfl⟩
 refine oE (stpU_call (fun i => i) cf99 (fun w hw => c_clip99 w p13 ((x12).length) c15 (OwnC.len o16).1) (yA rfl)) rfl ?_
 rintro _ _ ⟨_, ⟨rfl, rfl⟩, rfl⟩
 obtain ⟨x17, e17, H0⟩ := bS H0
 refine oA 2 Tryz.underlying34 rfl ts29 rfl (oA 0 Tryz.underlying29 rfl ts27 rfl (oC9 0 ts27 rfl rfl (nn (sr (oA 4 Tryz.underlying34 rfl ts32 rfl (oA 3 Tryz.underlying32 rfl ts30 rfl (oL 0 ts30 rfl (oE (stpU_call (fun i => 5 + i) cf97 (fun w hw => c_slices_Clone_Own fl w a0.g.o rfl (RO.pass hr0_3 hw) x17 e17) (yA rfl)) rfl ?_))))))))
 rintro _ _ ⟨_, ⟨p18, _, c20, C21, rfl, rfl, rfl, o21⟩, rfl⟩
 refine oE (stpU_call (fun i => i) cf96 (fun w hw => c_clip96 w p18 ((x17).length) c20 (OwnC.len o21).1) (yA rfl)) rfl ?_
 rintro _ _ ⟨_, ⟨rfl, rfl⟩, rfl⟩
 refine oA 4 Tryz.underlying34 rfl ts32 rfl (oA 3 Tryz.underlying32 rfl ts30 rfl (oC9 0 ts30 rfl rfl (nn (sr (oB9 0 ts34 rfl (oC9 1 ts34 rfl rfl (nn (cw_ret ?_))))))))
 obtain rfl := sI H0
 exact kr Tryz.results49 (rC9 1 ts34 rfl rfl) [2, 3, 4, 5] ⟨_, _, _, _, _, _, _, _, _, _, _, _, _, _, _, _, rfl, rfl, rfl, o7, rfl, o11, rfl, (OwnC.clip o16), rfl, (OwnC.clip o21)⟩

theorem c_i_TagOf (fl : Nat) (w : World) (a0 : Tg) (a1 : Int) (hn0_0 : n0_0 = (a0.o).length) (hr0_0 : RO w (hkeys []) (RdL p0_0 c0_0 a0.o)) (r : Int × Bool) (H0 : i_TagOf fl a0 a1 = some r) :
  Ct Tryz.prog 130 [.agg #[.int .i64 a0.c, .int .i64 a0.n, .int .i64 a0.r, .slice p0_0 n0_0 c0_0], .int .i64 a1] w [] (fun rv h' => rv = .tuple #[.int .i64 r.1, .bool r.2] ∧ h' = []) := by
 subst hn0_0
 unfold i_TagOf at H0
 refine ct_of_cw Tryz.func130 rfl Tryz.ntmps130 rfl (Sat.refl _ _) ?_
 refine sr (oE (stpU_box 0 rfl rfl) rfl ?_)
 rintro _ _ ⟨b1, rfl, rfl⟩
 obtain ⟨x2, e2, H0⟩ := bS H0
 refine oS rfl (oS rfl (nn (cw_seq (sr (oB4 0 ts32 rfl (oE (stpU_call (fun i => 1 + i) cf56 (fun w hw => c_i_TagsValid fl w a0 rfl (RO.pass hr0_0 hw) x2 e2) (yA rfl)) rfl ?_))))))
 rintro _ _ ⟨_, ⟨rfl, rfl⟩, rfl⟩
 obtain ⟨y3, ey3, H0⟩ := bS H0
 refine oK rfl (oM rfl (ow_cutY 5 14 y3 ?_ ?_))
 ·rcases Bool.eq_false_or_eq_true (!x2) with hy3 | hy3
  ·have ey3 := cond_t ey3 hy3
   refine oO rfl hy3 rfl (oO rfl hy3 rfl (oO rfl hy3 rfl (oO rfl hy3 rfl (oD (stp_pick_t rfl hy3 rfl) rfl ?_))))
   obtain rfl := sI ey3
   exact ow_nil (jy 5 0)
  have ey3 := cond_f ey3 hy3
  obtain ⟨x4, e4, ey3⟩ := bS ey3
  refine oG rfl hy3 (stp_loadN (us := [_, _, _, _]) ts32 rfl (Cells.box (id := 0) rfl 4 rfl)) rfl (oG rfl hy3 (mv rfl) rfl (ow_eff (.some rfl hy3) (stpU_call (fun i => 1 + i) cf57 (fun w hw => c_i_Tags_own fl w a0 a1 rfl (RO.pass hr0_0 hw) x4 e4) (yB rfl rfl)) rfl ?_))
  rintro _ _ ⟨_, ⟨rfl, rfl⟩, rfl⟩
  refine oG rfl hy3 (stp_lss rfl rfl) rfl (oD (stp_pick_f rfl hy3 rfl) rfl ?_)
  obtain rfl := sI ey3
  exact ow_nil (jy 5 0)
 refine ow_nil (kw_nx (cw_cond rfl (fun h5 => ?_) (fun h5 => ?_)))
 ·have H0 := cond_t H0 h5
  refine sr (oS rfl (oS rfl (nn (cw_ret (kw_nx_ret ?_)))))
  obtain rfl := sI H0
  exact kr Tryz.results130 (.cons (.tmp rfl) (rT rfl)) [] ⟨rfl, rfl⟩
 have H0 := cond_f H0 h5
 obtain ⟨x6, e6, H0⟩ := bS H0
 obtain ⟨x7, e7, H0⟩ := bS H0
 refine cw_skip (kw_nx (cw_seq (rdq g_mixed [1, 2] [0] { dst := dS [16, 17, 18, 19, 20, 21, 22, 23, 5, 6], pre := gA [] [[], [0], [], [], [2, 3], rn 0 5, rn 0 6, rn 0 7, rn 0 8, rn 0 9], ids := fun _ => [], rs := rL [[(2, 0)], [(15, 1)], [(2, 0)], [(1, 0)], [(17, 3), (18, 4)], [(16, 2), (19, 5)], [(20, 6)], [(21, 7)], [(22, 8)], []], rh := rL [[], [(0, 0)], [(0, 0)]], V := fun i g => gA undef [.pointer (some ⟨b1, 3, none⟩), .slice p0_0 ((a0.o).length) c0_0, .agg #[.int .i64 a0.c, .int .i64 a0.n, .int .i64 a0.r, .slice p0_0 ((a0.o).length) c0_0], .int .i64 a1, .int .i64 x6, .pointer (some ⟨eB p0_0, eO p0_0 + Int.toNat x6 * Enc.sz Ow + 0, none⟩), .pointer (some ⟨eB p0_0, eO p0_0 + Int.toNat x6 * Enc.sz Ow + 1, none⟩), .int .i64 x7.tg, .int .i64 x7.tg, .bool true] i, U := fun _ _ => [], Φ := fun _ _ => True } ?_ ?_)))
 ·refine ⟨lc rfl rfl fun hs hh => stp_fieldAddr (j := 3) Tryz.underlying32 rfl ts30 rfl (sv hs 2 rfl) rfl, lc rfl rfl fun hs hh => stp_load1 ts30 (sv hs 15 rfl) (Cells.box (id := 0) (hh.get 0 _ rfl) 1 rfl), lc rfl rfl fun hs hh => stp_loadN (us := [_, _, _, _]) ts32 (sv hs 2 rfl) (Cells.box (id := 0) (hh.get 0 _ rfl) 4 rfl), lM, ?_, lc rfl rfl fun hs hh => stp_indexAddr Tryz.underlying30 ts118 (by decide) (sv hs 16 rfl) rfl (sv hs 19 rfl) (Rdb.ro hr0_0) e7, lc rfl rfl fun hs hh => stp_fieldAddr (j := 1) Tryz.underlying118 rfl ts3 rfl (sv hs 20 rfl) rfl, lc rfl rfl fun hs hh => stp_load1 ts3 (sv hs 21 rfl) (Cells.el (Rdb.ro hr0_0) (by decide) e7 1 1 rfl), lS, lc rfl rfl fun hs hh => stp_assign rfl, trivial⟩
  refine le rfl rfl (fun g hΦ s h hs hh => (stpU_call (fun i => 1 + i) cf57 (fun w hw => c_i_Tags_own fl w a0 a1 rfl (RO.pass hr0_0 hw) x6 e6) (yB (sv hs 17 rfl) (sv hs 18 rfl)))) ?_
  rintro g _ _ ⟨_, ⟨rfl, rfl⟩, rfl⟩
  exact ⟨⟨[], [], []⟩, trivial, .inr rfl, rfl⟩
 intro g hΦ
 refine KW.sub (s' := [(4, .int .i64 x7.tg), (5, .bool true)]) (h' := []) ?_ ⟨rfl, rfl, trivial⟩ trivial
 refine kw_nx (cw_ret ?_)
 obtain rfl := sI H0
 exact kr Tryz.results130 (.cons (.tmp rfl) (rT rfl)) [] ⟨rfl, rfl⟩

theorem c_i_Machine_tagFor (fl : Nat) (w : World) (a0 : Mc) (a1 : Int) (a2 : Int) (hn0_0 : n0_0 = (a0.t.b).length) (hr0_0 : RO w (hkeys []) (RdL p0_0 c0_0 a0.t.b)) (hn0_1 : n0_1 = (a0.t.f).length) (hr0_1 : RO w (hkeys []) (RdL p0_1 c0_1 a0.t.f)) (hn0_2 : n0_2 = (a0.c.l).length) (hr0_2 : RO w (hkeys []) (RdL p0_2 c0_2 a0.c.l)) (hn0_3 : n0_3 = (a0.g.o).length) (hr0_3 : RO w (hkeys []) (RdL p0_3 c0_3 a0.g.o)) (r : Int × Bool) (H0 : i_Machine_tagFor fl a0 a1 a2 = some r) :
  Ct Tryz.prog 81 [.agg #[.slice p0_0 n0_0 c0_0, .slice p0_1 n0_1 c0_1, .slice p0_2 n0_2 c0_2, .int .i64 a0.c.h, .int .i64 a0.g.c, .int .i64 a0.g.n, .int .i64 a0.g.r, .slice p0_3 n0_3 c0_3, .int .i64 a0.s], .int .i64 a1, .int .i64 a2] w [] (fun rv h' => rv = .tuple #[.int .i64 r.1, .bool r.2] ∧ h' = []) := by
 subst hn0_0 hn0_1 hn0_2 hn0_3
 unfold i_Machine_tagFor at H0
 refine ct_of_cw Tryz.func81 rfl Tryz.ntmps81 rfl (Sat.refl _ _) ?_
 refine sr (oE (stpU_box 0 rfl rfl) rfl ?_)
 rintro _ _ ⟨b1, rfl, rfl⟩
 refine oS rfl (oS rfl (nn (cw_seq (sr (oM rfl (oI rfl (nn (cw_cond rfl (fun h2 => ?_) (fun h2 => ?_)))))))))
 ·have H0 := cond_t H0 h2
  refine sr (oS rfl (oS rfl (nn (cw_ret (kw_nx_ret ?_)))))
  obtain rfl := sI H0
  exact kr Tryz.results81 (.cons (.tmp rfl) (rT rfl)) [] ⟨rfl, rfl⟩
 have H0 := cond_f H0 h2
 obtain ⟨x3, e3, H0⟩ := bS H0
 refine cw_skip (kw_nx (sr (oA 4 Tryz.underlying34 rfl ts32 rfl (oB4 0 ts32 rfl (oM rfl (oE (stpU_call (fun i => 1 + i) cf130 (fun w hw => c_i_TagOf fl w a0.g a1 rfl (RO.pass hr0_3 hw) x3 e3) (yB rfl rfl)) rfl ?_))))))
 rintro _ _ ⟨_, ⟨rfl, rfl⟩, rfl⟩
 refine oT rfl (oT rfl (oS rfl (oS rfl (nn (cw_ret ?_)))))
 obtain rfl := sI H0
 exact kr Tryz.results81 (.cons (.tmp rfl) (rT rfl)) [] ⟨rfl, rfl⟩

theorem c_i_Cache_place_1 (fl : Nat) (w : World) (a0 : Ln) (qc0 : Nat) (ac0 : Int) (qc1 : Nat) (ac1 : Int) (hbac0 : RO w (hkeys []) (fun w' => w'.rangeAt qc0 0 [.int .i64 ac0])) (hbac1 : RO w (hkeys []) (fun w' => w'.rangeAt qc1 0 [.int .i64 ac1])) (r : Bool) (H0 : i_Cache_place_1 fl a0 ac0 ac1 = some r) :
  Ct Tryz.prog 132 [.agg #[.bool a0.va, .int .i64 a0.tg, .int .i64 a0.pg, .int .i64 a0.fr, .int .i64 a0.ri, .bool a0.wi], .pointer (some ⟨qc0, 0, none⟩), .pointer (some ⟨qc1, 0, none⟩)] w [] (fun rv h' => rv = .bool r ∧ h' = []) := by
 unfold i_Cache_place_1 at H0
 refine ct_of_cw Tryz.func132 rfl Tryz.ntmps132 rfl (Sat.refl _ _) ?_
 refine sr (oE (stpU_box 0 rfl rfl) rfl ?_)
 rintro _ _ ⟨b1, rfl, rfl⟩
 obtain ⟨y2, ey2, H0⟩ := bS H0
 refine oS rfl (nn (sr (oA 0 Tryz.underlying41 rfl ts4 rfl (oL 0 ts4 rfl (oM rfl (ow_cutY 5 12 y2 ?_ ?_))))))
 ·rcases Bool.eq_false_or_eq_true a0.va with hy2 | hy2
  ·have ey2 := cond_t ey2 hy2
   refine oG rfl hy2 (fA 2 Tryz.underlying41 rfl ts3 rfl rfl rfl) rfl (oG rfl hy2 (lB 0 ts3 rfl rfl rfl) rfl (oG rfl hy2 (stp_load1 ts3 rfl (Cells.ofRO hbac0 1 rfl)) rfl (oG rfl hy2 (stp_eql rfl rfl) rfl (oD (stp_pick_t rfl hy2 rfl) rfl ?_))))
   obtain rfl := sI ey2
   exact ow_nil (jy 5 0)
  have ey2 := cond_f ey2 hy2
  refine oO rfl hy2 rfl (oO rfl hy2 rfl (oO rfl hy2 rfl (oO rfl hy2 rfl (oD (stp_pick_f rfl hy2 rfl) rfl ?_))))
  obtain rfl := sI ey2
  exact ow_nil (jy 5 0)
 obtain ⟨y3, ey3, H0⟩ := bS H0
 refine oM rfl (ow_cutY 10 23 y3 ?_ ?_)
 ·rcases Bool.eq_false_or_eq_true y2 with hy3 | hy3
  ·have ey3 := cond_t ey3 hy3
   obtain ⟨y4, ey4, ey3⟩ := bS ey3
   refine oG rfl hy3 (fA 1 Tryz.underlying41 rfl ts3 rfl rfl rfl) rfl (oG rfl hy3 (lB 0 ts3 rfl rfl rfl) rfl (oG rfl hy3 (stp_load1 ts3 rfl (Cells.ofRO hbac1 1 rfl)) rfl (oG rfl hy3 (stp_eql rfl rfl) rfl (oG rfl hy3 (mv rfl) rfl (ow_cutY 4 22 y4 ?_ ?_)))))
   ·rcases Bool.eq_false_or_eq_true (a0.tg == ac1) with hy4 | hy4
    ·have ey4 := cond_t ey4 hy4
     refine oO rfl hy4 rfl (oO rfl hy4 rfl (oO rfl hy4 rfl (oG rfl hy3 (stp_pick_t rfl hy4 rfl) rfl ?_)))
     obtain rfl := sI ey4
     exact ow_nil (jy 4 0)
    have ey4 := cond_f ey4 hy4
    refine oG rfl hy4 (fA 1 Tryz.underlying41 rfl ts3 rfl rfl rfl) rfl (oG rfl hy4 (lB 0 ts3 rfl rfl rfl) rfl (oG rfl hy4 (stp_eql rfl rfl) rfl (oG rfl hy3 (stp_pick_f rfl hy4 rfl) rfl ?_)))
    obtain rfl := sI ey4
    exact ow_nil (jy 4 0)
   refine oD (stp_pick_t rfl hy3 rfl) rfl ?_
   obtain rfl := sI ey3
   exact ow_nil (jy 7 0)
  have ey3 := cond_f ey3 hy3
  refine oO rfl hy3 rfl (oO rfl hy3 rfl (oO rfl hy3 rfl (oO rfl hy3 rfl (oO rfl hy3 rfl (oX rfl rfl rfl (oX rfl rfl rfl (oX rfl rfl rfl (oO rfl hy3 rfl (oD (stp_pick_f rfl hy3 rfl) rfl ?_)))))))))
  obtain rfl := sI ey3
  exact ow_nil (jy 10 0)
 refine oS rfl (nn (cw_ret ?_))
 obtain rfl := sI H0
 exact kr Tryz.results132 (rT rfl) [] ⟨rfl, rfl⟩

theorem c_slices_IndexFunc_Line_of_i_Cache_place_1 (fl : Nat) (w : World) (a0 : (List Ln)) (q1_0 : Nat) (a1_0 : Int) (q1_1 : Nat) (a1_1 : Int) (hn0_0 : n0_0 = (a0).length) (hr0_0 : RO w (hkeys []) (RdL p0_0 c0_0 a0)) (hba1_0 : RO w (hkeys []) (fun w' => w'.rangeAt q1_0 0 [.int .i64 a1_0])) (hba1_1 : RO w (hkeys []) (fun w' => w'.rangeAt q1_1 0 [.int .i64 a1_1])) (r : Int) (H0 : slices_IndexFunc_Line_of_i_Cache_place_1 fl a0 a1_0 a1_1 = some r) :
  Ct Tryz.prog 131 [.slice p0_0 n0_0 c0_0, .func (.func 132) #[] #[.pointer (some ⟨q1_0, 0, none⟩), .pointer (some ⟨q1_1, 0, none⟩)]] w [] (fun rv h' => rv = .int .i64 r ∧ h' = []) := by
 subst hn0_0
 unfold slices_IndexFunc_Line_of_i_Cache_place_1 at H0
 refine ct_of_cw Tryz.func131 rfl Tryz.ntmps131 rfl (Sat.refl _ _) ?_
 obtain ⟨o0_0, eo0_0, H0⟩ := bS H0
 refine sr (oS rfl (nn (cw_seq (sr (oM rfl (oD (stp_len Tryz.underlying27 rfl) rfl (oM rfl (nn (cw_join (ι := Int) (fun | v1 => o0_0 = .out v1) (fun | v1 => [(0, .slice p0_0 ((a0).length) c0_0), (1, .func (.func 132) #[] #[.pointer (some ⟨q1_0, 0, none⟩), .pointer (some ⟨q1_1, 0, none⟩)]), (7, .int .i64 ((a0).length : Int)), (8, .int .i64 v1)]) (fun | v1 => []) ?_ ?_)))))))))
 ·refine cw_block (cw_loopS (ι := Nat × Int) (js := []) (fun x => x.1) (fun | (fuel, v1) => slices_IndexFunc_Line_of_i_Cache_place_1_L0 fl a0 a1_0 a1_1 fuel v1 = some o0_0) (fun | (_, v1) => [(0, .slice p0_0 ((a0).length) c0_0), (1, .func (.func 132) #[] #[.pointer (some ⟨q1_0, 0, none⟩), .pointer (some ⟨q1_1, 0, none⟩)]), (7, .int .i64 ((a0).length : Int)), (8, .int .i64 v1)]) (fun | (_, v1) => []) (fl, 0) eo0_0 ⟨rfl, rfl, rfl, rfl, trivial⟩ trivial (by decide) ?_)
  rintro ⟨fuel, v1⟩ H1
  have H1 : slices_IndexFunc_Line_of_i_Cache_place_1_L0 fl a0 a1_0 a1_1 fuel v1 = some o0_0 := H1
  rcases fuel with _ | fuel
  ·rw [slices_IndexFunc_Line_of_i_Cache_place_1_L0.eq_1] at H1; cases H1
  rw [slices_IndexFunc_Line_of_i_Cache_place_1_L0.eq_2] at H1
  dsimp only
  refine sr (oW rfl (nn (cw_seq (cw_cond rfl (fun h2 => ?_) (fun h2 => ?_)))))
  ·have H1 := cond_t H1 h2
   obtain ⟨x3, e3, H1⟩ := bS H1
   refine cw_skip (kw_nx (cw_seq (cw_block (sr (oM rfl (oS rfl (nn (sr (oM rfl (oM rfl (oM rfl (oD (stp_indexAddr Tryz.underlying27 ts41 (by decide) rfl rfl rfl (Rdb.ro hr0_0) e3) rfl (oD (stp_loadN (us := [_, _, _, _, _, _]) ts41 rfl (Cells.el (Rdb.ro hr0_0) (by decide) e3 0 6 rfl)) rfl ?_)))))))))))))
   obtain ⟨x4, e4, H1⟩ := bS H1
   refine oE (stpU_callF (vals := [_]) (ca := [_, _]) (fun i => 0 + i) cf132 (fun w hw => c_i_Cache_place_1 fl w x3 q1_0 a1_0 q1_1 a1_1 (RO.pass hba1_0 hw) (RO.pass hba1_1 hw) x4 e4) rfl (yA rfl)) rfl ?_
   rintro _ _ ⟨_, ⟨rfl, rfl⟩, rfl⟩
   refine nn (cw_cond rfl (fun h5 => ?_) (fun h5 => ?_))
   ·have H1 := cond_t H1 h5
    refine sr (oM rfl (oS rfl (nn (cw_ret (kw_bl_ret (kw_nx_ret (kw_lq_ret (kw_bl_ret (kw_join_ret (kw_nx_ret ?_))))))))))
    obtain rfl := sI H1
    obtain rfl := sI H0
    exact kr Tryz.results131 (rT rfl) [] ⟨rfl, rfl⟩
   have H1 := cond_f H1 h5
   obtain ⟨x6, e6, H1⟩ := bS H1
   exact cw_skip (kw_bl_normal (kw_nx (cw_region (oP e6 rfl (oM rfl (ow_nil (kw_lqS (js := []) (fuel, x6) H1 (Nat.lt_succ_self _) ⟨rfl, rfl, rfl, rfl, trivial⟩ trivial (by decide))))))))
  have H1 := cond_f H1 h2
  refine cw_exit (kw_nx_exit (kw_lq_exit (kw_bl ?_)))
  obtain rfl := sI H1
  exact kw_joinS (js := []) v1 rfl ⟨rfl, rfl, rfl, rfl, trivial⟩ trivial (by decide)
 rintro v1 rfl
 dsimp only
 refine kw_nx (sr (oS rfl (nn (cw_ret ?_))))
 obtain rfl := sI H0
 exact kr Tryz.results131 (rT rfl) [] ⟨rfl, rfl⟩

theorem c_i_Cache_place (fl : Nat) (w : World) (a0 : Ca) (a1 : Int) (a2 : Int) (hn0_0 : n0_0 = (a0.l).length) (hr0_0 : RO w (hkeys []) (RdL p0_0 c0_0 a0.l)) (r : Int) (H0 : i_Cache_place fl a0 a1 a2 = some r) :
  Ct Tryz.prog 82 [.agg #[.slice p0_0 n0_0 c0_0, .int .i64 a0.h], .int .i64 a1, .int .i64 a2] w [] (fun rv h' => rv = .int .i64 r ∧ h' = []) := by
 subst hn0_0
 unfold i_Cache_place at H0
 refine ct_of_cw Tryz.func82 rfl Tryz.ntmps82 rfl (Sat.refl _ _) ?_
 refine sr (oE (stpU_box 0 rfl rfl) rfl ?_)
 rintro _ _ ⟨b1, rfl, rfl⟩
 refine oE (stpU_box 1 rfl rfl) rfl ?_
 rintro _ _ ⟨b2, rfl, rfl⟩
 refine oE (stpU_box 2 rfl rfl) rfl ?_
 rintro _ _ ⟨b3, rfl, rfl⟩
 obtain ⟨x4, e4, H0⟩ := bS H0
 refine oS rfl (nn (sr (oA 0 Tryz.underlying29 rfl ts27 rfl (oL 0 ts27 rfl (oD (stp_makeFunc (yB rfl rfl)) rfl (oE (stpU_call (fun i => 3 + i) cf131 (fun w hw => c_slices_IndexFunc_Line_of_i_Cache_place_1 fl w a0.l b3 a2 b2 a1 rfl (RO.pass hr0_0 hw) (box_pass (id := 2) rfl hw) (box_pass (id := 1) rfl hw) x4 e4) (yB rfl rfl)) rfl ?_))))))
 rintro _ _ ⟨_, ⟨rfl, rfl⟩, rfl⟩
 refine oS rfl (nn (cw_ret ?_))
 obtain rfl := sI H0
 exact kr Tryz.results82 (rT rfl) [] ⟨rfl, rfl⟩

theorem c_i_Allows (fl : Nat) (w : World) (a0 : Int) (a1 : Int) (r : Bool) (H0 : i_Allows fl a0 a1 = some r) :
  Ct Tryz.prog 35 [.int .i64 a0, .int .i64 a1] w [] (fun rv h' => rv = .bool r ∧ h' = []) := by
 unfold i_Allows at H0
 refine ct_of_cw Tryz.func35 rfl Tryz.ntmps35 rfl (Sat.refl _ _) ?_
 obtain ⟨x1, e1, H0⟩ := bS H0
 refine sr (oS rfl (nn (sr (oM rfl (oE (stpU_call (fun i => 0 + i) cf80 (fun w hw => c_i_RightsValid fl w a0 x1 e1) (yA rfl)) rfl ?_)))))
 rintro _ _ ⟨_, ⟨rfl, rfl⟩, rfl⟩
 obtain ⟨y2, ey2, H0⟩ := bS H0
 refine oM rfl (ow_cutY 3 10 y2 ?_ ?_)
 ·rcases Bool.eq_false_or_eq_true x1 with hy2 | hy2
  ·have ey2 := cond_t ey2 hy2
   obtain ⟨x3, e3, ey2⟩ := bS ey2
   refine oG rfl hy2 (mv rfl) rfl (ow_eff (.some rfl hy2) (stpU_call (fun i => 0 + i) cf80 (fun w hw => c_i_RightsValid fl w a1 x3 e3) (yA rfl)) rfl ?_)
   rintro _ _ ⟨_, ⟨rfl, rfl⟩, rfl⟩
   refine oD (stp_pick_t rfl hy2 rfl) rfl ?_
   obtain rfl := sI ey2
   exact ow_nil (jy 3 0)
  have ey2 := cond_f ey2 hy2
  refine oO rfl hy2 rfl (oO rfl hy2 rfl (oD (stp_pick_f rfl hy2 rfl) rfl ?_))
  obtain rfl := sI ey2
  exact ow_nil (jy 3 0)
 obtain ⟨y4, ey4, H0⟩ := bS H0
 refine oM rfl (ow_cutY 5 16 y4 ?_ ?_)
 ·rcases Bool.eq_false_or_eq_true y2 with hy4 | hy4
  ·have ey4 := cond_t ey4 hy4
   refine oG rfl hy4 (mv rfl) rfl (oG rfl hy4 (mv rfl) rfl (oG rfl hy4 (stp_andNot rfl rfl) rfl (oG rfl hy4 (stp_eql rfl rfl) rfl (oD (stp_pick_t rfl hy4 rfl) rfl ?_))))
   obtain rfl := sI ey4
   exact ow_nil (jy 5 0)
  have ey4 := cond_f ey4 hy4
  refine oO rfl hy4 rfl (oO rfl hy4 rfl (oO rfl hy4 rfl (oO rfl hy4 rfl (oD (stp_pick_f rfl hy4 rfl) rfl ?_))))
  obtain rfl := sI ey4
  exact ow_nil (jy 5 0)
 refine oS rfl (nn (cw_ret ?_))
 obtain rfl := sI H0
 exact kr Tryz.results35 (rT rfl) [] ⟨rfl, rfl⟩

theorem c_i_VictimOf (fl : Nat) (w : World) (a0 : Ca) (hn0_0 : n0_0 = (a0.l).length) (hr0_0 : RO w (hkeys []) (RdL p0_0 c0_0 a0.l)) (r : Int × Bool) (H0 : i_VictimOf fl a0 = some r) :
  Ct Tryz.prog 133 [.agg #[.slice p0_0 n0_0 c0_0, .int .i64 a0.h]] w [] (fun rv h' => rv = .tuple #[.int .i64 r.1, .bool r.2] ∧ h' = []) := by
 subst hn0_0
 unfold i_VictimOf at H0
 refine ct_of_cw Tryz.func133 rfl Tryz.ntmps133 rfl (Sat.refl _ _) ?_
 refine sr (oE (stpU_box 0 rfl rfl) rfl ?_)
 rintro _ _ ⟨b1, rfl, rfl⟩
 obtain ⟨x2, e2, H0⟩ := bS H0
 refine oS rfl (oS rfl (nn (cw_seq (sr (oB2 0 ts29 rfl (oE (stpU_call (fun i => 1 + i) cf55 (fun w hw => c_i_CacheValid fl w a0 rfl (RO.pass hr0_0 hw) x2 e2) (yA rfl)) rfl ?_))))))
 rintro _ _ ⟨_, ⟨rfl, rfl⟩, rfl⟩
 refine oK rfl (nn (cw_cond rfl (fun h3 => ?_) (fun h3 => ?_)))
 ·have H0 := cond_t H0 h3
  refine sr (oS rfl (oS rfl (nn (cw_ret (kw_nx_ret ?_)))))
  obtain rfl := sI H0
  exact kr Tryz.results133 (.cons (.tmp rfl) (rT rfl)) [] ⟨rfl, rfl⟩
 have H0 := cond_f H0 h3
 obtain ⟨o0_0, eo0_0, H0⟩ := bS H0
 refine cw_skip (kw_nx (cw_seq (sr (oA 0 Tryz.underlying29 rfl ts27 rfl (oL 0 ts27 rfl (oD (stp_len Tryz.underlying27 rfl) rfl (oM rfl (nn (cw_join (ι := Int) (fun | v4 => o0_0 = .out v4) (fun | v4 => [(1, .pointer (some ⟨b1, 0, none⟩)), (11, .slice p0_0 ((a0.l).length) c0_0), (12, .int .i64 ((a0.l).length : Int)), (13, .int .i64 v4)]) (fun | v4 => [(0, [(b1, .cells #[.slice p0_0 ((a0.l).length) c0_0, .int .i64 a0.h] 29 (0, 0))])]) ?_ ?_)))))))))
 ·refine cw_block (cw_loopS (ι := Nat × Int) (js := [0]) (fun x => x.1) (fun | (fuel, v4) => i_VictimOf_L0 fl a0 fuel v4 = some o0_0) (fun | (_, v4) => [(1, .pointer (some ⟨b1, 0, none⟩)), (11, .slice p0_0 ((a0.l).length) c0_0), (12, .int .i64 ((a0.l).length : Int)), (13, .int .i64 v4)]) (fun | (_, v4) => [(0, [(b1, .cells #[.slice p0_0 ((a0.l).length) c0_0, .int .i64 a0.h] 29 (0, 0))])]) (fl, 0) eo0_0 ⟨rfl, rfl, rfl, rfl, trivial⟩ ⟨0, [], rfl, rfl, trivial⟩ (by decide) ?_)
  rintro ⟨fuel, v4⟩ H1
  have H1 : i_VictimOf_L0 fl a0 fuel v4 = some o0_0 := H1
  rcases fuel with _ | fuel
  ·rw [i_VictimOf_L0.eq_1] at H1; cases H1
  rw [i_VictimOf_L0.eq_2] at H1
  dsimp only
  refine sr (oW rfl (nn (cw_seq (cw_cond rfl (fun h5 => ?_) (fun h5 => ?_)))))
  ·have H1 := cond_t H1 h5
   obtain ⟨x6, e6, H1⟩ := bS H1
   refine cw_skip (kw_nx (cw_seq (cw_block (sr (oM rfl (oD (stp_indexAddr Tryz.underlying27 ts41 (by decide) rfl rfl rfl (Rdb.ro hr0_0) e6) rfl (oD (stp_loadN (us := [_, _, _, _, _, _]) ts41 rfl (Cells.el (Rdb.ro hr0_0) (by decide) e6 0 6 rfl)) rfl (oE (stpU_alloc 1 tz41 rfl) rfl ?_))))))))
   rintro _ _ ⟨b7, rfl, rfl⟩
   refine oS rfl (oC6 1 ts41 rfl rfl (nn (sr (oA 0 Tryz.underlying41 rfl ts4 rfl (oL 1 ts4 rfl (oK rfl (nn (cw_cond rfl (fun h8 => ?_) (fun h8 => ?_)))))))))
   ·have H1 := cond_t H1 h8
    refine sr (oM rfl (oS rfl (oS rfl (nn (cw_ret (kw_bl_ret (kw_nx_ret (kw_lq_ret (kw_bl_ret (kw_join_ret (kw_nx_ret ?_)))))))))))
    obtain rfl := sI H1
    obtain rfl := sI H0
    exact kr Tryz.results133 (.cons (.tmp rfl) (rT rfl)) [] ⟨rfl, rfl⟩
   have H1 := cond_f H1 h8
   obtain ⟨x9, e9, H1⟩ := bS H1
   exact cw_skip (kw_bl_normal (kw_nx (cw_region (oP e9 rfl (oM rfl (ow_nil (kw_lqS (js := [0]) (fuel, x9) H1 (Nat.lt_succ_self _) ⟨rfl, rfl, rfl, rfl, trivial⟩ ⟨0, [], rfl, rfl, trivial⟩ (by decide))))))))
  have H1 := cond_f H1 h5
  refine cw_exit (kw_nx_exit (kw_lq_exit (kw_bl ?_)))
  obtain rfl := sI H1
  exact kw_joinS (js := [0]) v4 rfl ⟨rfl, rfl, rfl, rfl, trivial⟩ ⟨0, [], rfl, rfl, trivial⟩ (by decide)
 rintro v4 rfl
 dsimp only
 obtain ⟨o0_1, eo0_1, H0⟩ := bS H0
 refine kw_nx (sr (oA 1 Tryz.underlying29 rfl ts3 rfl (oL 0 ts3 rfl (oS rfl (nn (cw_seq (cw_join (ι := Int) (fun | v10 => o0_1 = .out v10) (fun | v10 => [(1, .pointer (some ⟨b1, 0, none⟩)), (6, .int .i64 v10)]) (fun | v10 => [(0, [(b1, .cells #[.slice p0_0 ((a0.l).length) c0_0, .int .i64 a0.h] 29 (0, 0))])]) ?_ ?_)))))))
 ·refine cw_block (cw_loopS (ι := Nat × Int) (js := [0]) (fun x => x.1) (fun | (fuel, v10) => i_VictimOf_L1 fl a0 fuel v10 = some o0_1) (fun | (_, v10) => [(1, .pointer (some ⟨b1, 0, none⟩)), (6, .int .i64 v10)]) (fun | (_, v10) => [(0, [(b1, .cells #[.slice p0_0 ((a0.l).length) c0_0, .int .i64 a0.h] 29 (0, 0))])]) (fl, a0.h) eo0_1 ⟨rfl, rfl, trivial⟩ ⟨0, [], rfl, rfl, trivial⟩ (by decide) ?_)
  rintro ⟨fuel, v10⟩ H1
  have H1 : i_VictimOf_L1 fl a0 fuel v10 = some o0_1 := H1
  rcases fuel with _ | fuel
  ·rw [i_VictimOf_L1.eq_1] at H1; cases H1
  rw [i_VictimOf_L1.eq_2] at H1
  dsimp only
  obtain ⟨x11, e11, H1⟩ := bS H1
  refine cw_seq (sr (oA 0 Tryz.underlying29 rfl ts27 rfl (oL 0 ts27 rfl (oM rfl (oD (stp_indexAddr Tryz.underlying27 ts41 (by decide) rfl rfl rfl (Rdb.ro hr0_0) e11) rfl (oA 5 Tryz.underlying41 rfl ts4 rfl (oD (stp_load1 ts4 rfl (Cells.el (Rdb.ro hr0_0) (by decide) e11 5 1 rfl)) rfl (nn (cw_cond rfl (fun h12 => ?_) (fun h12 => ?_))))))))))
  ·have H1 := cond_t H1 h12
   obtain ⟨x13, e13, H1⟩ := bS H1
   obtain ⟨x14, e14, H1⟩ := bS H1
   exact cw_skip (kw_nx (cw_block (cw_region (oM rfl (oP e13 rfl (oA 0 Tryz.underlying29 rfl ts27 rfl (oL 0 ts27 rfl (oD (stp_len Tryz.underlying27 rfl) rfl (oD (stp_rem rfl rfl e14) rfl (oS rfl (ow_nil (kw_bl_normal (kw_lqS (js := [0]) (fuel, x14) H1 (Nat.lt_succ_self _) ⟨rfl, rfl, trivial⟩ ⟨0, [], rfl, rfl, trivial⟩ (by decide))))))))))))))
  have H1 := cond_f H1 h12
  refine cw_exit (kw_nx_exit (kw_lq_exit (kw_bl ?_)))
  obtain rfl := sI H1
  exact kw_joinS (js := [0]) v10 rfl ⟨rfl, rfl, trivial⟩ ⟨0, [], rfl, rfl, trivial⟩ (by decide)
 rintro v10 rfl
 dsimp only
 refine kw_nx (sr (oM rfl (oS rfl (oS rfl (nn (cw_ret ?_))))))
 obtain rfl := sI H0
 exact kr Tryz.results133 (.cons (.tmp rfl) (rT rfl)) [] ⟨rfl, rfl⟩

theorem c_i_Cache_with (fl : Nat) (w : World) (a0 : Ca) (a1 : Int) (a2 : Ln) (hn0_0 : n0_0 = (a0.l).length) (hr0_0 : RO w (hkeys []) (RdL p0_0 c0_0 a0.l)) (r : Ca) (H0 : i_Cache_with fl a0 a1 a2 = some r) :
  Ct Tryz.prog 134 [.agg #[.slice p0_0 n0_0 c0_0, .int .i64 a0.h], .int .i64 a1, .agg #[.bool a2.va, .int .i64 a2.tg, .int .i64 a2.pg, .int .i64 a2.fr, .int .i64 a2.ri, .bool a2.wi]] w [] (fun rv h' => ∃ (x0 : Option Addr) (y0 z0 : Nat) (C0 : Res), rv = .agg #[.slice x0 y0 z0, .int .i64 r.h] ∧ h' = [(0, C0)] ∧ y0 = (r.l).length ∧ OwnC 41 x0 z0 r.l C0) := by
 subst hn0_0
 unfold i_Cache_with at H0
 refine ct_of_cw Tryz.func134 rfl Tryz.ntmps134 rfl (Sat.refl _ _) ?_
 refine sr (oE (stpU_box 0 rfl rfl) rfl ?_)
 rintro _ _ ⟨b1, rfl, rfl⟩
 refine oE (stpU_box 1 rfl rfl) rfl ?_
 rintro _ _ ⟨b2, rfl, rfl⟩
 refine oE (stpU_alloc 2 tz29 rfl) rfl ?_
 rintro _ _ ⟨b3, rfl, rfl⟩
 obtain ⟨x4, e4, H0⟩ := bS H0
 refine nn (cw_seq (rdq g_mixed [3] [0] { dst := dS [9, 10, 11, 12, 13, 14, 15, 8, 0], pre := gA [] [[], [0], [0, 1], [0, 1, 2], [], [4], rn 0 6, [], rn 0 8], ids := gA [] [[], [], [3], [], [], [], [], [4], [4]], rs := rL [[(3, 0)], [(8, 1)], [(9, 2)], [(10, 3)], [(3, 0)], [(12, 5)], [(11, 4), (13, 6)], [], [(7, 8), (14, 7)]], rh := rL [[], [(0, 0)], [], [], [], [(0, 0)], [], [], [(4, 8)]], V := fun i g => gA undef [.pointer (some ⟨b1, 0, none⟩), .slice p0_0 ((a0.l).length) c0_0, .slice ((g 2).A 0) ((x4).length) ((g 2).C 0), .slice ((g 2).A 0) ((x4).length) ((x4).length), .pointer (some ⟨b1, 1, none⟩), .int .i64 a0.h, .agg #[.slice ((g 2).A 0) ((x4).length) ((x4).length), .int .i64 a0.h], .pointer (some ⟨((g 7).C 0), 0, none⟩)] i, U := fun i g => gA [] [[], [], [(3, ((g 2).R 0))], [], [], [], [], [(4, [(((g 7).C 0), .cells #[.slice none 0 0, .int .i64 0] 29 (0, 0))])], [(4, [(((g 7).C 0), .cells #[.slice ((g 2).A 0) ((x4).length) ((x4).length), .int .i64 a0.h] 29 (0, 0))])]] i, Φ := fun i x => gA True [True, True, OwnC 41 (x.A 0) (x.C 0) x4 (x.R 0)] i } ?_ ?_))
 ·refine ⟨lc rfl rfl fun hs hh => stp_fieldAddr (j := 0) Tryz.underlying29 rfl ts27 rfl (sv hs 3 rfl) rfl, lc rfl rfl fun hs hh => stp_load1 ts27 (sv hs 8 rfl) (Cells.box (id := 0) (hh.get 0 _ rfl) 1 rfl), ?_, ?_, lc rfl rfl fun hs hh => stp_fieldAddr (j := 1) Tryz.underlying29 rfl ts3 rfl (sv hs 3 rfl) rfl, lc rfl rfl fun hs hh => stp_load1 ts3 (sv hs 12 rfl) (Cells.box (id := 0) (hh.get 0 _ rfl) 1 rfl), ld rfl rfl fun g hΦ s h hs hh => stp_build (cs := #[.slice ((g 2).A 0) ((x4).length) ((x4).length), .int .i64 a0.h]) (sevp_cons (sv hs 11 rfl) (sevp_cons (sv hs 13 rfl) sevp_nil)) bt29_15, ?_, ?_, trivial⟩
  ·refine le rfl rfl (fun g hΦ s h hs hh => (stpU_call (fun i => 3 + i) cf100 (fun w hw => c_slices_Clone_Line fl w a0.l rfl (RO.pass hr0_0 hw) x4 e4) (yA (sv hs 9 rfl)))) ?_
   rintro g _ _ ⟨_, ⟨p5, _, c7, C8, rfl, rfl, rfl, o8⟩, rfl⟩
   exact ⟨⟨[p5], [c7], [C8]⟩, o8, .inr rfl, rfl⟩
  ·refine le rfl rfl (fun g hΦ s h hs hh => (stpU_call (fun i => i) cf99 (fun w hw => c_clip99 w ((g 2).A 0) ((x4).length) ((g 2).C 0) (OwnC.len (hΦ 2 rfl)).1) (yA (sv hs 10 rfl)))) ?_
   rintro g _ _ ⟨_, ⟨rfl, rfl⟩, rfl⟩
   exact ⟨⟨[], [], []⟩, trivial, .inr rfl, rfl⟩
  ·refine le rfl rfl (fun g hΦ s h hs hh => (stpU_alloc 4 tz29 rfl)) ?_
   rintro g _ _ ⟨b9, rfl, rfl⟩
   exact ⟨⟨[], [b9], []⟩, trivial, .inr rfl, rfl⟩
  refine le rfl rfl (fun g hΦ s h hs hh => (stpU_store (id := 4) (cs' := [.slice ((g 2).A 0) ((x4).length) ((x4).length), .int .i64 a0.h]) ts29 (sv hs 7 rfl) (sv hs 14 rfl) (hh.get 4 _ rfl) rfl rfl rfl rfl)) ?_
  rintro g _ _ rfl
  exact ⟨⟨[], [], []⟩, trivial, .inl rfl, rfl⟩
 intro g hΦ
 refine kw_gen (ι := Option Addr × Nat × Res × Nat) (((g 2).A 0), ((g 2).C 0), ((g 2).R 0), ((g 7).C 0)) (fun | (p5, c7, C8, b9) => OwnC 41 p5 c7 x4 C8) (fun | (p5, c7, C8, b9) => [(1, .int .i64 a1), (5, .pointer (some ⟨b2, 0, none⟩)), (6, .pointer (some ⟨b3, 0, none⟩)), (7, .pointer (some ⟨b9, 0, none⟩))]) (fun | (p5, c7, C8, b9) => [(1, [(b2, .cells #[.bool a2.va, .int .i64 a2.tg, .int .i64 a2.pg, .int .i64 a2.fr, .int .i64 a2.ri, .bool a2.wi] 41 (0, 0))]), (2, [(b3, .cells #[.slice none 0 0, .int .i64 0] 29 (0, 0))]), (3, C8), (4, [(b9, .cells #[.slice p5 ((x4).length) ((x4).length), .int .i64 a0.h] 29 (0, 0))])]) (hΦ 2 (by decide)) ⟨rfl, rfl, rfl, rfl, trivial⟩ ⟨rfl, rfl, rfl, rfl, trivial⟩ ?_
 rintro ⟨p5, c7, C8, b9⟩ o8
 have o8 : OwnC 41 p5 c7 x4 C8 := o8
 dsimp only
 obtain ⟨x10, e10, H0⟩ := bS H0
 refine kw_nx (sr (oA 0 Tryz.underlying29 rfl ts27 rfl (oL 4 ts27 rfl (oM rfl (oB6 1 ts41 rfl (oD (stp_indexAddr Tryz.underlying27 ts41 (by decide) rfl rfl rfl (Rdb.own (id := 3) rfl (OwnC.clip o8)) e10) rfl (oF (stpU_storeEl (id := 3) (i := 0) a2 (by decide) ts41 rfl rfl rfl (OwnC.clip o8) e10 rfl rfl rfl rfl) ?_)))))))
 rintro _ _ ⟨C11, rfl, o11⟩
 refine nn (sr (oB2 4 ts29 rfl (oC2 2 ts29 rfl rfl (nn (cw_ret ?_)))))
 obtain rfl := sI H0
 exact kr Tryz.results134 (rC2 2 ts29 rfl rfl) [3] ⟨_, _, _, _, rfl, rfl, (by simp), o11⟩

theorem c_i_FillLine (fl : Nat) (w : World) (a0 : Ca) (a1 : Ln) (hn0_0 : n0_0 = (a0.l).length) (hr0_0 : RO w (hkeys []) (RdL p0_0 c0_0 a0.l)) (r : Ca × Int × Bool) (H0 : i_FillLine fl a0 a1 = some r) :
  Ct Tryz.prog 83 [.agg #[.slice p0_0 n0_0 c0_0, .int .i64 a0.h], .agg #[.bool a1.va, .int .i64 a1.tg, .int .i64 a1.pg, .int .i64 a1.fr, .int .i64 a1.ri, .bool a1.wi]] w [] (fun rv h' => ∃ (x0 : Option Addr) (y0 z0 : Nat) (C0 : Res), rv = .tuple #[.agg #[.slice x0 y0 z0, .int .i64 r.1.h], .int .i64 r.2.1, .bool r.2.2] ∧ h' = [(0, C0)] ∧ y0 = (r.1.l).length ∧ OwnC 41 x0 z0 r.1.l C0) := by
 subst hn0_0
 unfold i_FillLine at H0
 refine ct_of_cw Tryz.func83 rfl Tryz.ntmps83 rfl (Sat.refl _ _) ?_
 refine sr (oE (stpU_box 0 rfl rfl) rfl ?_)
 rintro _ _ ⟨b1, rfl, rfl⟩
 refine oE (stpU_box 1 rfl rfl) rfl ?_
 rintro _ _ ⟨b2, rfl, rfl⟩
 refine oE (stpU_alloc 2 tz29 rfl) rfl ?_
 rintro _ _ ⟨b3, rfl, rfl⟩
 obtain ⟨x4, e4, H0⟩ := bS H0
 refine oS rfl (oS rfl (nn (sr (oB2 0 ts29 rfl (oE (stpU_call (fun i => 3 + i) cf133 (fun w hw => c_i_VictimOf fl w a0 rfl (RO.pass hr0_0 hw) x4 e4) (yA rfl)) rfl ?_)))))
 rintro _ _ ⟨_, ⟨rfl, rfl⟩, rfl⟩
 obtain ⟨y5, ey5, H0⟩ := bS H0
 refine oM rfl (oT rfl (oT rfl (oS rfl (oS rfl (nn (cw_seq (sr (oM rfl (oK rfl (oM rfl (ow_cutY 4 21 y5 ?_ ?_)))))))))))
 ·rcases Bool.eq_false_or_eq_true (!x4.2) with hy5 | hy5
  ·have ey5 := cond_t ey5 hy5
   refine oO rfl hy5 rfl (oO rfl hy5 rfl (oO rfl hy5 rfl (oD (stp_pick_t rfl hy5 rfl) rfl ?_)))
   obtain rfl := sI ey5
   exact ow_nil (jy 4 0)
  have ey5 := cond_f ey5 hy5
  refine oG rfl hy5 (fA 0 Tryz.underlying41 rfl ts4 rfl rfl rfl) rfl (oG rfl hy5 (lB 1 ts4 rfl rfl rfl) rfl (oG rfl hy5 (stp_not rfl) rfl (oD (stp_pick_f rfl hy5 rfl) rfl ?_)))
  obtain rfl := sI ey5
  exact ow_nil (jy 4 0)
 obtain ⟨y6, ey6, H0⟩ := bS H0
 refine oM rfl (ow_cutY 4 26 y6 ?_ ?_)
 ·rcases Bool.eq_false_or_eq_true y5 with hy6 | hy6
  ·have ey6 := cond_t ey6 hy6
   refine oO rfl hy6 rfl (oO rfl hy6 rfl (oO rfl hy6 rfl (oD (stp_pick_t rfl hy6 rfl) rfl ?_)))
   obtain rfl := sI ey6
   exact ow_nil (jy 4 0)
  have ey6 := cond_f ey6 hy6
  obtain ⟨x7, e7, ey6⟩ := bS ey6
  refine oG rfl hy6 (stp_loadN (us := [_, _, _, _, _, _]) ts41 rfl (Cells.box (id := 1) rfl 6 rfl)) rfl (ow_eff (.some rfl hy6) (stpU_call (fun i => 3 + i) cf111 (fun w hw => c_i_lineValid fl w a1 x7 e7) (yA rfl)) rfl ?_)
  rintro _ _ ⟨_, ⟨rfl, rfl⟩, rfl⟩
  refine oG rfl hy6 (stp_not rfl) rfl (oD (stp_pick_f rfl hy6 rfl) rfl ?_)
  obtain rfl := sI ey6
  exact ow_nil (jy 4 0)
 obtain ⟨y8, ey8, H0⟩ := bS H0
 refine oM rfl (ow_cutY 8 35 y8 ?_ ?_)
 ·rcases Bool.eq_false_or_eq_true y6 with hy8 | hy8
  ·have ey8 := cond_t ey8 hy8
   refine oO rfl hy8 rfl (oO rfl hy8 rfl (oO rfl hy8 rfl (oO rfl hy8 rfl (oO rfl hy8 rfl (oO rfl hy8 rfl (oO rfl hy8 rfl (oD (stp_pick_t rfl hy8 rfl) rfl ?_)))))))
   obtain rfl := sI ey8
   exact ow_nil (jy 8 0)
  have ey8 := cond_f ey8 hy8
  obtain ⟨x9, e9, ey8⟩ := bS ey8
  refine oG rfl hy8 (stp_loadN (us := [_, _]) ts29 rfl (Cells.box (id := 0) rfl 2 rfl)) rfl (oG rfl hy8 (fA 1 Tryz.underlying41 rfl ts3 rfl rfl rfl) rfl (oG rfl hy8 (lB 1 ts3 rfl rfl rfl) rfl (oG rfl hy8 (fA 2 Tryz.underlying41 rfl ts3 rfl rfl rfl) rfl (oG rfl hy8 (lB 1 ts3 rfl rfl rfl) rfl (ow_eff (.some rfl hy8) (stpU_call (fun i => 3 + i) cf82 (fun w hw => c_i_Cache_place fl w a0 a1.tg a1.pg rfl (RO.pass hr0_0 hw) x9 e9) (yC rfl rfl rfl)) rfl ?_)))))
  rintro _ _ ⟨_, ⟨rfl, rfl⟩, rfl⟩
  refine oG rfl hy8 (stp_geq rfl rfl) rfl (oD (stp_pick_f rfl hy8 rfl) rfl ?_)
  obtain rfl := sI ey8
  exact ow_nil (jy 8 0)
 refine ow_nil (kw_nx (cw_cond rfl (fun h10 => ?_) (fun h10 => ?_)))
 ·have H0 := cond_t H0 h10
  refine sr (oD (stp_build (cs := #[.slice none 0 0, .int .i64 0]) sevp_nil bt29_2) rfl (oC2 2 ts29 rfl rfl (oS rfl (oS rfl (nn (cw_ret (kw_nx_ret (kw_addNil 3 ?_))))))))
  obtain rfl := sI H0
  exact kr Tryz.results83 (.cons (.cellN (us := [_, _]) ts29 rfl (Cells.box (id := 2) rfl 2 rfl)) (.cons (.tmp rfl) (rT rfl))) [3] ⟨_, _, _, _, rfl, rfl, rfl, (OwnC.nil _ _)⟩
 have H0 := cond_f H0 h10
 obtain ⟨x11, e11, H0⟩ := bS H0
 refine cw_skip (kw_nx (sr (oB2 0 ts29 rfl (oM rfl (oB6 1 ts41 rfl (oE (stpU_call (fun i => 4 + i) cf134 (fun w hw => c_i_Cache_with fl w a0 x4.1 a1 rfl (RO.pass hr0_0 hw) x11 e11) (yC rfl rfl rfl)) rfl ?_))))))
 rintro _ _ ⟨_, ⟨p12, _, c14, C15, rfl, rfl, rfl, o15⟩, rfl⟩
 refine oE (stpU_alloc 5 tz29 rfl) rfl ?_
 rintro _ _ ⟨b16, rfl, rfl⟩
 obtain ⟨x17, e17, H0⟩ := bS H0
 refine oC2 5 ts29 rfl rfl (nn (cw_seq (sr (oA 0 Tryz.underlying29 rfl ts27 rfl (oL 0 ts27 rfl (oM rfl (oD (stp_indexAddr Tryz.underlying27 ts41 (by decide) rfl rfl rfl (Rdb.ro hr0_0) e17) rfl (oA 0 Tryz.underlying41 rfl ts4 rfl (oD (stp_load1 ts4 rfl (Cells.el (Rdb.ro hr0_0) (by decide) e17 0 1 rfl)) rfl (nn (cw_cond rfl (fun h18 => ?_) (fun h18 => ?_))))))))))))
 ·have H0 := cond_t H0 h18
  obtain ⟨x19, e19, H0⟩ := bS H0
  obtain ⟨x20, e20, H0⟩ := bS H0
  obtain ⟨x21, e21, H0⟩ := bS H0
  refine cw_region (oM rfl (oP e19 rfl (oA 0 Tryz.underlying29 rfl ts27 rfl (oL 0 ts27 rfl (oD (stp_len Tryz.underlying27 rfl) rfl (oD (stp_rem rfl rfl e20) rfl (oA 1 Tryz.underlying29 rfl ts3 rfl (oC2 5 ts3 rfl rfl (nn (cw_seq (sr (oB2 5 ts29 rfl (oE (stpU_call (fun i => 6 + i) cf55 (fun w hw => c_i_CacheValid fl w (⟨x11.l, x20⟩ : Ca) rfl (OwnC.pass (id := 4) rfl o15 hw) x21 e21) (yA rfl)) rfl ?_)))))))))))))
  rintro _ _ ⟨_, ⟨rfl, rfl⟩, rfl⟩
  refine oK rfl (nn (cw_cond rfl (fun h22 => ?_) (fun h22 => ?_)))
  ·have H0 := cond_t H0 h22
   refine sr (oD (stp_build (cs := #[.slice none 0 0, .int .i64 0]) sevp_nil bt29_2) rfl (oC2 2 ts29 rfl rfl (oS rfl (oS rfl (nn (cw_ret (kw_nx_ret (kw_addNil 6 ?_))))))))
   obtain rfl := sI H0
   exact kr Tryz.results83 (.cons (.cellN (us := [_, _]) ts29 rfl (Cells.box (id := 2) rfl 2 rfl)) (.cons (.tmp rfl) (rT rfl))) [6] ⟨_, _, _, _, rfl, rfl, rfl, (OwnC.nil _ _)⟩
  have H0 := cond_f H0 h22
  refine cw_skip (kw_nx (sr (oB2 5 ts29 rfl (oM rfl (oC2 2 ts29 rfl rfl (oS rfl (oS rfl (nn (cw_ret ?_)))))))))
  obtain rfl := sI H0
  exact kr Tryz.results83 (.cons (.cellN (us := [_, _]) ts29 rfl (Cells.box (id := 2) rfl 2 rfl)) (.cons (.tmp rfl) (rT rfl))) [4] ⟨_, _, _, _, rfl, rfl, rfl, o15⟩
 have H0 := cond_f H0 h18
 obtain ⟨x23, e23, H0⟩ := bS H0
 refine cw_skip (kw_nx (cw_seq (sr (oB2 5 ts29 rfl (oE (stpU_call (fun i => 7 + i) cf55 (fun w hw => c_i_CacheValid fl w x11 rfl (OwnC.pass (id := 4) rfl o15 hw) x23 e23) (yA rfl)) rfl ?_)))))
 rintro _ _ ⟨_, ⟨rfl, rfl⟩, rfl⟩
 refine oK rfl (nn (cw_cond rfl (fun h24 => ?_) (fun h24 => ?_)))
 ·have H0 := cond_t H0 h24
  refine sr (oD (stp_build (cs := #[.slice none 0 0, .int .i64 0]) sevp_nil bt29_2) rfl (oC2 2 ts29 rfl rfl (oS rfl (oS rfl (nn (cw_ret (kw_nx_ret (kw_addNil 7 ?_))))))))
  obtain rfl := sI H0
  exact kr Tryz.results83 (.cons (.cellN (us := [_, _]) ts29 rfl (Cells.box (id := 2) rfl 2 rfl)) (.cons (.tmp rfl) (rT rfl))) [7] ⟨_, _, _, _, rfl, rfl, rfl, (OwnC.nil _ _)⟩
 have H0 := cond_f H0 h24
 refine cw_skip (kw_nx (sr (oB2 5 ts29 rfl (oM rfl (oC2 2 ts29 rfl rfl (oS rfl (oS rfl (nn (cw_ret ?_)))))))))
 obtain rfl := sI H0
 exact kr Tryz.results83 (.cons (.cellN (us := [_, _]) ts29 rfl (Cells.box (id := 2) rfl 2 rfl)) (.cons (.tmp rfl) (rT rfl))) [4] ⟨_, _, _, _, rfl, rfl, rfl, o15⟩

theorem c_i_TouchPage (fl : Nat) (w : World) (a0 : Mc) (a1 : Int) (a2 : Int) (hn0_0 : n0_0 = (a0.t.b).length) (hr0_0 : RO w (hkeys []) (RdL p0_0 c0_0 a0.t.b)) (hn0_1 : n0_1 = (a0.t.f).length) (hr0_1 : RO w (hkeys []) (RdL p0_1 c0_1 a0.t.f)) (hn0_2 : n0_2 = (a0.c.l).length) (hr0_2 : RO w (hkeys []) (RdL p0_2 c0_2 a0.c.l)) (hn0_3 : n0_3 = (a0.g.o).length) (hr0_3 : RO w (hkeys []) (RdL p0_3 c0_3 a0.g.o)) (hg : RO w (hkeys []) (fun w' => w'.rangeAt 0 0 [.bool false, .int .i64 0, .int .i64 0, .int .i64 0, .int .i64 (-1)])) (r : Mc × Int × Int × Bool) (H0 : i_TouchPage fl a0 a1 a2 = some r) :
  Ct Tryz.prog 31 [.agg #[.slice p0_0 n0_0 c0_0, .slice p0_1 n0_1 c0_1, .slice p0_2 n0_2 c0_2, .int .i64 a0.c.h, .int .i64 a0.g.c, .int .i64 a0.g.n, .int .i64 a0.g.r, .slice p0_3 n0_3 c0_3, .int .i64 a0.s], .int .i64 a1, .int .i64 a2] w [] (fun rv h' => ∃ (x0 : Option Addr) (y0 z0 : Nat) (C0 : Res) (x1 : Option Addr) (y1 z1 : Nat) (C1 : Res) (x2 : Option Addr) (y2 z2 : Nat) (C2 : Res) (x3 : Option Addr) (y3 z3 : Nat) (C3 : Res), rv = .tuple #[.agg #[.slice x0 y0 z0, .slice x1 y1 z1, .slice x2 y2 z2, .int .i64 r.1.c.h, .int .i64 r.1.g.c, .int .i64 r.1.g.n, .int .i64 r.1.g.r, .slice x3 y3 z3, .int .i64 r.1.s], .int .i64 r.2.1, .int .i64 r.2.2.1, .bool r.2.2.2] ∧ h' = [(0, C0), (1, C1), (2, C2), (3, C3)] ∧ y0 = (r.1.t.b).length ∧ OwnC 3 x0 z0 r.1.t.b C0 ∧ y1 = (r.1.t.f).length ∧ OwnC 58 x1 z1 r.1.t.f C1 ∧ y2 = (r.1.c.l).length ∧ OwnC 41 x2 z2 r.1.c.l C2 ∧ y3 = (r.1.g.o).length ∧ OwnC 118 x3 z3 r.1.g.o C3) := by
 subst hn0_0 hn0_1 hn0_2 hn0_3
 unfold i_TouchPage at H0
 refine ct_of_cw Tryz.func31 rfl Tryz.ntmps31 rfl (Sat.refl _ _) ?_
 refine sr (oE (stpU_box 0 rfl rfl) rfl ?_)
 rintro _ _ ⟨b1, rfl, rfl⟩
 refine oE (stpU_alloc 1 tz34 rfl) rfl ?_
 rintro _ _ ⟨b2, rfl, rfl⟩
 obtain ⟨x3, e3, H0⟩ := bS H0
 refine oS rfl (oS rfl (oS rfl (nn (cw_seq (sr (oB9 0 ts34 rfl (oE (stpU_call (fun i => 2 + i) cf19 (fun w hw => c_i_MachineValid fl w a0 rfl (RO.pass hr0_0 hw) rfl (RO.pass hr0_1 hw) rfl (RO.pass hr0_2 hw) rfl (RO.pass hr0_3 hw) (RO.pass hg hw) x3 e3) (yA rfl)) rfl ?_)))))))
 rintro _ _ ⟨_, ⟨rfl, rfl⟩, rfl⟩
 obtain ⟨y4, ey4, H0⟩ := bS H0
 refine oK rfl (oM rfl (ow_cutY 4 27 y4 ?_ ?_))
 ·rcases Bool.eq_false_or_eq_true (!x3) with hy4 | hy4
  ·have ey4 := cond_t ey4 hy4
   refine oO rfl hy4 rfl (oO rfl hy4 rfl (oO rfl hy4 rfl (oD (stp_pick_t rfl hy4 rfl) rfl ?_)))
   obtain rfl := sI ey4
   exact ow_nil (jy 4 0)
  have ey4 := cond_f ey4 hy4
  obtain ⟨x5, e5, ey4⟩ := bS ey4
  refine oG rfl hy4 (mv rfl) rfl (ow_eff (.some rfl hy4) (stpU_call (fun i => 2 + i) cf79 (fun w hw => c_i_within fl w a1 256 x5 e5) (yB rfl rfl)) rfl ?_)
  rintro _ _ ⟨_, ⟨rfl, rfl⟩, rfl⟩
  refine oG rfl hy4 (stp_not rfl) rfl (oD (stp_pick_f rfl hy4 rfl) rfl ?_)
  obtain rfl := sI ey4
  exact ow_nil (jy 4 0)
 obtain ⟨y6, ey6, H0⟩ := bS H0
 refine oM rfl (ow_cutY 4 32 y6 ?_ ?_)
 ·rcases Bool.eq_false_or_eq_true y4 with hy6 | hy6
  ·have ey6 := cond_t ey6 hy6
   refine oO rfl hy6 rfl (oO rfl hy6 rfl (oO rfl hy6 rfl (oD (stp_pick_t rfl hy6 rfl) rfl ?_)))
   obtain rfl := sI ey6
   exact ow_nil (jy 4 0)
  have ey6 := cond_f ey6 hy6
  obtain ⟨x7, e7, ey6⟩ := bS ey6
  refine oG rfl hy6 (mv rfl) rfl (ow_eff (.some rfl hy6) (stpU_call (fun i => 2 + i) cf80 (fun w hw => c_i_RightsValid fl w a2 x7 e7) (yA rfl)) rfl ?_)
  rintro _ _ ⟨_, ⟨rfl, rfl⟩, rfl⟩
  refine oG rfl hy6 (stp_not rfl) rfl (oD (stp_pick_f rfl hy6 rfl) rfl ?_)
  obtain rfl := sI ey6
  exact ow_nil (jy 4 0)
 refine ow_nil (kw_nx (cw_cond rfl (fun h8 => ?_) (fun h8 => ?_)))
 ·have H0 := cond_t H0 h8
  refine sr (oD (stp_build (cs := #[.slice none 0 0, .slice none 0 0, .slice none 0 0, .int .i64 0, .int .i64 0, .int .i64 0, .int .i64 0, .slice none 0 0, .int .i64 0]) sevp_nil bt34_6) rfl (oC9 1 ts34 rfl rfl (oS rfl (oS rfl (oS rfl (nn (cw_ret (kw_nx_ret (kw_addNil 2 (kw_addNil 3 (kw_addNil 4 (kw_addNil 5 ?_))))))))))))
  obtain rfl := sI H0
  exact kr Tryz.results31 (.cons (.cellN (us := [_, _, _, _, _, _, _, _, _]) ts34 rfl (Cells.box (id := 1) rfl 9 rfl)) (.cons (.tmp rfl) (.cons (.tmp rfl) (rT rfl)))) [2, 3, 4, 5] ⟨_, _, _, _, _, _, _, _, _, _, _, _, _, _, _, _, rfl, rfl, rfl, (OwnC.nil _ _), rfl, (OwnC.nil _ _), rfl, (OwnC.nil _ _), rfl, (OwnC.nil _ _)⟩
 have H0 := cond_f H0 h8
 obtain ⟨x9, e9, H0⟩ := bS H0
 refine cw_skip (kw_nx (sr (oB9 0 ts34 rfl (oE (stpU_call (fun i => 6 + i) cf49 (fun w hw => c_i_Machine_clone fl w a0 rfl (RO.pass hr0_0 hw) rfl (RO.pass hr0_1 hw) rfl (RO.pass hr0_2 hw) rfl (RO.pass hr0_3 hw) x9 e9) (yA rfl)) rfl ?_))))
 rintro _ _ ⟨_, ⟨p10, _, c12, C13, p14, _, c16, C17, p18, _, c20, C21, p22, _, c24, C25, rfl, rfl, rfl, o13, rfl, o17, rfl, o21, rfl, o25⟩, rfl⟩
 refine oE (stpU_alloc 10 tz34 rfl) rfl ?_
 rintro _ _ ⟨b26, rfl, rfl⟩
 obtain ⟨x27, e27, H0⟩ := bS H0
 refine oC9 10 ts34 rfl rfl (nn (sr (oB9 0 ts34 rfl (oA 8 Tryz.underlying34 rfl ts3 rfl (oL 0 ts3 rfl (oM rfl (oE (stpU_call (fun i => 11 + i) cf81 (fun w hw => c_i_Machine_tagFor fl w a0 a0.s a1 rfl (RO.pass hr0_0 hw) rfl (RO.pass hr0_1 hw) rfl (RO.pass hr0_2 hw) rfl (RO.pass hr0_3 hw) x27 e27) (yC rfl rfl rfl)) rfl ?_)))))))
 rintro _ _ ⟨_, ⟨rfl, rfl⟩, rfl⟩
 refine oM rfl (oT rfl (oT rfl (oS rfl (oS rfl (nn (sr (oS rfl (oS rfl (oS rfl (nn (cw_seq (sr (oA 2 Tryz.underlying34 rfl ts29 rfl ?_)))))))))))))
 obtain ⟨x28, e28, H0⟩ := bS H0
 refine oB2 0 ts29 rfl (oM rfl (oM rfl (oE (stpU_call (fun i => 11 + i) cf82 (fun w hw => c_i_Cache_place fl w a0.c x27.1 a1 rfl (RO.pass hr0_2 hw) x28 e28) (yC rfl rfl rfl)) rfl ?_)))
 rintro _ _ ⟨_, ⟨rfl, rfl⟩, rfl⟩
 refine oS rfl (nn (sr (oM rfl (oI rfl (nn (cw_cond rfl (fun h29 => ?_) (fun h29 => ?_)))))))
 ·have H0 := cond_t H0 h29
  obtain ⟨x30, e30, H0⟩ := bS H0
  refine rdq g_mixed [3, 16] [0] { dst := dS [52, 53, 54, 55, 56, 57, 58, 59, 60, 61, 62, 63, 64, 65, 15, 16], pre := gA [] [[], [0], [0, 1], [], rn 0 4, rn 0 5, rn 0 6, [], [7], [7, 8], [], rn 7 4, rn 7 5, rn 7 6, rn 0 7, rn 0 15], ids := fun _ => [], rs := rL [[(3, 0)], [(51, 1)], [(52, 2)], [(16, 0)], [(53, 3), (54, 4)], [(55, 5)], [(56, 6)], [(3, 0)], [(58, 8)], [(59, 9)], [(16, 0)], [(60, 10), (61, 11)], [(62, 12)], [(63, 13)], [(57, 7)], [(64, 14)]], rh := rL [[], [], [(0, 0)], [], [], [], [], [], [], [(0, 0)]], V := fun i g => gA undef [.pointer (some ⟨b1, 2, none⟩), .pointer (some ⟨b1, 2, none⟩), .slice p0_2 ((a0.c.l).length) c0_2, .int .i64 x28, .pointer (some ⟨eB p0_2, eO p0_2 + Int.toNat x28 * Enc.sz Ln + 0, none⟩), .pointer (some ⟨eB p0_2, eO p0_2 + Int.toNat x28 * Enc.sz Ln + 3, none⟩), .int .i64 x30.fr, .pointer (some ⟨b1, 2, none⟩), .pointer (some ⟨b1, 2, none⟩), .slice p0_2 ((a0.c.l).length) c0_2, .int .i64 x28, .pointer (some ⟨eB p0_2, eO p0_2 + Int.toNat x28 * Enc.sz Ln + 0, none⟩), .pointer (some ⟨eB p0_2, eO p0_2 + Int.toNat x28 * Enc.sz Ln + 4, none⟩), .int .i64 x30.ri, .int .i64 x30.fr, .int .i64 x30.ri] i, U := fun _ _ => [], Φ := fun _ _ => True } ?_ ?_
  ·exact ⟨lc rfl rfl fun hs hh => stp_fieldAddr (j := 2) Tryz.underlying34 rfl ts29 rfl (sv hs 3 rfl) rfl, lc rfl rfl fun hs hh => stp_fieldAddr (j := 0) Tryz.underlying29 rfl ts27 rfl (sv hs 51 rfl) rfl, lc rfl rfl fun hs hh => stp_load1 ts27 (sv hs 52 rfl) (Cells.box (id := 0) (hh.get 0 _ rfl) 1 rfl), lM, lc rfl rfl fun hs hh => stp_indexAddr Tryz.underlying27 ts41 (by decide) (sv hs 53 rfl) rfl (sv hs 54 rfl) (Rdb.ro hr0_2) e30, lc rfl rfl fun hs hh => stp_fieldAddr (j := 3) Tryz.underlying41 rfl ts3 rfl (sv hs 55 rfl) rfl, lc rfl rfl fun hs hh => stp_load1 ts3 (sv hs 56 rfl) (Cells.el (Rdb.ro hr0_2) (by decide) e30 3 1 rfl), lc rfl rfl fun hs hh => stp_fieldAddr (j := 2) Tryz.underlying34 rfl ts29 rfl (sv hs 3 rfl) rfl, lc rfl rfl fun hs hh => stp_fieldAddr (j := 0) Tryz.underlying29 rfl ts27 rfl (sv hs 58 rfl) rfl, lc rfl rfl fun hs hh => stp_load1 ts27 (sv hs 59 rfl) (Cells.box (id := 0) (hh.get 0 _ rfl) 1 rfl), lM, lc rfl rfl fun hs hh => stp_indexAddr Tryz.underlying27 ts41 (by decide) (sv hs 60 rfl) rfl (sv hs 61 rfl) (Rdb.ro hr0_2) e30, lc rfl rfl fun hs hh => stp_fieldAddr (j := 4) Tryz.underlying41 rfl ts3 rfl (sv hs 62 rfl) rfl, lc rfl rfl fun hs hh => stp_load1 ts3 (sv hs 63 rfl) (Cells.el (Rdb.ro hr0_2) (by decide) e30 4 1 rfl), lS, lS, trivial⟩
  intro g hΦ
  refine KW.sub (s' := [(2, .int .i64 a2), (6, .pointer (some ⟨b2, 0, none⟩)), (10, .pointer (some ⟨b26, 0, none⟩)), (13, .int .i64 1), (14, .int .i64 x30.fr), (15, .int .i64 x30.ri)]) (h' := [(1, [(b2, .cells #[.slice none 0 0, .slice none 0 0, .slice none 0 0, .int .i64 0, .int .i64 0, .int .i64 0, .int .i64 0, .slice none 0 0, .int .i64 0] 34 (0, 0))]), (6, C13), (7, C17), (8, C21), (9, C25), (10, [(b26, .cells #[.slice p10 ((x9.t.b).length) c12, .slice p14 ((x9.t.f).length) c16, .slice p18 ((x9.c.l).length) c20, .int .i64 x9.c.h, .int .i64 x9.g.c, .int .i64 x9.g.n, .int .i64 x9.g.r, .slice p22 ((x9.g.o).length) c24, .int .i64 x9.s] 34 (0, 0))])]) ?_ ⟨rfl, rfl, rfl, rfl, rfl, rfl, trivial⟩ ⟨rfl, rfl, rfl, rfl, rfl, rfl, trivial⟩
  obtain ⟨x31, e31, H0⟩ := bS H0
  refine kw_nx (cw_seq (sr (oM rfl (oM rfl (oE (stpU_call (fun i => 11 + i) cf35 (fun w hw => c_i_Allows fl w x30.ri a2 x31 e31) (yB rfl rfl)) rfl ?_)))))
  rintro _ _ ⟨_, ⟨rfl, rfl⟩, rfl⟩
  refine oK rfl (nn (cw_cond rfl (fun h32 => ?_) (fun h32 => ?_)))
  ·have H0 := cond_t H0 h32
   refine cw_region (oS rfl (nn (sr (oB9 10 ts34 rfl (oM rfl (oM rfl (oC9 1 ts34 rfl rfl (oS rfl (oS rfl (oS rfl (nn (cw_ret ?_))))))))))))
   obtain rfl := sI H0
   exact kr Tryz.results31 (.cons (.cellN (us := [_, _, _, _, _, _, _, _, _]) ts34 rfl (Cells.box (id := 1) rfl 9 rfl)) (.cons (.tmp rfl) (.cons (.tmp rfl) (rT rfl)))) [6, 7, 8, 9] ⟨_, _, _, _, _, _, _, _, _, _, _, _, _, _, _, _, rfl, rfl, rfl, o13, rfl, o17, rfl, o21, rfl, o25⟩
  have H0 := cond_f H0 h32
  refine cw_skip (kw_nx (sr (oB9 10 ts34 rfl (oM rfl (oM rfl (oC9 1 ts34 rfl rfl (oS rfl (oS rfl (oS rfl (nn (cw_ret ?_)))))))))))
  obtain rfl := sI H0
  exact kr Tryz.results31 (.cons (.cellN (us := [_, _, _, _, _, _, _, _, _]) ts34 rfl (Cells.box (id := 1) rfl 9 rfl)) (.cons (.tmp rfl) (.cons (.tmp rfl) (rT rfl)))) [6, 7, 8, 9] ⟨_, _, _, _, _, _, _, _, _, _, _, _, _, _, _, _, rfl, rfl, rfl, o13, rfl, o17, rfl, o21, rfl, o25⟩
 have H0 := cond_f H0 h29
 obtain ⟨x33, e33, H0⟩ := bS H0
 obtain ⟨x34, e34, H0⟩ := bS H0
 refine cw_seq (rdq g_mixed [1, 3] [0] { dst := dS [66, 67, 68, 69, 70, 71, 72, 15], pre := gA [] [[], [0], [], [2], [], [2, 3, 4], rn 0 6, rn 0 7], ids := fun _ => [], rs := rL [[(3, 0)], [(65, 1)], [(3, 0)], [(67, 3)], [(1, 0)], [(68, 4), (69, 5)], [(66, 2), (70, 6)], [(71, 7)]], rh := rL [[], [(0, 0)], [], [(0, 0)]], V := fun i g => gA undef [.pointer (some ⟨b1, 0, none⟩), .agg #[.slice p0_0 ((a0.t.b).length) c0_0, .slice p0_1 ((a0.t.f).length) c0_1], .pointer (some ⟨b1, 8, none⟩), .int .i64 a0.s, .int .i64 a1, .agg #[.int .i64 x33.s, .int .i64 x33.p], .int .i64 x34, .int .i64 x34] i, U := fun _ _ => [], Φ := fun _ _ => True } ?_ ?_)
 ·refine ⟨lc rfl rfl fun hs hh => stp_fieldAddr (j := 0) Tryz.underlying34 rfl ts26 rfl (sv hs 3 rfl) rfl, lc rfl rfl fun hs hh => stp_loadN (us := [_, _]) ts26 (sv hs 65 rfl) (Cells.box (id := 0) (hh.get 0 _ rfl) 2 rfl), lc rfl rfl fun hs hh => stp_fieldAddr (j := 8) Tryz.underlying34 rfl ts3 rfl (sv hs 3 rfl) rfl, lc rfl rfl fun hs hh => stp_load1 ts3 (sv hs 67 rfl) (Cells.box (id := 0) (hh.get 0 _ rfl) 1 rfl), lM, ?_, ?_, lS, trivial⟩
  ·refine le rfl rfl (fun g hΦ s h hs hh => (stpU_call (fun i => 11 + i) cf34 (fun w hw => c_i_KeyFor fl w a0.s a1 x33 e33) (yB (sv hs 68 rfl) (sv hs 69 rfl)))) ?_
   rintro g _ _ ⟨_, ⟨rfl, rfl⟩, rfl⟩
   exact ⟨⟨[], [], []⟩, trivial, .inr rfl, rfl⟩
  refine le rfl rfl (fun g hΦ s h hs hh => (stpU_call (fun i => 11 + i) cf59 (fun w hw => c_i_Table_find fl w a0.t x33 rfl (RO.pass hr0_0 hw) rfl (RO.pass hr0_1 hw) x34 e34) (yB (sv hs 66 rfl) (sv hs 70 rfl)))) ?_
  rintro g _ _ ⟨_, ⟨rfl, rfl⟩, rfl⟩
  exact ⟨⟨[], [], []⟩, trivial, .inr rfl, rfl⟩
 intro g hΦ
 refine KW.sub (s' := [(1, .int .i64 a1), (2, .int .i64 a2), (3, .pointer (some ⟨b1, 0, none⟩)), (6, .pointer (some ⟨b2, 0, none⟩)), (10, .pointer (some ⟨b26, 0, none⟩)), (11, .int .i64 x27.1), (14, .int .i64 x34)]) (h' := [(0, [(b1, .cells #[.slice p0_0 ((a0.t.b).length) c0_0, .slice p0_1 ((a0.t.f).length) c0_1, .slice p0_2 ((a0.c.l).length) c0_2, .int .i64 a0.c.h, .int .i64 a0.g.c, .int .i64 a0.g.n, .int .i64 a0.g.r, .slice p0_3 ((a0.g.o).length) c0_3, .int .i64 a0.s] 34 (0, 0))]), (1, [(b2, .cells #[.slice none 0 0, .slice none 0 0, .slice none 0 0, .int .i64 0, .int .i64 0, .int .i64 0, .int .i64 0, .slice none 0 0, .int .i64 0] 34 (0, 0))]), (6, C13), (7, C17), (8, C21), (9, C25), (10, [(b26, .cells #[.slice p10 ((x9.t.b).length) c12, .slice p14 ((x9.t.f).length) c16, .slice p18 ((x9.c.l).length) c20, .int .i64 x9.c.h, .int .i64 x9.g.c, .int .i64 x9.g.n, .int .i64 x9.g.r, .slice p22 ((x9.g.o).length) c24, .int .i64 x9.s] 34 (0, 0))])]) ?_ ⟨rfl, rfl, rfl, rfl, rfl, rfl, rfl, trivial⟩ ⟨rfl, rfl, rfl, rfl, rfl, rfl, rfl, trivial⟩
 refine kw_nx (cw_seq (sr (oM rfl (oW rfl (nn (cw_cond rfl (fun h35 => ?_) (fun h35 => ?_)))))))
 ·have H0 := cond_t H0 h35
  refine sr (oB9 10 ts34 rfl (oC9 1 ts34 rfl rfl (oS rfl (oS rfl (oS rfl (nn (cw_ret (kw_nx_ret (kw_nx_ret ?_)))))))))
  obtain rfl := sI H0
  exact kr Tryz.results31 (.cons (.cellN (us := [_, _, _, _, _, _, _, _, _]) ts34 rfl (Cells.box (id := 1) rfl 9 rfl)) (.cons (.tmp rfl) (.cons (.tmp rfl) (rT rfl)))) [6, 7, 8, 9] ⟨_, _, _, _, _, _, _, _, _, _, _, _, _, _, _, _, rfl, rfl, rfl, o13, rfl, o17, rfl, o21, rfl, o25⟩
 have H0 := cond_f H0 h35
 obtain ⟨x36, e36, H0⟩ := bS H0
 refine cw_skip (kw_nx (cw_seq (rdq g_mixed [3, 14] [0] { dst := dS [76, 77, 78, 79, 80, 81, 82, 14, 16], pre := gA [] [[], [0], [0, 1], [], rn 0 4, rn 0 5, rn 0 6, [], rn 0 8], ids := fun _ => [], rs := rL [[(3, 0)], [(75, 1)], [(76, 2)], [(14, 0)], [(77, 3), (78, 4)], [(79, 5)], [(80, 6)], [], [(81, 7)]], rh := rL [[], [], [(0, 0)]], V := fun i g => gA undef [.pointer (some ⟨b1, 0, none⟩), .pointer (some ⟨b1, 1, none⟩), .slice p0_1 ((a0.t.f).length) c0_1, .int .i64 x34, .pointer (some ⟨eB p0_1, eO p0_1 + Int.toNat x34 * Enc.sz F + 0, none⟩), .pointer (some ⟨eB p0_1, eO p0_1 + Int.toNat x34 * Enc.sz F + 3, none⟩), .int .i64 x36.r, .int .i64 2, .int .i64 x36.r] i, U := fun _ _ => [], Φ := fun _ _ => True } ?_ ?_)))
 ·exact ⟨lc rfl rfl fun hs hh => stp_fieldAddr (j := 0) Tryz.underlying34 rfl ts26 rfl (sv hs 3 rfl) rfl, lc rfl rfl fun hs hh => stp_fieldAddr (j := 1) Tryz.underlying26 rfl ts24 rfl (sv hs 75 rfl) rfl, lc rfl rfl fun hs hh => stp_load1 ts24 (sv hs 76 rfl) (Cells.box (id := 0) (hh.get 0 _ rfl) 1 rfl), lM, lc rfl rfl fun hs hh => stp_indexAddr Tryz.underlying24 ts58 (by decide) (sv hs 77 rfl) rfl (sv hs 78 rfl) (Rdb.ro hr0_1) e36, lc rfl rfl fun hs hh => stp_fieldAddr (j := 3) Tryz.underlying58 rfl ts3 rfl (sv hs 79 rfl) rfl, lc rfl rfl fun hs hh => stp_load1 ts3 (sv hs 80 rfl) (Cells.el (Rdb.ro hr0_1) (by decide) e36 3 1 rfl), lc rfl rfl fun hs hh => stp_assign rfl, lS, trivial⟩
 intro g hΦ
 refine KW.sub (s' := [(1, .int .i64 a1), (2, .int .i64 a2), (6, .pointer (some ⟨b2, 0, none⟩)), (10, .pointer (some ⟨b26, 0, none⟩)), (11, .int .i64 x27.1), (13, .int .i64 2), (14, .int .i64 x34), (15, .int .i64 x36.r)]) (h' := [(1, [(b2, .cells #[.slice none 0 0, .slice none 0 0, .slice none 0 0, .int .i64 0, .int .i64 0, .int .i64 0, .int .i64 0, .slice none 0 0, .int .i64 0] 34 (0, 0))]), (6, C13), (7, C17), (8, C21), (9, C25), (10, [(b26, .cells #[.slice p10 ((x9.t.b).length) c12, .slice p14 ((x9.t.f).length) c16, .slice p18 ((x9.c.l).length) c20, .int .i64 x9.c.h, .int .i64 x9.g.c, .int .i64 x9.g.n, .int .i64 x9.g.r, .slice p22 ((x9.g.o).length) c24, .int .i64 x9.s] 34 (0, 0))])]) ?_ ⟨rfl, rfl, rfl, rfl, rfl, rfl, rfl, rfl, trivial⟩ ⟨rfl, rfl, rfl, rfl, rfl, rfl, trivial⟩
 obtain ⟨x37, e37, H0⟩ := bS H0
 refine kw_nx (sr (oA 2 Tryz.underlying34 rfl ts29 rfl (oB2 10 ts29 rfl (oM rfl (oM rfl (oM rfl (oM rfl (oD (stp_build (cs := #[.bool true, .int .i64 x27.1, .int .i64 a1, .int .i64 x34, .int .i64 x36.r, .bool false]) (sevp_cons rfl (sevp_cons rfl (sevp_cons rfl (sevp_cons rfl (sevp_cons rfl (sevp_cons rfl sevp_nil)))))) bt41_19) rfl (oE (stpU_call (fun i => 11 + i) cf83 (fun w hw => c_i_FillLine fl w x9.c (⟨true, x27.1, a1, x34, x36.r, false⟩ : Ln) rfl (OwnC.pass (id := 8) rfl o21 hw) x37 e37) (yB rfl rfl)) rfl ?_)))))))))
 rintro _ _ ⟨_, ⟨p38, _, c40, C41, rfl, rfl, rfl, o41⟩, rfl⟩
 refine oM rfl (oT rfl (oT rfl (oT rfl (oE (stpU_alloc 12 tz29 rfl) rfl ?_))))
 rintro _ _ ⟨b42, rfl, rfl⟩
 refine oC2 12 ts29 rfl rfl (oS rfl (oS rfl (nn (cw_seq (sr (oM rfl (oK rfl (nn (cw_cond rfl (fun h43 => ?_) (fun h43 => ?_))))))))))
 ·have H0 := cond_t H0 h43
  refine sr (oD (stp_build (cs := #[.slice none 0 0, .slice none 0 0, .slice none 0 0, .int .i64 0, .int .i64 0, .int .i64 0, .int .i64 0, .slice none 0 0, .int .i64 0]) sevp_nil bt34_6) rfl (oC9 1 ts34 rfl rfl (oS rfl (oS rfl (oS rfl (nn (cw_ret (kw_nx_ret (kw_nx_ret (kw_addNil 13 (kw_addNil 14 (kw_addNil 15 (kw_addNil 16 ?_)))))))))))))
  obtain rfl := sI H0
  exact kr Tryz.results31 (.cons (.cellN (us := [_, _, _, _, _, _, _, _, _]) ts34 rfl (Cells.box (id := 1) rfl 9 rfl)) (.cons (.tmp rfl) (.cons (.tmp rfl) (rT rfl)))) [13, 14, 15, 16] ⟨_, _, _, _, _, _, _, _, _, _, _, _, _, _, _, _, rfl, rfl, rfl, (OwnC.nil _ _), rfl, (OwnC.nil _ _), rfl, (OwnC.nil _ _), rfl, (OwnC.nil _ _)⟩
 have H0 := cond_f H0 h43
 obtain ⟨x44, e44, H0⟩ := bS H0
 refine cw_skip (kw_nx (cw_region (oB2 12 ts29 rfl (oA 2 Tryz.underlying34 rfl ts29 rfl (oC9 10 ts29 rfl rfl (nn (cw_seq (sr (oM rfl (oM rfl (oE (stpU_call (fun i => 17 + i) cf35 (fun w hw => c_i_Allows fl w x36.r a2 x44 e44) (yB rfl rfl)) rfl ?_)))))))))))
 rintro _ _ ⟨_, ⟨rfl, rfl⟩, rfl⟩
 refine oK rfl (nn (cw_cond rfl (fun h45 => ?_) (fun h45 => ?_)))
 ·have H0 := cond_t H0 h45
  refine cw_region (oS rfl (nn (sr (oB9 10 ts34 rfl (oM rfl (oM rfl (oC9 1 ts34 rfl rfl (oS rfl (oS rfl (oS rfl (nn (cw_ret ?_))))))))))))
  obtain rfl := sI H0
  exact kr Tryz.results31 (.cons (.cellN (us := [_, _, _, _, _, _, _, _, _]) ts34 rfl (Cells.box (id := 1) rfl 9 rfl)) (.cons (.tmp rfl) (.cons (.tmp rfl) (rT rfl)))) [6, 7, 11, 9] ⟨_, _, _, _, _, _, _, _, _, _, _, _, _, _, _, _, rfl, rfl, rfl, o13, rfl, o17, rfl, o41, rfl, o25⟩
 have H0 := cond_f H0 h45
 refine cw_skip (kw_nx (sr (oB9 10 ts34 rfl (oM rfl (oM rfl (oC9 1 ts34 rfl rfl (oS rfl (oS rfl (oS rfl (nn (cw_ret ?_)))))))))))
 obtain rfl := sI H0
 exact kr Tryz.results31 (.cons (.cellN (us := [_, _, _, _, _, _, _, _, _]) ts34 rfl (Cells.box (id := 1) rfl 9 rfl)) (.cons (.tmp rfl) (.cons (.tmp rfl) (rT rfl)))) [6, 7, 11, 9] ⟨_, _, _, _, _, _, _, _, _, _, _, _, _, _, _, _, rfl, rfl, rfl, o13, rfl, o17, rfl, o41, rfl, o25⟩

theorem c_slices_Equal_Int (fl : Nat) (w : World) (a0 : (List Int)) (a1 : (List Int)) (hn0_0 : n0_0 = (a0).length) (hr0_0 : RO w (hkeys []) (RdL p0_0 c0_0 a0)) (hn1_0 : n1_0 = (a1).length) (hr1_0 : RO w (hkeys []) (RdL p1_0 c1_0 a1)) (r : Bool) (H0 : slices_Equal_Int fl a0 a1 = some r) :
  Ct Tryz.prog 60 [.slice p0_0 n0_0 c0_0, .slice p1_0 n1_0 c1_0] w [] (fun rv h' => rv = .bool r ∧ h' = []) := by
 subst hn0_0 hn1_0
 unfold slices_Equal_Int at H0
 refine ct_of_cw Tryz.func60 rfl Tryz.ntmps60 rfl (Sat.refl _ _) ?_
 refine sr (oS rfl (nn (cw_seq (sr (oM rfl (oD (stp_len Tryz.underlying23 rfl) rfl (oM rfl (oD (stp_len Tryz.underlying23 rfl) rfl (oU rfl (nn (cw_cond rfl (fun h1 => ?_) (fun h1 => ?_))))))))))))
 ·have H0 := cond_t H0 h1
  refine sr (oS rfl (nn (cw_ret (kw_nx_ret ?_))))
  obtain rfl := sI H0
  exact kr Tryz.results60 (rT rfl) [] ⟨rfl, rfl⟩
 have H0 := cond_f H0 h1
 obtain ⟨o0_0, eo0_0, H0⟩ := bS H0
 refine cw_skip (kw_nx (cw_seq (sr (oM rfl (oD (stp_len Tryz.underlying23 rfl) rfl (oM rfl (nn (cw_join (ι := Int) (fun | v2 => o0_0 = .out v2) (fun | v2 => [(0, .slice p0_0 ((a0).length) c0_0), (1, .slice p1_0 ((a1).length) c1_0), (12, .int .i64 ((a0).length : Int)), (13, .int .i64 v2)]) (fun | v2 => []) ?_ ?_))))))))
 ·refine cw_block (cw_loopS (ι := Nat × Int) (js := []) (fun x => x.1) (fun | (fuel, v2) => slices_Equal_Int_L0 fl a0 a1 fuel v2 = some o0_0) (fun | (_, v2) => [(0, .slice p0_0 ((a0).length) c0_0), (1, .slice p1_0 ((a1).length) c1_0), (12, .int .i64 ((a0).length : Int)), (13, .int .i64 v2)]) (fun | (_, v2) => []) (fl, 0) eo0_0 ⟨rfl, rfl, rfl, rfl, trivial⟩ trivial (by decide) ?_)
  rintro ⟨fuel, v2⟩ H1
  have H1 : slices_Equal_Int_L0 fl a0 a1 fuel v2 = some o0_0 := H1
  rcases fuel with _ | fuel
  ·rw [slices_Equal_Int_L0.eq_1] at H1; cases H1
  rw [slices_Equal_Int_L0.eq_2] at H1
  dsimp only
  refine sr (oW rfl (nn (cw_seq (cw_cond rfl (fun h3 => ?_) (fun h3 => ?_)))))
  ·have H1 := cond_t H1 h3
   obtain ⟨x4, e4, H1⟩ := bS H1
   obtain ⟨x5, e5, H1⟩ := bS H1
   refine cw_skip (kw_nx (cw_seq (cw_block (sr (oM rfl (oS rfl (nn (cw_seq (rdq g_mixed [0, 1, 5] [] { dst := dS [17, 18, 19, 20, 21, 22, 23, 24, 25], pre := gA [] [[], [], [0, 1], [0, 1, 2], [], [], [4, 5], [4, 5, 6], rn 0 8], ids := fun _ => [], rs := rL [[(0, 0)], [(5, 0)], [(16, 1), (17, 2)], [(18, 3)], [(1, 0)], [(5, 0)], [(20, 5), (21, 6)], [(22, 7)], [(19, 4), (23, 8)]], rh := fun _ => [], V := fun i g => gA undef [.slice p0_0 ((a0).length) c0_0, .int .i64 v2, .pointer (some ⟨eB p0_0, eO p0_0 + Int.toNat v2 * Enc.sz Int + 0, none⟩), .int .i64 x4, .slice p1_0 ((a1).length) c1_0, .int .i64 v2, .pointer (some ⟨eB p1_0, eO p1_0 + Int.toNat v2 * Enc.sz Int + 0, none⟩), .int .i64 x5, .bool (x4 != x5)] i, U := fun _ _ => [], Φ := fun _ _ => True } ?_ ?_)))))))))
   ·exact ⟨lM, lM, lc rfl rfl fun hs hh => stp_indexAddr Tryz.underlying23 ts3 (by decide) (sv hs 16 rfl) rfl (sv hs 17 rfl) (Rdb.ro hr0_0) e4, lc rfl rfl fun hs hh => stp_load1 ts3 (sv hs 18 rfl) (Cells.el (Rdb.ro hr0_0) (by decide) e4 0 1 rfl), lM, lM, lc rfl rfl fun hs hh => stp_indexAddr Tryz.underlying23 ts3 (by decide) (sv hs 20 rfl) rfl (sv hs 21 rfl) (Rdb.ro hr1_0) e5, lc rfl rfl fun hs hh => stp_load1 ts3 (sv hs 22 rfl) (Cells.el (Rdb.ro hr1_0) (by decide) e5 0 1 rfl), lc rfl rfl fun hs hh => stp_neq (sv hs 19 rfl) (sv hs 23 rfl), trivial⟩
   intro g hΦ
   refine KW.sub (s' := [(0, .slice p0_0 ((a0).length) c0_0), (1, .slice p1_0 ((a1).length) c1_0), (12, .int .i64 ((a0).length : Int)), (13, .int .i64 v2), (24, .bool (x4 != x5))]) (h' := []) ?_ ⟨rfl, rfl, rfl, rfl, rfl, trivial⟩ trivial
   refine kw_nx (cw_cond rfl (fun h6 => ?_) (fun h6 => ?_))
   ·have H1 := cond_t H1 h6
    refine sr (oS rfl (nn (cw_ret (kw_bl_ret (kw_nx_ret (kw_lq_ret (kw_bl_ret (kw_join_ret (kw_nx_ret ?_)))))))))
    obtain rfl := sI H1
    obtain rfl := sI H0
    exact kr Tryz.results60 (rT rfl) [] ⟨rfl, rfl⟩
   have H1 := cond_f H1 h6
   obtain ⟨x7, e7, H1⟩ := bS H1
   exact cw_skip (kw_bl_normal (kw_nx (cw_region (oP e7 rfl (oM rfl (ow_nil (kw_lqS (js := []) (fuel, x7) H1 (Nat.lt_succ_self _) ⟨rfl, rfl, rfl, rfl, trivial⟩ trivial (by decide))))))))
  have H1 := cond_f H1 h3
  refine cw_exit (kw_nx_exit (kw_lq_exit (kw_bl ?_)))
  obtain rfl := sI H1
  exact kw_joinS (js := []) v2 rfl ⟨rfl, rfl, rfl, rfl, trivial⟩ trivial (by decide)
 rintro v2 rfl
 dsimp only
 refine kw_nx (sr (oS rfl (nn (cw_ret ?_))))
 obtain rfl := sI H0
 exact kr Tryz.results60 (rT rfl) [] ⟨rfl, rfl⟩

theorem c_slices_Equal_Frame (fl : Nat) (w : World) (a0 : (List F)) (a1 : (List F)) (hn0_0 : n0_0 = (a0).length) (hr0_0 : RO w (hkeys []) (RdL p0_0 c0_0 a0)) (hn1_0 : n1_0 = (a1).length) (hr1_0 : RO w (hkeys []) (RdL p1_0 c1_0 a1)) (r : Bool) (H0 : slices_Equal_Frame fl a0 a1 = some r) :
  Ct Tryz.prog 61 [.slice p0_0 n0_0 c0_0, .slice p1_0 n1_0 c1_0] w [] (fun rv h' => rv = .bool r ∧ h' = []) := by
 subst hn0_0 hn1_0
 unfold slices_Equal_Frame at H0
 refine ct_of_cw Tryz.func61 rfl Tryz.ntmps61 rfl (Sat.refl _ _) ?_
 refine sr (oS rfl (nn (cw_seq (sr (oM rfl (oD (stp_len Tryz.underlying24 rfl) rfl (oM rfl (oD (stp_len Tryz.underlying24 rfl) rfl (oU rfl (nn (cw_cond rfl (fun h1 => ?_) (fun h1 => ?_))))))))))))
 ·have H0 := cond_t H0 h1
  refine sr (oS rfl (nn (cw_ret (kw_nx_ret ?_))))
  obtain rfl := sI H0
  exact kr Tryz.results61 (rT rfl) [] ⟨rfl, rfl⟩
 have H0 := cond_f H0 h1
 obtain ⟨o0_0, eo0_0, H0⟩ := bS H0
 refine cw_skip (kw_nx (cw_seq (sr (oM rfl (oD (stp_len Tryz.underlying24 rfl) rfl (oM rfl (nn (cw_join (ι := Int) (fun | v2 => o0_0 = .out v2) (fun | v2 => [(0, .slice p0_0 ((a0).length) c0_0), (1, .slice p1_0 ((a1).length) c1_0), (12, .int .i64 ((a0).length : Int)), (13, .int .i64 v2)]) (fun | v2 => []) ?_ ?_))))))))
 ·refine cw_block (cw_loopS (ι := Nat × Int) (js := []) (fun x => x.1) (fun | (fuel, v2) => slices_Equal_Frame_L0 fl a0 a1 fuel v2 = some o0_0) (fun | (_, v2) => [(0, .slice p0_0 ((a0).length) c0_0), (1, .slice p1_0 ((a1).length) c1_0), (12, .int .i64 ((a0).length : Int)), (13, .int .i64 v2)]) (fun | (_, v2) => []) (fl, 0) eo0_0 ⟨rfl, rfl, rfl, rfl, trivial⟩ trivial (by decide) ?_)
  rintro ⟨fuel, v2⟩ H1
  have H1 : slices_Equal_Frame_L0 fl a0 a1 fuel v2 = some o0_0 := H1
  rcases fuel with _ | fuel
  ·rw [slices_Equal_Frame_L0.eq_1] at H1; cases H1
  rw [slices_Equal_Frame_L0.eq_2] at H1
  dsimp only
  refine sr (oW rfl (nn (cw_seq (cw_cond rfl (fun h3 => ?_) (fun h3 => ?_)))))
  ·have H1 := cond_t H1 h3
   obtain ⟨x4, e4, H1⟩ := bS H1
   obtain ⟨x5, e5, H1⟩ := bS H1
   refine cw_skip (kw_nx (cw_seq (cw_block (sr (oM rfl (oS rfl (nn (cw_seq (rdq g_mixed [0, 1, 5] [] { dst := dS [17, 18, 19, 20, 21, 22, 23, 24, 25], pre := gA [] [[], [], [0, 1], [0, 1, 2], [], [], [4, 5], [4, 5, 6], rn 0 8], ids := fun _ => [], rs := rL [[(0, 0)], [(5, 0)], [(16, 1), (17, 2)], [(18, 3)], [(1, 0)], [(5, 0)], [(20, 5), (21, 6)], [(22, 7)], [(19, 4), (23, 8)]], rh := fun _ => [], V := fun i g => gA undef [.slice p0_0 ((a0).length) c0_0, .int .i64 v2, .pointer (some ⟨eB p0_0, eO p0_0 + Int.toNat v2 * Enc.sz F + 0, none⟩), .agg #[.bool x4.u, .int .i64 x4.k.s, .int .i64 x4.k.p, .int .i64 x4.r, .int .i64 x4.nx], .slice p1_0 ((a1).length) c1_0, .int .i64 v2, .pointer (some ⟨eB p1_0, eO p1_0 + Int.toNat v2 * Enc.sz F + 0, none⟩), .agg #[.bool x5.u, .int .i64 x5.k.s, .int .i64 x5.k.p, .int .i64 x5.r, .int .i64 x5.nx], .bool (x4 != x5)] i, U := fun _ _ => [], Φ := fun _ _ => True } ?_ ?_)))))))))
   ·exact ⟨lM, lM, lc rfl rfl fun hs hh => stp_indexAddr Tryz.underlying24 ts58 (by decide) (sv hs 16 rfl) rfl (sv hs 17 rfl) (Rdb.ro hr0_0) e4, lc rfl rfl fun hs hh => stp_loadN (us := [_, _, _, _, _]) ts58 (sv hs 18 rfl) (Cells.el (Rdb.ro hr0_0) (by decide) e4 0 5 rfl), lM, lM, lc rfl rfl fun hs hh => stp_indexAddr Tryz.underlying24 ts58 (by decide) (sv hs 20 rfl) rfl (sv hs 21 rfl) (Rdb.ro hr1_0) e5, lc rfl rfl fun hs hh => stp_loadN (us := [_, _, _, _, _]) ts58 (sv hs 22 rfl) (Cells.el (Rdb.ro hr1_0) (by decide) e5 0 5 rfl), lc rfl rfl fun hs hh => stp_neqS te58 x4 x5 (sv hs 19 rfl) (sv hs 23 rfl), trivial⟩
   intro g hΦ
   refine KW.sub (s' := [(0, .slice p0_0 ((a0).length) c0_0), (1, .slice p1_0 ((a1).length) c1_0), (12, .int .i64 ((a0).length : Int)), (13, .int .i64 v2), (24, .bool (x4 != x5))]) (h' := []) ?_ ⟨rfl, rfl, rfl, rfl, rfl, trivial⟩ trivial
   refine kw_nx (cw_cond rfl (fun h6 => ?_) (fun h6 => ?_))
   ·have H1 := cond_t H1 h6
    refine sr (oS rfl (nn (cw_ret (kw_bl_ret (kw_nx_ret (kw_lq_ret (kw_bl_ret (kw_join_ret (kw_nx_ret ?_)))))))))
    obtain rfl := sI H1
    obtain rfl := sI H0
    exact kr Tryz.results61 (rT rfl) [] ⟨rfl, rfl⟩
   have H1 := cond_f H1 h6
   obtain ⟨x7, e7, H1⟩ := bS H1
   exact cw_skip (kw_bl_normal (kw_nx (cw_region (oP e7 rfl (oM rfl (ow_nil (kw_lqS (js := []) (fuel, x7) H1 (Nat.lt_succ_self _) ⟨rfl, rfl, rfl, rfl, trivial⟩ trivial (by decide))))))))
  have H1 := cond_f H1 h3
  refine cw_exit (kw_nx_exit (kw_lq_exit (kw_bl ?_)))
  obtain rfl := sI H1
  exact kw_joinS (js := []) v2 rfl ⟨rfl, rfl, rfl, rfl, trivial⟩ trivial (by decide)
 rintro v2 rfl
 dsimp only
 refine kw_nx (sr (oS rfl (nn (cw_ret ?_))))
 obtain rfl := sI H0
 exact kr Tryz.results61 (rT rfl) [] ⟨rfl, rfl⟩

theorem c_i_TableSame (fl : Nat) (w : World) (a0 : T) (a1 : T) (hn0_0 : n0_0 = (a0.b).length) (hr0_0 : RO w (hkeys []) (RdL p0_0 c0_0 a0.b)) (hn0_1 : n0_1 = (a0.f).length) (hr0_1 : RO w (hkeys []) (RdL p0_1 c0_1 a0.f)) (hn1_0 : n1_0 = (a1.b).length) (hr1_0 : RO w (hkeys []) (RdL p1_0 c1_0 a1.b)) (hn1_1 : n1_1 = (a1.f).length) (hr1_1 : RO w (hkeys []) (RdL p1_1 c1_1 a1.f)) (r : Bool) (H0 : i_TableSame fl a0 a1 = some r) :
  Ct Tryz.prog 20 [.agg #[.slice p0_0 n0_0 c0_0, .slice p0_1 n0_1 c0_1], .agg #[.slice p1_0 n1_0 c1_0, .slice p1_1 n1_1 c1_1]] w [] (fun rv h' => rv = .bool r ∧ h' = []) := by
 subst hn0_0 hn0_1 hn1_0 hn1_1
 unfold i_TableSame at H0
 refine ct_of_cw Tryz.func20 rfl Tryz.ntmps20 rfl (Sat.refl _ _) ?_
 refine sr (oE (stpU_box 0 rfl rfl) rfl ?_)
 rintro _ _ ⟨b1, rfl, rfl⟩
 refine oE (stpU_box 1 rfl rfl) rfl ?_
 rintro _ _ ⟨b2, rfl, rfl⟩
 obtain ⟨x3, e3, H0⟩ := bS H0
 refine oS rfl (nn (sr (oA 0 Tryz.underlying26 rfl ts23 rfl (oL 0 ts23 rfl (oA 0 Tryz.underlying26 rfl ts23 rfl (oL 1 ts23 rfl (oE (stpU_call (fun i => 2 + i) cf60 (fun w hw => c_slices_Equal_Int fl w a0.b a1.b rfl (RO.pass hr0_0 hw) rfl (RO.pass hr1_0 hw) x3 e3) (yB rfl rfl)) rfl ?_)))))))
 rintro _ _ ⟨_, ⟨rfl, rfl⟩, rfl⟩
 obtain ⟨y4, ey4, H0⟩ := bS H0
 refine oM rfl (ow_cutY 6 16 y4 ?_ ?_)
 ·rcases Bool.eq_false_or_eq_true x3 with hy4 | hy4
  ·have ey4 := cond_t ey4 hy4
   obtain ⟨x5, e5, ey4⟩ := bS ey4
   refine oG rfl hy4 (fA 1 Tryz.underlying26 rfl ts24 rfl rfl rfl) rfl (oG rfl hy4 (lB 0 ts24 rfl rfl rfl) rfl (oG rfl hy4 (fA 1 Tryz.underlying26 rfl ts24 rfl rfl rfl) rfl (oG rfl hy4 (lB 1 ts24 rfl rfl rfl) rfl (ow_eff (.some rfl hy4) (stpU_call (fun i => 2 + i) cf61 (fun w hw => c_slices_Equal_Frame fl w a0.f a1.f rfl (RO.pass hr0_1 hw) rfl (RO.pass hr1_1 hw) x5 e5) (yB rfl rfl)) rfl ?_))))
   rintro _ _ ⟨_, ⟨rfl, rfl⟩, rfl⟩
   refine oD (stp_pick_t rfl hy4 rfl) rfl ?_
   obtain rfl := sI ey4
   exact ow_nil (jy 6 0)
  have ey4 := cond_f ey4 hy4
  refine oO rfl hy4 rfl (oO rfl hy4 rfl (oO rfl hy4 rfl (oO rfl hy4 rfl (oO rfl hy4 rfl (oD (stp_pick_f rfl hy4 rfl) rfl ?_)))))
  obtain rfl := sI ey4
  exact ow_nil (jy 6 0)
 refine oS rfl (nn (cw_ret ?_))
 obtain rfl := sI H0
 exact kr Tryz.results20 (rT rfl) [] ⟨rfl, rfl⟩

theorem c_slices_Equal_Line (fl : Nat) (w : World) (a0 : (List Ln)) (a1 : (List Ln)) (hn0_0 : n0_0 = (a0).length) (hr0_0 : RO w (hkeys []) (RdL p0_0 c0_0 a0)) (hn1_0 : n1_0 = (a1).length) (hr1_0 : RO w (hkeys []) (RdL p1_0 c1_0 a1)) (r : Bool) (H0 : slices_Equal_Line fl a0 a1 = some r) :
  Ct Tryz.prog 62 [.slice p0_0 n0_0 c0_0, .slice p1_0 n1_0 c1_0] w [] (fun rv h' => rv = .bool r ∧ h' = []) := by
 subst hn0_0 hn1_0
 unfold slices_Equal_Line at H0
 refine ct_of_cw Tryz.func62 rfl Tryz.ntmps62 rfl (Sat.refl _ _) ?_
 refine sr (oS rfl (nn (cw_seq (sr (oM rfl (oD (stp_len Tryz.underlying27 rfl) rfl (oM rfl (oD (stp_len Tryz.underlying27 rfl) rfl (oU rfl (nn (cw_cond rfl (fun h1 => ?_) (fun h1 => ?_))))))))))))
 ·have H0 := cond_t H0 h1
  refine sr (oS rfl (nn (cw_ret (kw_nx_ret ?_))))
  obtain rfl := sI H0
  exact kr Tryz.results62 (rT rfl) [] ⟨rfl, rfl⟩
 have H0 := cond_f H0 h1
 obtain ⟨o0_0, eo0_0, H0⟩ := bS H0
 refine cw_skip (kw_nx (cw_seq (sr (oM rfl (oD (stp_len Tryz.underlying27 rfl) rfl (oM rfl (nn (cw_join (ι := Int) (fun | v2 => o0_0 = .out v2) (fun | v2 => [(0, .slice p0_0 ((a0).length) c0_0), (1, .slice p1_0 ((a1).length) c1_0), (12, .int .i64 ((a0).length : Int)), (13, .int .i64 v2)]) (fun | v2 => []) ?_ ?_))))))))
 ·refine cw_block (cw_loopS (ι := Nat × Int) (js := []) (fun x => x.1) (fun | (fuel, v2) => slices_Equal_Line_L0 fl a0 a1 fuel v2 = some o0_0) (fun | (_, v2) => [(0, .slice p0_0 ((a0).length) c0_0), (1, .slice p1_0 ((a1).length) c1_0), (12, .int .i64 ((a0).length : Int)), (13, .int .i64 v2)]) (fun | (_, v2) => []) (fl, 0) eo0_0 ⟨rfl, rfl, rfl, rfl, trivial⟩ trivial (by decide) ?_)
  rintro ⟨fuel, v2⟩ H1
  have H1 : slices_Equal_Line_L0 fl a0 a1 fuel v2 = some o0_0 := H1
  rcases fuel with _ | fuel
  ·rw [slices_Equal_Line_L0.eq_1] at H1; cases H1
  rw [slices_Equal_Line_L0.eq_2] at H1
  dsimp only
  refine sr (oW rfl (nn (cw_seq (cw_cond rfl (fun h3 => ?_) (fun h3 => ?_)))))
  ·have H1 := cond_t H1 h3
   obtain ⟨x4, e4, H1⟩ := bS H1
   obtain ⟨x5, e5, H1⟩ := bS H1
   refine cw_skip (kw_nx (cw_seq (cw_block (sr (oM rfl (oS rfl (nn (cw_seq (rdq g_mixed [0, 1, 5] [] { dst := dS [17, 18, 19, 20, 21, 22, 23, 24, 25], pre := gA [] [[], [], [0, 1], [0, 1, 2], [], [], [4, 5], [4, 5, 6], rn 0 8], ids := fun _ => [], rs := rL [[(0, 0)], [(5, 0)], [(16, 1), (17, 2)], [(18, 3)], [(1, 0)], [(5, 0)], [(20, 5), (21, 6)], [(22, 7)], [(19, 4), (23, 8)]], rh := fun _ => [], V := fun i g => gA undef [.slice p0_0 ((a0).length) c0_0, .int .i64 v2, .pointer (some ⟨eB p0_0, eO p0_0 + Int.toNat v2 * Enc.sz Ln + 0, none⟩), .agg #[.bool x4.va, .int .i64 x4.tg, .int .i64 x4.pg, .int .i64 x4.fr, .int .i64 x4.ri, .bool x4.wi], .slice p1_0 ((a1).length) c1_0, .int .i64 v2, .pointer (some ⟨eB p1_0, eO p1_0 + Int.toNat v2 * Enc.sz Ln + 0, none⟩), .agg #[.bool x5.va, .int .i64 x5.tg, .int .i64 x5.pg, .int .i64 x5.fr, .int .i64 x5.ri, .bool x5.wi], .bool (x4 != x5)] i, U := fun _ _ => [], Φ := fun _ _ => True } ?_ ?_)))))))))
   ·exact ⟨lM, lM, lc rfl rfl fun hs hh => stp_indexAddr Tryz.underlying27 ts41 (by decide) (sv hs 16 rfl) rfl (sv hs 17 rfl) (Rdb.ro hr0_0) e4, lc rfl rfl fun hs hh => stp_loadN (us := [_, _, _, _, _, _]) ts41 (sv hs 18 rfl) (Cells.el (Rdb.ro hr0_0) (by decide) e4 0 6 rfl), lM, lM, lc rfl rfl fun hs hh => stp_indexAddr Tryz.underlying27 ts41 (by decide) (sv hs 20 rfl) rfl (sv hs 21 rfl) (Rdb.ro hr1_0) e5, lc rfl rfl fun hs hh => stp_loadN (us := [_, _, _, _, _, _]) ts41 (sv hs 22 rfl) (Cells.el (Rdb.ro hr1_0) (by decide) e5 0 6 rfl), lc rfl rfl fun hs hh => stp_neqS te41 x4 x5 (sv hs 19 rfl) (sv hs 23 rfl), trivial⟩
   intro g hΦ
   refine KW.sub (s' := [(0, .slice p0_0 ((a0).length) c0_0), (1, .slice p1_0 ((a1).length) c1_0), (12, .int .i64 ((a0).length : Int)), (13, .int .i64 v2), (24, .bool (x4 != x5))]) (h' := []) ?_ ⟨rfl, rfl, rfl, rfl, rfl, trivial⟩ trivial
   refine kw_nx (cw_cond rfl (fun h6 => ?_) (fun h6 => ?_))
   ·have H1 := cond_t H1 h6
    refine sr (oS rfl (nn (cw_ret (kw_bl_ret (kw_nx_ret (kw_lq_ret (kw_bl_ret (kw_join_ret (kw_nx_ret ?_)))))))))
    obtain rfl := sI H1
    obtain rfl := sI H0
    exact kr Tryz.results62 (rT rfl) [] ⟨rfl, rfl⟩
   have H1 := cond_f H1 h6
   obtain ⟨x7, e7, H1⟩ := bS H1
   exact cw_skip (kw_bl_normal (kw_nx (cw_region (oP e7 rfl (oM rfl (ow_nil (kw_lqS (js := []) (fuel, x7) H1 (Nat.lt_succ_self _) ⟨rfl, rfl, rfl, rfl, trivial⟩ trivial (by decide))))))))
  have H1 := cond_f H1 h3
  refine cw_exit (kw_nx_exit (kw_lq_exit (kw_bl ?_)))
  obtain rfl := sI H1
  exact kw_joinS (js := []) v2 rfl ⟨rfl, rfl, rfl, rfl, trivial⟩ trivial (by decide)
 rintro v2 rfl
 dsimp only
 refine kw_nx (sr (oS rfl (nn (cw_ret ?_))))
 obtain rfl := sI H0
 exact kr Tryz.results62 (rT rfl) [] ⟨rfl, rfl⟩

theorem c_i_CacheSame (fl : Nat) (w : World) (a0 : Ca) (a1 : Ca) (hn0_0 : n0_0 = (a0.l).length) (hr0_0 : RO w (hkeys []) (RdL p0_0 c0_0 a0.l)) (hn1_0 : n1_0 = (a1.l).length) (hr1_0 : RO w (hkeys []) (RdL p1_0 c1_0 a1.l)) (r : Bool) (H0 : i_CacheSame fl a0 a1 = some r) :
  Ct Tryz.prog 21 [.agg #[.slice p0_0 n0_0 c0_0, .int .i64 a0.h], .agg #[.slice p1_0 n1_0 c1_0, .int .i64 a1.h]] w [] (fun rv h' => rv = .bool r ∧ h' = []) := by
 subst hn0_0 hn1_0
 unfold i_CacheSame at H0
 refine ct_of_cw Tryz.func21 rfl Tryz.ntmps21 rfl (Sat.refl _ _) ?_
 refine sr (oE (stpU_box 0 rfl rfl) rfl ?_)
 rintro _ _ ⟨b1, rfl, rfl⟩
 refine oE (stpU_box 1 rfl rfl) rfl ?_
 rintro _ _ ⟨b2, rfl, rfl⟩
 obtain ⟨y3, ey3, H0⟩ := bS H0
 refine oS rfl (nn (sr (oA 1 Tryz.underlying29 rfl ts3 rfl (oL 0 ts3 rfl (oA 1 Tryz.underlying29 rfl ts3 rfl (oL 1 ts3 rfl (oQ rfl (oM rfl (ow_cutY 6 16 y3 ?_ ?_)))))))))
 ·rcases Bool.eq_false_or_eq_true (a0.h == a1.h) with hy3 | hy3
  ·have ey3 := cond_t ey3 hy3
   obtain ⟨x4, e4, ey3⟩ := bS ey3
   refine oG rfl hy3 (fA 0 Tryz.underlying29 rfl ts27 rfl rfl rfl) rfl (oG rfl hy3 (lB 0 ts27 rfl rfl rfl) rfl (oG rfl hy3 (fA 0 Tryz.underlying29 rfl ts27 rfl rfl rfl) rfl (oG rfl hy3 (lB 1 ts27 rfl rfl rfl) rfl (ow_eff (.some rfl hy3) (stpU_call (fun i => 2 + i) cf62 (fun w hw => c_slices_Equal_Line fl w a0.l a1.l rfl (RO.pass hr0_0 hw) rfl (RO.pass hr1_0 hw) x4 e4) (yB rfl rfl)) rfl ?_))))
   rintro _ _ ⟨_, ⟨rfl, rfl⟩, rfl⟩
   refine oD (stp_pick_t rfl hy3 rfl) rfl ?_
   obtain rfl := sI ey3
   exact ow_nil (jy 6 0)
  have ey3 := cond_f ey3 hy3
  refine oO rfl hy3 rfl (oO rfl hy3 rfl (oO rfl hy3 rfl (oO rfl hy3 rfl (oO rfl hy3 rfl (oD (stp_pick_f rfl hy3 rfl) rfl ?_)))))
  obtain rfl := sI ey3
  exact ow_nil (jy 6 0)
 refine oS rfl (nn (cw_ret ?_))
 obtain rfl := sI H0
 exact kr Tryz.results21 (rT rfl) [] ⟨rfl, rfl⟩

theorem c_slices_Equal_Own (fl : Nat) (w : World) (a0 : (List Ow)) (a1 : (List Ow)) (hn0_0 : n0_0 = (a0).length) (hr0_0 : RO w (hkeys []) (RdL p0_0 c0_0 a0)) (hn1_0 : n1_0 = (a1).length) (hr1_0 : RO w (hkeys []) (RdL p1_0 c1_0 a1)) (r : Bool) (H0 : slices_Equal_Own fl a0 a1 = some r) :
  Ct Tryz.prog 91 [.slice p0_0 n0_0 c0_0, .slice p1_0 n1_0 c1_0] w [] (fun rv h' => rv = .bool r ∧ h' = []) := by
 subst hn0_0 hn1_0
 unfold slices_Equal_Own at H0
 refine ct_of_cw Tryz.func91 rfl Tryz.ntmps91 rfl (Sat.refl _ _) ?_
 refine sr (oS rfl (nn (cw_seq (sr (oM rfl (oD (stp_len Tryz.underlying30 rfl) rfl (oM rfl (oD (stp_len Tryz.underlying30 rfl) rfl (oU rfl (nn (cw_cond rfl (fun h1 => ?_) (fun h1 => ?_))))))))))))
 ·have H0 := cond_t H0 h1
  refine sr (oS rfl (nn (cw_ret (kw_nx_ret ?_))))
  obtain rfl := sI H0
  exact kr Tryz.results91 (rT rfl) [] ⟨rfl, rfl⟩
 have H0 := cond_f H0 h1
 obtain ⟨o0_0, eo0_0, H0⟩ := bS H0
 refine cw_skip (kw_nx (cw_seq (sr (oM rfl (oD (stp_len Tryz.underlying30 rfl) rfl (oM rfl (nn (cw_join (ι := Int) (fun | v2 => o0_0 = .out v2) (fun | v2 => [(0, .slice p0_0 ((a0).length) c0_0), (1, .slice p1_0 ((a1).length) c1_0), (12, .int .i64 ((a0).length : Int)), (13, .int .i64 v2)]) (fun | v2 => []) ?_ ?_))))))))
 ·refine cw_block (cw_loopS (ι := Nat × Int) (js := []) (fun x => x.1) (fun | (fuel, v2) => slices_Equal_Own_L0 fl a0 a1 fuel v2 = some o0_0) (fun | (_, v2) => [(0, .slice p0_0 ((a0).length) c0_0), (1, .slice p1_0 ((a1).length) c1_0), (12, .int .i64 ((a0).length : Int)), (13, .int .i64 v2)]) (fun | (_, v2) => []) (fl, 0) eo0_0 ⟨rfl, rfl, rfl, rfl, trivial⟩ trivial (by decide) ?_)
  rintro ⟨fuel, v2⟩ H1
  have H1 : slices_Equal_Own_L0 fl a0 a1 fuel v2 = some o0_0 := H1
  rcases fuel with _ | fuel
  ·rw [slices_Equal_Own_L0.eq_1] at H1; cases H1
  rw [slices_Equal_Own_L0.eq_2] at H1
  dsimp only
  refine sr (oW rfl (nn (cw_seq (cw_cond rfl (fun h3 => ?_) (fun h3 => ?_)))))
  ·have H1 := cond_t H1 h3
   obtain ⟨x4, e4, H1⟩ := bS H1
   obtain ⟨x5, e5, H1⟩ := bS H1
   refine cw_skip (kw_nx (cw_seq (cw_block (sr (oM rfl (oS rfl (nn (cw_seq (rdq g_mixed [0, 1, 5] [] { dst := dS [17, 18, 19, 20, 21, 22, 23, 24, 25], pre := gA [] [[], [], [0, 1], [0, 1, 2], [], [], [4, 5], [4, 5, 6], rn 0 8], ids := fun _ => [], rs := rL [[(0, 0)], [(5, 0)], [(16, 1), (17, 2)], [(18, 3)], [(1, 0)], [(5, 0)], [(20, 5), (21, 6)], [(22, 7)], [(19, 4), (23, 8)]], rh := fun _ => [], V := fun i g => gA undef [.slice p0_0 ((a0).length) c0_0, .int .i64 v2, .pointer (some ⟨eB p0_0, eO p0_0 + Int.toNat v2 * Enc.sz Ow + 0, none⟩), .agg #[.int .i64 x4.sp, .int .i64 x4.tg], .slice p1_0 ((a1).length) c1_0, .int .i64 v2, .pointer (some ⟨eB p1_0, eO p1_0 + Int.toNat v2 * Enc.sz Ow + 0, none⟩), .agg #[.int .i64 x5.sp, .int .i64 x5.tg], .bool (x4 != x5)] i, U := fun _ _ => [], Φ := fun _ _ => True } ?_ ?_)))))))))
   ·exact ⟨lM, lM, lc rfl rfl fun hs hh => stp_indexAddr Tryz.underlying30 ts118 (by decide) (sv hs 16 rfl) rfl (sv hs 17 rfl) (Rdb.ro hr0_0) e4, lc rfl rfl fun hs hh => stp_loadN (us := [_, _]) ts118 (sv hs 18 rfl) (Cells.el (Rdb.ro hr0_0) (by decide) e4 0 2 rfl), lM, lM, lc rfl rfl fun hs hh => stp_indexAddr Tryz.underlying30 ts118 (by decide) (sv hs 20 rfl) rfl (sv hs 21 rfl) (Rdb.ro hr1_0) e5, lc rfl rfl fun hs hh => stp_loadN (us := [_, _]) ts118 (sv hs 22 rfl) (Cells.el (Rdb.ro hr1_0) (by decide) e5 0 2 rfl), lc rfl rfl fun hs hh => stp_neqS te118 x4 x5 (sv hs 19 rfl) (sv hs 23 rfl), trivial⟩
   intro g hΦ
   refine KW.sub (s' := [(0, .slice p0_0 ((a0).length) c0_0), (1, .slice p1_0 ((a1).length) c1_0), (12, .int .i64 ((a0).length : Int)), (13, .int .i64 v2), (24, .bool (x4 != x5))]) (h' := []) ?_ ⟨rfl, rfl, rfl, rfl, rfl, trivial⟩ trivial
   refine kw_nx (cw_cond rfl (fun h6 => ?_) (fun h6 => ?_))
   ·have H1 := cond_t H1 h6
    refine sr (oS rfl (nn (cw_ret (kw_bl_ret (kw_nx_ret (kw_lq_ret (kw_bl_ret (kw_join_ret (kw_nx_ret ?_)))))))))
    obtain rfl := sI H1
    obtain rfl := sI H0
    exact kr Tryz.results91 (rT rfl) [] ⟨rfl, rfl⟩
   have H1 := cond_f H1 h6
   obtain ⟨x7, e7, H1⟩ := bS H1
   exact cw_skip (kw_bl_normal (kw_nx (cw_region (oP e7 rfl (oM rfl (ow_nil (kw_lqS (js := []) (fuel, x7) H1 (Nat.lt_succ_self _) ⟨rfl, rfl, rfl, rfl, trivial⟩ trivial (by decide))))))))
  have H1 := cond_f H1 h3
  refine cw_exit (kw_nx_exit (kw_lq_exit (kw_bl ?_)))
  obtain rfl := sI H1
  exact kw_joinS (js := []) v2 rfl ⟨rfl, rfl, rfl, rfl, trivial⟩ trivial (by decide)
 rintro v2 rfl
 dsimp only
 refine kw_nx (sr (oS rfl (nn (cw_ret ?_))))
 obtain rfl := sI H0
 exact kr Tryz.results91 (rT rfl) [] ⟨rfl, rfl⟩

theorem c_i_TagsSame (fl : Nat) (w : World) (a0 : Tg) (a1 : Tg) (hn0_0 : n0_0 = (a0.o).length) (hr0_0 : RO w (hkeys []) (RdL p0_0 c0_0 a0.o)) (hn1_0 : n1_0 = (a1.o).length) (hr1_0 : RO w (hkeys []) (RdL p1_0 c1_0 a1.o)) (r : Bool) (H0 : i_TagsSame fl a0 a1 = some r) :
  Ct Tryz.prog 33 [.agg #[.int .i64 a0.c, .int .i64 a0.n, .int .i64 a0.r, .slice p0_0 n0_0 c0_0], .agg #[.int .i64 a1.c, .int .i64 a1.n, .int .i64 a1.r, .slice p1_0 n1_0 c1_0]] w [] (fun rv h' => rv = .bool r ∧ h' = []) := by
 subst hn0_0 hn1_0
 unfold i_TagsSame at H0
 refine ct_of_cw Tryz.func33 rfl Tryz.ntmps33 rfl (Sat.refl _ _) ?_
 refine sr (oE (stpU_box 0 rfl rfl) rfl ?_)
 rintro _ _ ⟨b1, rfl, rfl⟩
 refine oE (stpU_box 1 rfl rfl) rfl ?_
 rintro _ _ ⟨b2, rfl, rfl⟩
 obtain ⟨y3, ey3, H0⟩ := bS H0
 refine oS rfl (nn (sr (oA 0 Tryz.underlying32 rfl ts3 rfl (oL 0 ts3 rfl (oA 0 Tryz.underlying32 rfl ts3 rfl (oL 1 ts3 rfl (oQ rfl (oM rfl (ow_cutY 6 16 y3 ?_ ?_)))))))))
 ·rcases Bool.eq_false_or_eq_true (a0.c == a1.c) with hy3 | hy3
  ·have ey3 := cond_t ey3 hy3
   refine oG rfl hy3 (fA 1 Tryz.underlying32 rfl ts3 rfl rfl rfl) rfl (oG rfl hy3 (lB 0 ts3 rfl rfl rfl) rfl (oG rfl hy3 (fA 1 Tryz.underlying32 rfl ts3 rfl rfl rfl) rfl (oG rfl hy3 (lB 1 ts3 rfl rfl rfl) rfl (oG rfl hy3 (stp_eql rfl rfl) rfl (oD (stp_pick_t rfl hy3 rfl) rfl ?_)))))
   obtain rfl := sI ey3
   exact ow_nil (jy 6 0)
  have ey3 := cond_f ey3 hy3
  refine oO rfl hy3 rfl (oO rfl hy3 rfl (oO rfl hy3 rfl (oO rfl hy3 rfl (oO rfl hy3 rfl (oD (stp_pick_f rfl hy3 rfl) rfl ?_)))))
  obtain rfl := sI ey3
  exact ow_nil (jy 6 0)
 obtain ⟨y4, ey4, H0⟩ := bS H0
 refine oM rfl (ow_cutY 6 23 y4 ?_ ?_)
 ·rcases Bool.eq_false_or_eq_true y3 with hy4 | hy4
  ·have ey4 := cond_t ey4 hy4
   refine oG rfl hy4 (fA 2 Tryz.underlying32 rfl ts3 rfl rfl rfl) rfl (oG rfl hy4 (lB 0 ts3 rfl rfl rfl) rfl (oG rfl hy4 (fA 2 Tryz.underlying32 rfl ts3 rfl rfl rfl) rfl (oG rfl hy4 (lB 1 ts3 rfl rfl rfl) rfl (oG rfl hy4 (stp_eql rfl rfl) rfl (oD (stp_pick_t rfl hy4 rfl) rfl ?_)))))
   obtain rfl := sI ey4
   exact ow_nil (jy 6 0)
  have ey4 := cond_f ey4 hy4
  refine oO rfl hy4 rfl (oO rfl hy4 rfl (oO rfl hy4 rfl (oO rfl hy4 rfl (oO rfl hy4 rfl (oD (stp_pick_f rfl hy4 rfl) rfl ?_)))))
  obtain rfl := sI ey4
  exact ow_nil (jy 6 0)
 obtain ⟨y5, ey5, H0⟩ := bS H0
 refine oM rfl (ow_cutY 6 30 y5 ?_ ?_)
 ·rcases Bool.eq_false_or_eq_true y4 with hy5 | hy5
  ·have ey5 := cond_t ey5 hy5
   obtain ⟨x6, e6, ey5⟩ := bS ey5
   refine oG rfl hy5 (fA 3 Tryz.underlying32 rfl ts30 rfl rfl rfl) rfl (oG rfl hy5 (lB 0 ts30 rfl rfl rfl) rfl (oG rfl hy5 (fA 3 Tryz.underlying32 rfl ts30 rfl rfl rfl) rfl (oG rfl hy5 (lB 1 ts30 rfl rfl rfl) rfl (ow_eff (.some rfl hy5) (stpU_call (fun i => 2 + i) cf91 (fun w hw => c_slices_Equal_Own fl w a0.o a1.o rfl (RO.pass hr0_0 hw) rfl (RO.pass hr1_0 hw) x6 e6) (yB rfl rfl)) rfl ?_))))
   rintro _ _ ⟨_, ⟨rfl, rfl⟩, rfl⟩
   refine oD (stp_pick_t rfl hy5 rfl) rfl ?_
   obtain rfl := sI ey5
   exact ow_nil (jy 6 0)
  have ey5 := cond_f ey5 hy5
  refine oO rfl hy5 rfl (oO rfl hy5 rfl (oO rfl hy5 rfl (oO rfl hy5 rfl (oO rfl hy5 rfl (oD (stp_pick_f rfl hy5 rfl) rfl ?_)))))
  obtain rfl := sI ey5
  exact ow_nil (jy 6 0)
 refine oS rfl (nn (cw_ret ?_))
 obtain rfl := sI H0
 exact kr Tryz.results33 (rT rfl) [] ⟨rfl, rfl⟩

theorem c_i_MachineSame (fl : Nat) (w : World) (a0 : Mc) (a1 : Mc) (hn0_0 : n0_0 = (a0.t.b).length) (hr0_0 : RO w (hkeys []) (RdL p0_0 c0_0 a0.t.b)) (hn0_1 : n0_1 = (a0.t.f).length) (hr0_1 : RO w (hkeys []) (RdL p0_1 c0_1 a0.t.f)) (hn0_2 : n0_2 = (a0.c.l).length) (hr0_2 : RO w (hkeys []) (RdL p0_2 c0_2 a0.c.l)) (hn0_3 : n0_3 = (a0.g.o).length) (hr0_3 : RO w (hkeys []) (RdL p0_3 c0_3 a0.g.o)) (hn1_0 : n1_0 = (a1.t.b).length) (hr1_0 : RO w (hkeys []) (RdL p1_0 c1_0 a1.t.b)) (hn1_1 : n1_1 = (a1.t.f).length) (hr1_1 : RO w (hkeys []) (RdL p1_1 c1_1 a1.t.f)) (hn1_2 : n1_2 = (a1.c.l).length) (hr1_2 : RO w (hkeys []) (RdL p1_2 c1_2 a1.c.l)) (hn1_3 : n1_3 = (a1.g.o).length) (hr1_3 : RO w (hkeys []) (RdL p1_3 c1_3 a1.g.o)) (r : Bool) (H0 : i_MachineSame fl a0 a1 = some r) :
  Ct Tryz.prog 18 [.agg #[.slice p0_0 n0_0 c0_0, .slice p0_1 n0_1 c0_1, .slice p0_2 n0_2 c0_2, .int .i64 a0.c.h, .int .i64 a0.g.c, .int .i64 a0.g.n, .int .i64 a0.g.r, .slice p0_3 n0_3 c0_3, .int .i64 a0.s], .agg #[.slice p1_0 n1_0 c1_0, .slice p1_1 n1_1 c1_1, .slice p1_2 n1_2 c1_2, .int .i64 a1.c.h, .int .i64 a1.g.c, .int .i64 a1.g.n, .int .i64 a1.g.r, .slice p1_3 n1_3 c1_3, .int .i64 a1.s]] w [] (fun rv h' => rv = .bool r ∧ h' = []) := by
 subst hn0_0 hn0_1 hn0_2 hn0_3 hn1_0 hn1_1 hn1_2 hn1_3
 unfold i_MachineSame at H0
 refine ct_of_cw Tryz.func18 rfl Tryz.ntmps18 rfl (Sat.refl _ _) ?_
 refine sr (oE (stpU_box 0 rfl rfl) rfl ?_)
 rintro _ _ ⟨b1, rfl, rfl⟩
 refine oE (stpU_box 1 rfl rfl) rfl ?_
 rintro _ _ ⟨b2, rfl, rfl⟩
 obtain ⟨x3, e3, H0⟩ := bS H0
 refine oS rfl (nn (sr (oA 0 Tryz.underlying34 rfl ts26 rfl (oB2 0 ts26 rfl (oA 0 Tryz.underlying34 rfl ts26 rfl (oB2 1 ts26 rfl (oE (stpU_call (fun i => 2 + i) cf20 (fun w hw => c_i_TableSame fl w a0.t a1.t rfl (RO.pass hr0_0 hw) rfl (RO.pass hr0_1 hw) rfl (RO.pass hr1_0 hw) rfl (RO.pass hr1_1 hw) x3 e3) (yB rfl rfl)) rfl ?_)))))))
 rintro _ _ ⟨_, ⟨rfl, rfl⟩, rfl⟩
 obtain ⟨y4, ey4, H0⟩ := bS H0
 refine oM rfl (ow_cutY 6 16 y4 ?_ ?_)
 ·rcases Bool.eq_false_or_eq_true x3 with hy4 | hy4
  ·have ey4 := cond_t ey4 hy4
   obtain ⟨x5, e5, ey4⟩ := bS ey4
   refine oG rfl hy4 (fA 2 Tryz.underlying34 rfl ts29 rfl rfl rfl) rfl (oG rfl hy4 (stp_loadN (us := [_, _]) ts29 rfl (Cells.box (id := 0) rfl 2 rfl)) rfl (oG rfl hy4 (fA 2 Tryz.underlying34 rfl ts29 rfl rfl rfl) rfl (oG rfl hy4 (stp_loadN (us := [_, _]) ts29 rfl (Cells.box (id := 1) rfl 2 rfl)) rfl (ow_eff (.some rfl hy4) (stpU_call (fun i => 2 + i) cf21 (fun w hw => c_i_CacheSame fl w a0.c a1.c rfl (RO.pass hr0_2 hw) rfl (RO.pass hr1_2 hw) x5 e5) (yB rfl rfl)) rfl ?_))))
   rintro _ _ ⟨_, ⟨rfl, rfl⟩, rfl⟩
   refine oD (stp_pick_t rfl hy4 rfl) rfl ?_
   obtain rfl := sI ey4
   exact ow_nil (jy 6 0)
  have ey4 := cond_f ey4 hy4
  refine oO rfl hy4 rfl (oO rfl hy4 rfl (oO rfl hy4 rfl (oO rfl hy4 rfl (oO rfl hy4 rfl (oD (stp_pick_f rfl hy4 rfl) rfl ?_)))))
  obtain rfl := sI ey4
  exact ow_nil (jy 6 0)
 obtain ⟨y6, ey6, H0⟩ := bS H0
 refine oM rfl (ow_cutY 6 23 y6 ?_ ?_)
 ·rcases Bool.eq_false_or_eq_true y4 with hy6 | hy6
  ·have ey6 := cond_t ey6 hy6
   obtain ⟨x7, e7, ey6⟩ := bS ey6
   refine oG rfl hy6 (fA 4 Tryz.underlying34 rfl ts32 rfl rfl rfl) rfl (oG rfl hy6 (stp_loadN (us := [_, _, _, _]) ts32 rfl (Cells.box (id := 0) rfl 4 rfl)) rfl (oG rfl hy6 (fA 4 Tryz.underlying34 rfl ts32 rfl rfl rfl) rfl (oG rfl hy6 (stp_loadN (us := [_, _, _, _]) ts32 rfl (Cells.box (id := 1) rfl 4 rfl)) rfl (ow_eff (.some rfl hy6) (stpU_call (fun i => 2 + i) cf33 (fun w hw => c_i_TagsSame fl w a0.g a1.g rfl (RO.pass hr0_3 hw) rfl (RO.pass hr1_3 hw) x7 e7) (yB rfl rfl)) rfl ?_))))
   rintro _ _ ⟨_, ⟨rfl, rfl⟩, rfl⟩
   refine oD (stp_pick_t rfl hy6 rfl) rfl ?_
   obtain rfl := sI ey6
   exact ow_nil (jy 6 0)
  have ey6 := cond_f ey6 hy6
  refine oO rfl hy6 rfl (oO rfl hy6 rfl (oO rfl hy6 rfl (oO rfl hy6 rfl (oO rfl hy6 rfl (oD (stp_pick_f rfl hy6 rfl) rfl ?_)))))
  obtain rfl := sI ey6
  exact ow_nil (jy 6 0)
 obtain ⟨y8, ey8, H0⟩ := bS H0
 refine oM rfl (ow_cutY 6 30 y8 ?_ ?_)
 ·rcases Bool.eq_false_or_eq_true y6 with hy8 | hy8
  ·have ey8 := cond_t ey8 hy8
   refine oG rfl hy8 (fA 8 Tryz.underlying34 rfl ts3 rfl rfl rfl) rfl (oG rfl hy8 (lB 0 ts3 rfl rfl rfl) rfl (oG rfl hy8 (fA 8 Tryz.underlying34 rfl ts3 rfl rfl rfl) rfl (oG rfl hy8 (lB 1 ts3 rfl rfl rfl) rfl (oG rfl hy8 (stp_eql rfl rfl) rfl (oD (stp_pick_t rfl hy8 rfl) rfl ?_)))))
   obtain rfl := sI ey8
   exact ow_nil (jy 6 0)
  have ey8 := cond_f ey8 hy8
  refine oO rfl hy8 rfl (oO rfl hy8 rfl (oO rfl hy8 rfl (oO rfl hy8 rfl (oO rfl hy8 rfl (oD (stp_pick_f rfl hy8 rfl) rfl ?_)))))
  obtain rfl := sI ey8
  exact ow_nil (jy 6 0)
 refine oS rfl (nn (cw_ret ?_))
 obtain rfl := sI H0
 exact kr Tryz.results18 (rT rfl) [] ⟨rfl, rfl⟩

theorem c_i_TakeTag (fl : Nat) (w : World) (a0 : Tg) (a1 : Int) (hn0_0 : n0_0 = (a0.o).length) (hr0_0 : RO w (hkeys []) (RdL p0_0 c0_0 a0.o)) (r : Tg × Int × Bool × Bool) (H0 : i_TakeTag fl a0 a1 = some r) :
  Ct Tryz.prog 48 [.agg #[.int .i64 a0.c, .int .i64 a0.n, .int .i64 a0.r, .slice p0_0 n0_0 c0_0], .int .i64 a1] w [] (fun rv h' => ∃ (x0 : Option Addr) (y0 z0 : Nat) (C0 : Res), rv = .tuple #[.agg #[.int .i64 r.1.c, .int .i64 r.1.n, .int .i64 r.1.r, .slice x0 y0 z0], .int .i64 r.2.1, .bool r.2.2.1, .bool r.2.2.2] ∧ h' = [(0, C0)] ∧ y0 = (r.1.o).length ∧ OwnC 118 x0 z0 r.1.o C0) := by
 subst hn0_0
 unfold i_TakeTag at H0
 refine ct_of_cw Tryz.func48 rfl Tryz.ntmps48 rfl (Sat.refl _ _) ?_
 refine sr (oE (stpU_box 0 rfl rfl) rfl ?_)
 rintro _ _ ⟨b1, rfl, rfl⟩
 refine oE (stpU_alloc 1 tz32 rfl) rfl ?_
 rintro _ _ ⟨b2, rfl, rfl⟩
 obtain ⟨x3, e3, H0⟩ := bS H0
 refine oS rfl (oS rfl (oS rfl (nn (cw_seq (sr (oB4 0 ts32 rfl (oE (stpU_call (fun i => 2 + i) cf56 (fun w hw => c_i_TagsValid fl w a0 rfl (RO.pass hr0_0 hw) x3 e3) (yA rfl)) rfl ?_)))))))
 rintro _ _ ⟨_, ⟨rfl, rfl⟩, rfl⟩
 obtain ⟨y4, ey4, H0⟩ := bS H0
 refine oK rfl (oM rfl (ow_cutY 4 19 y4 ?_ ?_))
 ·rcases Bool.eq_false_or_eq_true (!x3) with hy4 | hy4
  ·have ey4 := cond_t ey4 hy4
   refine oO rfl hy4 rfl (oO rfl hy4 rfl (oO rfl hy4 rfl (oD (stp_pick_t rfl hy4 rfl) rfl ?_)))
   obtain rfl := sI ey4
   exact ow_nil (jy 4 0)
  have ey4 := cond_f ey4 hy4
  obtain ⟨x5, e5, ey4⟩ := bS ey4
  refine oG rfl hy4 (mv rfl) rfl (ow_eff (.some rfl hy4) (stpU_call (fun i => 2 + i) cf79 (fun w hw => c_i_within fl w a1 16 x5 e5) (yB rfl rfl)) rfl ?_)
  rintro _ _ ⟨_, ⟨rfl, rfl⟩, rfl⟩
  refine oG rfl hy4 (stp_not rfl) rfl (oD (stp_pick_f rfl hy4 rfl) rfl ?_)
  obtain rfl := sI ey4
  exact ow_nil (jy 4 0)
 refine ow_nil (kw_nx (cw_cond rfl (fun h6 => ?_) (fun h6 => ?_)))
 ·have H0 := cond_t H0 h6
  refine sr (oD (stp_build (cs := #[.int .i64 0, .int .i64 0, .int .i64 0, .slice none 0 0]) sevp_nil bt32_4) rfl (oC4 1 ts32 rfl rfl (oS rfl (oS rfl (oS rfl (nn (cw_ret (kw_nx_ret (kw_addNil 2 ?_)))))))))
  obtain rfl := sI H0
  exact kr Tryz.results48 (.cons (.cellN (us := [_, _, _, _]) ts32 rfl (Cells.box (id := 1) rfl 4 rfl)) (.cons (.tmp rfl) (.cons (.tmp rfl) (rT rfl)))) [2] ⟨_, _, _, _, rfl, rfl, rfl, (OwnC.nil _ _)⟩
 have H0 := cond_f H0 h6
 refine cw_skip (kw_nx (sr (oB4 0 ts32 rfl (oE (stpU_alloc 3 tz32 rfl) rfl ?_))))
 rintro _ _ ⟨b7, rfl, rfl⟩
 obtain ⟨x8, e8, H0⟩ := bS H0
 refine oC4 3 ts32 rfl rfl (nn (sr (oA 3 Tryz.underlying32 rfl ts30 rfl (oL 0 ts30 rfl (oE (stpU_call (fun i => 4 + i) cf97 (fun w hw => c_slices_Clone_Own fl w a0.o rfl (RO.pass hr0_0 hw) x8 e8) (yA rfl)) rfl ?_)))))
 rintro _ _ ⟨_, ⟨p9, _, c11, C12, rfl, rfl, rfl, o12⟩, rfl⟩
 refine oE (stpU_call (fun i => i) cf96 (fun w hw => c_clip96 w p9 ((x8).length) c11 (OwnC.len o12).1) (yA rfl)) rfl ?_
 rintro _ _ ⟨_, ⟨rfl, rfl⟩, rfl⟩
 obtain ⟨x13, e13, H0⟩ := bS H0
 refine oA 3 Tryz.underlying32 rfl ts30 rfl (oC4 3 ts30 rfl rfl (nn (cw_seq (sr (oB4 0 ts32 rfl (oM rfl (oE (stpU_call (fun i => 5 + i) cf57 (fun w hw => c_i_Tags_own fl w a0 a1 rfl (RO.pass hr0_0 hw) x13 e13) (yB rfl rfl)) rfl ?_)))))))
 rintro _ _ ⟨_, ⟨rfl, rfl⟩, rfl⟩
 refine oS rfl (nn (sr (oM rfl (oI rfl (nn (cw_cond rfl (fun h14 => ?_) (fun h14 => ?_)))))))
 ·have H0 := cond_t H0 h14
  obtain ⟨x15, e15, H0⟩ := bS H0
  refine cw_seq (rdq g_mixed [2, 4, 8, 9] [0, 1, 3] { dst := dS [33, 34, 35, 36, 37, 38, 39, 0, 6, 7, 8], pre := gA [] [[], [], [1], [], [1, 2, 3], rn 1 4, rn 1 5, [0], rn 0 8, rn 0 9, rn 0 10], ids := gA [] [[], [], [], [], [], [], [], [1]], rs := rL [[(8, 0)], [(2, 0)], [(33, 2)], [(9, 0)], [(34, 3), (35, 4)], [(36, 5)], [(37, 6)], [(4, 0), (32, 1)], [(38, 7)], [], []], rh := rL [[(3, 0)], [], [(0, 0)], [], [], [], [], [(1, 0)]], V := fun i g => gA undef [.agg #[.int .i64 a0.c, .int .i64 a0.n, .int .i64 a0.r, .slice p9 ((x8).length) ((x8).length)], .pointer (some ⟨b1, 3, none⟩), .slice p0_0 ((a0.o).length) c0_0, .int .i64 x13, .pointer (some ⟨eB p0_0, eO p0_0 + Int.toNat x13 * Enc.sz Ow + 0, none⟩), .pointer (some ⟨eB p0_0, eO p0_0 + Int.toNat x13 * Enc.sz Ow + 1, none⟩), .int .i64 x15.tg, undef, .int .i64 x15.tg, .bool false, .bool true] i, U := fun i g => match i with | 7 => [(1, [(b2, .cells #[.int .i64 a0.c, .int .i64 a0.n, .int .i64 a0.r, .slice p9 ((x8).length) ((x8).length)] 32 (0, 0))])] | _ => [], Φ := fun _ _ => True } ?_ ?_)
  ·refine ⟨lc rfl rfl fun hs hh => stp_loadN (us := [_, _, _, _]) ts32 (sv hs 8 rfl) (Cells.box (id := 3) (hh.get 3 _ rfl) 4 rfl), lc rfl rfl fun hs hh => stp_fieldAddr (j := 3) Tryz.underlying32 rfl ts30 rfl (sv hs 2 rfl) rfl, lc rfl rfl fun hs hh => stp_load1 ts30 (sv hs 33 rfl) (Cells.box (id := 0) (hh.get 0 _ rfl) 1 rfl), lM, lc rfl rfl fun hs hh => stp_indexAddr Tryz.underlying30 ts118 (by decide) (sv hs 34 rfl) rfl (sv hs 35 rfl) (Rdb.ro hr0_0) e15, lc rfl rfl fun hs hh => stp_fieldAddr (j := 1) Tryz.underlying118 rfl ts3 rfl (sv hs 36 rfl) rfl, lc rfl rfl fun hs hh => stp_load1 ts3 (sv hs 37 rfl) (Cells.el (Rdb.ro hr0_0) (by decide) e15 1 1 rfl), ?_, lS, lc rfl rfl fun hs hh => stp_assign rfl, lc rfl rfl fun hs hh => stp_assign rfl, trivial⟩
   refine le rfl rfl (fun g hΦ s h hs hh => (stpU_store (id := 1) (cs' := [.int .i64 a0.c, .int .i64 a0.n, .int .i64 a0.r, .slice p9 ((x8).length) ((x8).length)]) ts32 (sv hs 4 rfl) (sv hs 32 rfl) (hh.get 1 _ rfl) rfl rfl rfl rfl)) ?_
   rintro g _ _ rfl
   exact ⟨⟨[], [], []⟩, trivial, .inl rfl, rfl⟩
  intro g hΦ
  refine KW.sub (s' := [(4, .pointer (some ⟨b2, 0, none⟩)), (5, .int .i64 x15.tg), (6, .bool false), (7, .bool true)]) (h' := [(1, [(b2, .cells #[.int .i64 a0.c, .int .i64 a0.n, .int .i64 a0.r, .slice p9 ((x8).length) ((x8).length)] 32 (0, 0))]), (4, C12)]) ?_ ⟨rfl, rfl, rfl, rfl, trivial⟩ ⟨rfl, rfl, trivial⟩
  refine kw_nx (cw_ret (kw_nx_ret ?_))
  obtain rfl := sI H0
  exact kr Tryz.results48 (.cons (.cellN (us := [_, _, _, _]) ts32 rfl (Cells.box (id := 1) rfl 4 rfl)) (.cons (.tmp rfl) (.cons (.tmp rfl) (rT rfl)))) [4] ⟨_, _, _, _, rfl, rfl, rfl, (OwnC.clip o12)⟩
 have H0 := cond_f H0 h14
 refine cw_skip (kw_nx (sr (oA 1 Tryz.underlying32 rfl ts3 rfl (oL 0 ts3 rfl (oA 0 Tryz.underlying32 rfl ts3 rfl (oL 0 ts3 rfl (oQ rfl (oS rfl (nn (cw_seq (sr (oM rfl (nn ?_)))))))))))))
 refine cw_cond rfl (fun h16 => ?_) (fun h16 => ?_)
 ·have H0 := cond_t H0 h16
  refine cw_seq (sr (oA 2 Tryz.underlying32 rfl ts3 rfl (oL 0 ts3 rfl (oQ rfl (nn (cw_cond rfl (fun h17 => ?_) (fun h17 => ?_)))))))
  ·have H0 := cond_t H0 h17
   refine sr (oD (stp_build (cs := #[.int .i64 0, .int .i64 0, .int .i64 0, .slice none 0 0]) sevp_nil bt32_4) rfl (oC4 1 ts32 rfl rfl (oS rfl (oS rfl (oS rfl (nn (cw_ret (kw_nx_ret (kw_nx_ret (kw_addNil 5 ?_))))))))))
   obtain rfl := sI H0
   exact kr Tryz.results48 (.cons (.cellN (us := [_, _, _, _]) ts32 rfl (Cells.box (id := 1) rfl 4 rfl)) (.cons (.tmp rfl) (.cons (.tmp rfl) (rT rfl)))) [5] ⟨_, _, _, _, rfl, rfl, rfl, (OwnC.nil _ _)⟩
  have H0 := cond_f H0 h17
  obtain ⟨x18, e18, H0⟩ := bS H0
  refine cw_skip (kw_nx (cw_region (oA 0 Tryz.underlying32 rfl ts3 rfl (oL 0 ts3 rfl (oA 2 Tryz.underlying32 rfl ts3 rfl (oL 0 ts3 rfl (oP e18 rfl (oD (stp_build (cs := #[.int .i64 a0.c, .int .i64 0, .int .i64 x18, .slice none 0 0]) (sevp_cons rfl (sevp_cons rfl sevp_nil)) bt32_20) rfl (oC4 3 ts32 rfl rfl (nn (sr (oA 1 Tryz.underlying32 rfl ts3 rfl (oL 3 ts3 rfl ?_)))))))))))))
  refine oS rfl (nn (sr (oA 3 Tryz.underlying32 rfl ts30 rfl (oL 3 ts30 rfl (oM rfl (oM rfl (oD (stp_build (cs := #[.int .i64 a1, .int .i64 0]) (sevp_cons rfl (sevp_cons rfl sevp_nil)) bt118_9) rfl (oE (stpU_lit (sz := 2) (l := [(⟨a1, 0⟩ : Ow)]) [.agg #[.int .i64 a1, .int .i64 0]] sl30 6 (sevp_cons rfl sevp_nil) rfl rfl rfl rfl rfl rfl rfl rfl rfl) rfl ?_))))))))
  rintro _ _ ⟨p19, C20, rfl, rfl, o20⟩
  obtain ⟨x21, e21, H0⟩ := bS H0
  refine ow_addNil 7 (oE (stpU_append sl30 rfl (id := 7) rfl rfl rfl (by simp) rfl (OwnC.nil 118 none) (Rdb.own (id := 6) rfl o20) e21) rfl ?_)
  rintro _ _ ⟨p22, c23, C24, rfl, rfl, o24⟩
  refine oE (stpU_call (fun i => i) cf96 (fun w hw => c_clip96 w p22 ((x21).length) c23 (OwnC.len o24).1) (yA rfl)) rfl ?_
  rintro _ _ ⟨_, ⟨rfl, rfl⟩, rfl⟩
  obtain ⟨x25, e25, H0⟩ := bS H0
  refine oA 3 Tryz.underlying32 rfl ts30 rfl (oC4 3 ts30 rfl rfl (nn (sr (oA 1 Tryz.underlying32 rfl ts3 rfl (oL 3 ts3 rfl (oP e25 rfl (oA 1 Tryz.underlying32 rfl ts3 rfl (oC4 3 ts3 rfl rfl (nn (sr (oB4 3 ts32 rfl (oM rfl (oM rfl ?_)))))))))))))
  refine oC4 1 ts32 rfl rfl (oS rfl (oS rfl (oS rfl (nn (cw_ret ?_)))))
  obtain rfl := sI H0
  exact kr Tryz.results48 (.cons (.cellN (us := [_, _, _, _]) ts32 rfl (Cells.box (id := 1) rfl 4 rfl)) (.cons (.tmp rfl) (.cons (.tmp rfl) (rT rfl)))) [7] ⟨_, _, _, _, rfl, rfl, rfl, (OwnC.clip o24)⟩
 have H0 := cond_f H0 h16
 refine cw_skip (kw_nx (sr (oA 1 Tryz.underlying32 rfl ts3 rfl (oL 3 ts3 rfl (oS rfl (nn (sr (oA 3 Tryz.underlying32 rfl ts30 rfl (oL 3 ts30 rfl (oM rfl (oM rfl (oD (stp_build (cs := #[.int .i64 a1, .int .i64 a0.n]) (sevp_cons rfl (sevp_cons rfl sevp_nil)) bt118_9) rfl (oE (stpU_lit (sz := 2) (l := [(⟨a1, a0.n⟩ : Ow)]) [.agg #[.int .i64 a1, .int .i64 a0.n]] sl30 8 (sevp_cons rfl sevp_nil) rfl rfl rfl rfl rfl rfl rfl rfl rfl) rfl ?_)))))))))))))
 rintro _ _ ⟨p26, C27, rfl, rfl, o27⟩
 obtain ⟨x28, e28, H0⟩ := bS H0
 refine oE (stpU_append sl30 rfl (id := 4) rfl rfl rfl (by simp) rfl (OwnC.clip o12) (Rdb.own (id := 8) rfl o27) e28) rfl ?_
 rintro _ _ ⟨p29, c30, C31, rfl, rfl, o31⟩
 refine oE (stpU_call (fun i => i) cf96 (fun w hw => c_clip96 w p29 ((x28).length) c30 (OwnC.len o31).1) (yA rfl)) rfl ?_
 rintro _ _ ⟨_, ⟨rfl, rfl⟩, rfl⟩
 obtain ⟨x32, e32, H0⟩ := bS H0
 refine oA 3 Tryz.underlying32 rfl ts30 rfl (oC4 3 ts30 rfl rfl (nn (sr (oA 1 Tryz.underlying32 rfl ts3 rfl (oL 3 ts3 rfl (oP e32 rfl (oA 1 Tryz.underlying32 rfl ts3 rfl (oC4 3 ts3 rfl rfl (nn (sr (oB4 3 ts32 rfl (oM rfl (oM rfl ?_)))))))))))))
 refine oC4 1 ts32 rfl rfl (oS rfl (oS rfl (oS rfl (nn (cw_ret ?_)))))
 obtain rfl := sI H0
 exact kr Tryz.results48 (.cons (.cellN (us := [_, _, _, _]) ts32 rfl (Cells.box (id := 1) rfl 4 rfl)) (.cons (.tmp rfl) (.cons (.tmp rfl) (rT rfl)))) [4] ⟨_, _, _, _, rfl, rfl, rfl, (OwnC.clip o31)⟩

theorem c_i_EnterSpace (fl : Nat) (w : World) (a0 : Mc) (a1 : Int) (hn0_0 : n0_0 = (a0.t.b).length) (hr0_0 : RO w (hkeys []) (RdL p0_0 c0_0 a0.t.b)) (hn0_1 : n0_1 = (a0.t.f).length) (hr0_1 : RO w (hkeys []) (RdL p0_1 c0_1 a0.t.f)) (hn0_2 : n0_2 = (a0.c.l).length) (hr0_2 : RO w (hkeys []) (RdL p0_2 c0_2 a0.c.l)) (hn0_3 : n0_3 = (a0.g.o).length) (hr0_3 : RO w (hkeys []) (RdL p0_3 c0_3 a0.g.o)) (hg : RO w (hkeys []) (fun w' => w'.rangeAt 0 0 [.bool false, .int .i64 0, .int .i64 0, .int .i64 0, .int .i64 (-1)])) (r : Mc × Bool) (H0 : i_EnterSpace fl a0 a1 = some r) :
  Ct Tryz.prog 16 [.agg #[.slice p0_0 n0_0 c0_0, .slice p0_1 n0_1 c0_1, .slice p0_2 n0_2 c0_2, .int .i64 a0.c.h, .int .i64 a0.g.c, .int .i64 a0.g.n, .int .i64 a0.g.r, .slice p0_3 n0_3 c0_3, .int .i64 a0.s], .int .i64 a1] w [] (fun rv h' => ∃ (x0 : Option Addr) (y0 z0 : Nat) (C0 : Res) (x1 : Option Addr) (y1 z1 : Nat) (C1 : Res) (x2 : Option Addr) (y2 z2 : Nat) (C2 : Res) (x3 : Option Addr) (y3 z3 : Nat) (C3 : Res), rv = .tuple #[.agg #[.slice x0 y0 z0, .slice x1 y1 z1, .slice x2 y2 z2, .int .i64 r.1.c.h, .int .i64 r.1.g.c, .int .i64 r.1.g.n, .int .i64 r.1.g.r, .slice x3 y3 z3, .int .i64 r.1.s], .bool r.2] ∧ h' = [(0, C0), (1, C1), (2, C2), (3, C3)] ∧ y0 = (r.1.t.b).length ∧ OwnC 3 x0 z0 r.1.t.b C0 ∧ y1 = (r.1.t.f).length ∧ OwnC 58 x1 z1 r.1.t.f C1 ∧ y2 = (r.1.c.l).length ∧ OwnC 41 x2 z2 r.1.c.l C2 ∧ y3 = (r.1.g.o).length ∧ OwnC 118 x3 z3 r.1.g.o C3) := by
 subst hn0_0 hn0_1 hn0_2 hn0_3
 unfold i_EnterSpace at H0
 refine ct_of_cw Tryz.func16 rfl Tryz.ntmps16 rfl (Sat.refl _ _) ?_
 refine sr (oE (stpU_box 0 rfl rfl) rfl ?_)
 rintro _ _ ⟨b1, rfl, rfl⟩
 refine oE (stpU_alloc 1 tz34 rfl) rfl ?_
 rintro _ _ ⟨b2, rfl, rfl⟩
 obtain ⟨x3, e3, H0⟩ := bS H0
 refine oS rfl (nn (cw_seq (sr (oB9 0 ts34 rfl (oE (stpU_call (fun i => 2 + i) cf19 (fun w hw => c_i_MachineValid fl w a0 rfl (RO.pass hr0_0 hw) rfl (RO.pass hr0_1 hw) rfl (RO.pass hr0_2 hw) rfl (RO.pass hr0_3 hw) (RO.pass hg hw) x3 e3) (yA rfl)) rfl ?_)))))
 rintro _ _ ⟨_, ⟨rfl, rfl⟩, rfl⟩
 refine oK rfl (nn (cw_cond rfl (fun h4 => ?_) (fun h4 => ?_)))
 ·have H0 := cond_t H0 h4
  refine sr (oD (stp_build (cs := #[.slice none 0 0, .slice none 0 0, .slice none 0 0, .int .i64 0, .int .i64 0, .int .i64 0, .int .i64 0, .slice none 0 0, .int .i64 0]) sevp_nil bt34_6) rfl (oC9 1 ts34 rfl rfl (oS rfl (nn (cw_ret (kw_nx_ret (kw_addNil 2 (kw_addNil 3 (kw_addNil 4 (kw_addNil 5 ?_))))))))))
  obtain rfl := sI H0
  exact kr Tryz.results16 (.cons (.cellN (us := [_, _, _, _, _, _, _, _, _]) ts34 rfl (Cells.box (id := 1) rfl 9 rfl)) (rT rfl)) [2, 3, 4, 5] ⟨_, _, _, _, _, _, _, _, _, _, _, _, _, _, _, _, rfl, rfl, rfl, (OwnC.nil _ _), rfl, (OwnC.nil _ _), rfl, (OwnC.nil _ _), rfl, (OwnC.nil _ _)⟩
 have H0 := cond_f H0 h4
 obtain ⟨x5, e5, H0⟩ := bS H0
 refine cw_skip (kw_nx (sr (oA 4 Tryz.underlying34 rfl ts32 rfl (oB4 0 ts32 rfl (oM rfl (oE (stpU_call (fun i => 6 + i) cf48 (fun w hw => c_i_TakeTag fl w a0.g a1 rfl (RO.pass hr0_3 hw) x5 e5) (yB rfl rfl)) rfl ?_))))))
 rintro _ _ ⟨_, ⟨p6, _, c8, C9, rfl, rfl, rfl, o9⟩, rfl⟩
 refine oM rfl (oT rfl (oT rfl (oT rfl (oT rfl (oE (stpU_alloc 7 tz32 rfl) rfl ?_)))))
 rintro _ _ ⟨b10, rfl, rfl⟩
 refine oC4 7 ts32 rfl rfl (oS rfl (oS rfl (oS rfl (nn (cw_seq (sr (oM rfl (oK rfl (nn (cw_cond rfl (fun h11 => ?_) (fun h11 => ?_)))))))))))
 ·have H0 := cond_t H0 h11
  refine sr (oD (stp_build (cs := #[.slice none 0 0, .slice none 0 0, .slice none 0 0, .int .i64 0, .int .i64 0, .int .i64 0, .int .i64 0, .slice none 0 0, .int .i64 0]) sevp_nil bt34_6) rfl (oC9 1 ts34 rfl rfl (oS rfl (nn (cw_ret (kw_nx_ret (kw_addNil 8 (kw_addNil 9 (kw_addNil 10 (kw_addNil 11 ?_))))))))))
  obtain rfl := sI H0
  exact kr Tryz.results16 (.cons (.cellN (us := [_, _, _, _, _, _, _, _, _]) ts34 rfl (Cells.box (id := 1) rfl 9 rfl)) (rT rfl)) [8, 9, 10, 11] ⟨_, _, _, _, _, _, _, _, _, _, _, _, _, _, _, _, rfl, rfl, rfl, (OwnC.nil _ _), rfl, (OwnC.nil _ _), rfl, (OwnC.nil _ _), rfl, (OwnC.nil _ _)⟩
 have H0 := cond_f H0 h11
 obtain ⟨x12, e12, H0⟩ := bS H0
 refine cw_skip (kw_nx (sr (oB9 0 ts34 rfl (oE (stpU_call (fun i => 12 + i) cf49 (fun w hw => c_i_Machine_clone fl w a0 rfl (RO.pass hr0_0 hw) rfl (RO.pass hr0_1 hw) rfl (RO.pass hr0_2 hw) rfl (RO.pass hr0_3 hw) x12 e12) (yA rfl)) rfl ?_))))
 rintro _ _ ⟨_, ⟨p13, _, c15, C16, p17, _, c19, C20, p21, _, c23, C24, p25, _, c27, C28, rfl, rfl, rfl, o16, rfl, o20, rfl, o24, rfl, o28⟩, rfl⟩
 refine oE (stpU_alloc 16 tz34 rfl) rfl ?_
 rintro _ _ ⟨b29, rfl, rfl⟩
 refine oC9 16 ts34 rfl rfl (nn (sr (oB4 7 ts32 rfl (oM rfl (oA 4 Tryz.underlying34 rfl ts32 rfl (oC9 16 ts32 rfl rfl (oA 8 Tryz.underlying34 rfl ts3 rfl (oC9 16 ts3 rfl rfl (nn (cw_seq (sr (oA 2 Tryz.underlying34 rfl ts29 rfl (oA 0 Tryz.underlying29 rfl ts27 rfl ?_)))))))))))))
 obtain ⟨o0_0, eo0_0, H0⟩ := bS H0
 refine oL 16 ts27 rfl (oD (stp_len Tryz.underlying27 rfl) rfl (oM rfl (nn (cw_join (ι := (List Ln) × Int × Res) (fun | (v30, v32, C31) => o0_0 = .out (v30, v32) ∧ (x12.c.l).length = (v30).length ∧ OwnC 41 p21 c23 v30 C31) (fun | (v30, v32, C31) => [(4, .pointer (some ⟨b2, 0, none⟩)), (8, .bool x5.2.2.1), (10, .pointer (some ⟨b29, 0, none⟩)), (37, .slice p21 ((x12.c.l).length) c23), (38, .int .i64 ((x12.c.l).length : Int)), (39, .int .i64 v32)]) (fun | (v30, v32, C31) => [(1, [(b2, .cells #[.slice none 0 0, .slice none 0 0, .slice none 0 0, .int .i64 0, .int .i64 0, .int .i64 0, .int .i64 0, .slice none 0 0, .int .i64 0] 34 (0, 0))]), (6, C9), (12, C16), (13, C20), (14, C31), (16, [(b29, .cells #[.slice p13 ((x12.t.b).length) c15, .slice p17 ((x12.t.f).length) c19, .slice p21 ((x12.c.l).length) c23, .int .i64 x12.c.h, .int .i64 x5.1.c, .int .i64 x5.1.n, .int .i64 x5.1.r, .slice p6 ((x5.1.o).length) c8, .int .i64 a1] 34 (0, 0))])]) ?_ ?_))))
 ·refine cw_block (cw_loopS (ι := Nat × (List Ln) × Int × Res) (js := [1, 6, 12, 13, 14, 16]) (fun x => x.1) (fun | (fuel, v30, v32, C31) => i_EnterSpace_L0 fl x5 x12 fuel v30 v32 = some o0_0 ∧ (x12.c.l).length = (v30).length ∧ OwnC 41 p21 c23 v30 C31) (fun | (_, v30, v32, C31) => [(4, .pointer (some ⟨b2, 0, none⟩)), (8, .bool x5.2.2.1), (10, .pointer (some ⟨b29, 0, none⟩)), (37, .slice p21 ((x12.c.l).length) c23), (38, .int .i64 ((x12.c.l).length : Int)), (39, .int .i64 v32)]) (fun | (_, v30, v32, C31) => [(1, [(b2, .cells #[.slice none 0 0, .slice none 0 0, .slice none 0 0, .int .i64 0, .int .i64 0, .int .i64 0, .int .i64 0, .slice none 0 0, .int .i64 0] 34 (0, 0))]), (6, C9), (12, C16), (13, C20), (14, C31), (16, [(b29, .cells #[.slice p13 ((x12.t.b).length) c15, .slice p17 ((x12.t.f).length) c19, .slice p21 ((x12.c.l).length) c23, .int .i64 x12.c.h, .int .i64 x5.1.c, .int .i64 x5.1.n, .int .i64 x5.1.r, .slice p6 ((x5.1.o).length) c8, .int .i64 a1] 34 (0, 0))])]) (fl, x12.c.l, 0, C24) ⟨eo0_0, rfl, o24⟩ ⟨rfl, rfl, rfl, rfl, rfl, rfl, trivial⟩ ⟨1, [6, 12, 13, 14, 16], rfl, rfl, 6, [12, 13, 14, 16], rfl, rfl, 12, [13, 14, 16], rfl, rfl, 13, [14, 16], rfl, rfl, 14, [16], rfl, rfl, 16, [], rfl, rfl, trivial⟩ (by decide) ?_)
  rintro ⟨fuel, v30, v32, C31⟩ ⟨H1, hl31, o31⟩
  have H1 : i_EnterSpace_L0 fl x5 x12 fuel v30 v32 = some o0_0 := H1
  rcases fuel with _ | fuel
  ·rw [i_EnterSpace_L0.eq_1] at H1; cases H1
  rw [i_EnterSpace_L0.eq_2] at H1
  dsimp only
  refine sr (oW rfl (nn (cw_seq (cw_cond rfl (fun h33 => ?_) (fun h33 => ?_)))))
  ·have H1 := cond_t H1 h33
   obtain ⟨x34, e34, H1⟩ := bS H1
   refine cw_skip (kw_nx (cw_seq (cw_block (sr (oM rfl (oD (stp_indexAddr Tryz.underlying27 ts41 (by decide) rfl (by simp [hl31]) rfl (Rdb.own (id := 14) rfl o31) e34) rfl (oD (stp_loadN (us := [_, _, _, _, _, _]) ts41 rfl (Cells.el (Rdb.own (id := 14) rfl o31) (by decide) e34 0 6 rfl)) rfl (oE (stpU_alloc 17 tz41 rfl) rfl ?_))))))))
   rintro _ _ ⟨b35, rfl, rfl⟩
   obtain ⟨y36, ey36, H1⟩ := bS H1
   refine oS rfl (oC6 17 ts41 rfl rfl (nn (sr (oM rfl (oM rfl (ow_cutY 4 49 y36 ?_ ?_))))))
   ·rcases Bool.eq_false_or_eq_true x5.2.2.1 with hy36 | hy36
    ·have ey36 := cond_t ey36 hy36
     refine oG rfl hy36 (fA 1 Tryz.underlying41 rfl ts3 rfl rfl rfl) rfl (oG rfl hy36 (lB 17 ts3 rfl rfl rfl) rfl (oG rfl hy36 (stp_neq rfl rfl) rfl (oD (stp_pick_t rfl hy36 rfl) rfl ?_)))
     obtain rfl := sI ey36
     exact ow_nil (jy 4 0)
    have ey36 := cond_f ey36 hy36
    refine oO rfl hy36 rfl (oO rfl hy36 rfl (oO rfl hy36 rfl (oD (stp_pick_f rfl hy36 rfl) rfl ?_)))
    obtain rfl := sI ey36
    exact ow_nil (jy 4 0)
   refine ow_nil (kw_nx (cw_cond rfl (fun h37 => ?_) (fun h37 => ?_)))
   ·have H1 := cond_t H1 h37
    refine cw_region (oA 2 Tryz.underlying34 rfl ts29 rfl (oA 0 Tryz.underlying29 rfl ts27 rfl (oL 16 ts27 rfl (oM rfl (oD (stp_build (cs := #[.bool false, .int .i64 0, .int .i64 0, .int .i64 0, .int .i64 0, .bool false]) sevp_nil bt41_11) rfl (oD (stp_indexAddr Tryz.underlying27 ts41 (by decide) rfl (by simp [hl31]) rfl (Rdb.own (id := 14) rfl o31) e34) rfl (oF (stpU_storeEl (id := 14) (i := 0) (⟨false, 0, 0, 0, 0, false⟩ : Ln) (by decide) ts41 rfl rfl rfl o31 e34 rfl rfl rfl rfl) ?_)))))))
    rintro _ _ ⟨C38, rfl, o38⟩
    obtain ⟨x39, e39, H1⟩ := bS H1
    exact ow_nil (kw_bl_normal (kw_nx (cw_region (oP e39 rfl (oM rfl (ow_nil (kw_lqS (js := [1, 6, 12, 13, 14, 16]) (fuel, (v30.set (Int.toNat v32) (⟨false, 0, 0, 0, 0, false⟩ : Ln)), x39, C38) ⟨H1, (by simp [hl31]), o38⟩ (Nat.lt_succ_self _) ⟨rfl, rfl, rfl, rfl, rfl, rfl, trivial⟩ ⟨1, [6, 12, 13, 14, 16], rfl, rfl, 6, [12, 13, 14, 16], rfl, rfl, 12, [13, 14, 16], rfl, rfl, 13, [14, 16], rfl, rfl, 14, [16], rfl, rfl, 16, [], rfl, rfl, trivial⟩ (by decide))))))))
   have H1 := cond_f H1 h37
   obtain ⟨x40, e40, H1⟩ := bS H1
   exact cw_skip (kw_bl_normal (kw_nx (cw_region (oP e40 rfl (oM rfl (ow_nil (kw_lqS (js := [1, 6, 12, 13, 14, 16]) (fuel, v30, x40, C31) ⟨H1, (by simp [hl31]), o31⟩ (Nat.lt_succ_self _) ⟨rfl, rfl, rfl, rfl, rfl, rfl, trivial⟩ ⟨1, [6, 12, 13, 14, 16], rfl, rfl, 6, [12, 13, 14, 16], rfl, rfl, 12, [13, 14, 16], rfl, rfl, 13, [14, 16], rfl, rfl, 14, [16], rfl, rfl, 16, [], rfl, rfl, trivial⟩ (by decide))))))))
  have H1 := cond_f H1 h33
  refine cw_exit (kw_nx_exit (kw_lq_exit (kw_bl ?_)))
  obtain rfl := sI H1
  exact kw_joinS (js := [1, 6, 12, 13, 14, 16]) (v30, v32, C31) ⟨rfl, (by simp [hl31]), o31⟩ ⟨rfl, rfl, rfl, rfl, rfl, rfl, trivial⟩ ⟨1, [6, 12, 13, 14, 16], rfl, rfl, 6, [12, 13, 14, 16], rfl, rfl, 12, [13, 14, 16], rfl, rfl, 13, [14, 16], rfl, rfl, 14, [16], rfl, rfl, 16, [], rfl, rfl, trivial⟩ (by decide)
 rintro ⟨v30, v32, C31⟩ ⟨rfl, hl31, o31⟩
 dsimp only
 refine kw_nx (sr (oB9 16 ts34 rfl (oC9 1 ts34 rfl rfl (oS rfl (nn (cw_ret ?_))))))
 obtain rfl := sI H0
 exact kr Tryz.results16 (.cons (.cellN (us := [_, _, _, _, _, _, _, _, _]) ts34 rfl (Cells.box (id := 1) rfl 9 rfl)) (rT rfl)) [12, 13, 14, 6] ⟨_, _, _, _, _, _, _, _, _, _, _, _, _, _, _, _, rfl, rfl, rfl, o16, rfl, o20, (by simp [hl31]), o31, rfl, o9⟩

theorem c_l_FnSharedTouch (fl : Nat) (w : World) (a0 : (List UInt8)) (hn0_0 : n0_0 = (a0).length) (hr0_0 : RO w (hkeys []) (RdL p0_0 c0_0 a0)) (hg : RO w (hkeys []) (fun w' => w'.rangeAt 0 0 [.bool false, .int .i64 0, .int .i64 0, .int .i64 0, .int .i64 (-1)])) (r : Bool) (H0 : l_FnSharedTouch fl a0 = some r) :
  Ct Tryz.prog 12 [.slice p0_0 n0_0 c0_0] w [] (fun rv h' => rv = .bool r ∧ h' = []) := by
 subst hn0_0
 unfold l_FnSharedTouch at H0
 refine ct_of_cw Tryz.func12 rfl Tryz.ntmps12 rfl (Sat.refl _ _) ?_
 refine sr (oS rfl (nn (cw_seq (sr (oM rfl (oD (stp_len Tryz.underlying22 rfl) rfl (oJ rfl (nn (cw_cond rfl (fun h1 => ?_) (fun h1 => ?_))))))))))
 ·have H0 := cond_t H0 h1
  refine sr (oS rfl (nn (cw_ret (kw_nx_ret ?_))))
  obtain rfl := sI H0
  exact kr Tryz.results12 (rT rfl) [] ⟨rfl, rfl⟩
 have H0 := cond_f H0 h1
 obtain ⟨x2, e2, H0⟩ := bS H0
 refine cw_skip (kw_nx (sr (oM rfl (oE (stpU_call (fun i => 0 + i) cf30 (fun w hw => c_s_DrawTouchPage fl w a0 rfl (RO.pass hr0_0 hw) x2 e2) (yA rfl)) rfl ?_))))
 rintro _ _ ⟨_, ⟨p3, _, c5, C6, p7, _, c9, C10, p11, _, c13, C14, p15, _, c17, C18, rfl, rfl, rfl, o6, rfl, o10, rfl, o14, rfl, o18⟩, rfl⟩
 refine oM rfl (oT rfl (oT rfl (oT rfl (oE (stpU_alloc 4 tz34 rfl) rfl ?_))))
 rintro _ _ ⟨b19, rfl, rfl⟩
 obtain ⟨x20, e20, H0⟩ := bS H0
 refine oC9 4 ts34 rfl rfl (oS rfl (oS rfl (nn (sr (oB9 4 ts34 rfl (oM rfl (oM rfl (oE (stpU_call (fun i => 5 + i) cf31 (fun w hw => c_i_TouchPage fl w x2.1 x2.2.1 x2.2.2 rfl (OwnC.pass (id := 0) rfl o6 hw) rfl (OwnC.pass (id := 1) rfl o10 hw) rfl (OwnC.pass (id := 2) rfl o14 hw) rfl (OwnC.pass (id := 3) rfl o18 hw) (RO.pass hg hw) x20 e20) (yC rfl rfl rfl)) rfl ?_))))))))
 rintro _ _ ⟨_, ⟨p21, _, c23, C24, p25, _, c27, C28, p29, _, c31, C32, p33, _, c35, C36, rfl, rfl, rfl, o24, rfl, o28, rfl, o32, rfl, o36⟩, rfl⟩
 refine oM rfl (oT rfl (oT rfl (oT rfl (oT rfl (oE (stpU_alloc 9 tz34 rfl) rfl ?_)))))
 rintro _ _ ⟨b37, rfl, rfl⟩
 obtain ⟨x38, e38, H0⟩ := bS H0
 refine oC9 9 ts34 rfl rfl (oS rfl (oS rfl (oS rfl (nn (sr (oB9 4 ts34 rfl (oM rfl (oM rfl (oE (stpU_call (fun i => 10 + i) cf32 (fun w hw => c_s_TouchPage fl w x2.1 x2.2.1 x2.2.2 rfl (OwnC.pass (id := 0) rfl o6 hw) rfl (OwnC.pass (id := 1) rfl o10 hw) rfl (OwnC.pass (id := 2) rfl o14 hw) rfl (OwnC.pass (id := 3) rfl o18 hw) x38 e38) (yC rfl rfl rfl)) rfl ?_)))))))))
 rintro _ _ ⟨_, ⟨p39, _, c41, C42, p43, _, c45, C46, p47, _, c49, C50, p51, _, c53, C54, rfl, rfl, rfl, o42, rfl, o46, rfl, o50, rfl, o54⟩, rfl⟩
 refine oM rfl (oT rfl (oT rfl (oT rfl (oT rfl (oE (stpU_alloc 14 tz34 rfl) rfl ?_)))))
 rintro _ _ ⟨b55, rfl, rfl⟩
 obtain ⟨x56, e56, H0⟩ := bS H0
 refine oC9 14 ts34 rfl rfl (oS rfl (oS rfl (oS rfl (nn (cw_seq (sr (oB9 9 ts34 rfl (oB9 14 ts34 rfl (oE (stpU_call (fun i => 15 + i) cf18 (fun w hw => c_i_MachineSame fl w x20.1 x38.1 rfl (OwnC.pass (id := 5) rfl o24 hw) rfl (OwnC.pass (id := 6) rfl o28 hw) rfl (OwnC.pass (id := 7) rfl o32 hw) rfl (OwnC.pass (id := 8) rfl o36 hw) rfl (OwnC.pass (id := 10) rfl o42 hw) rfl (OwnC.pass (id := 11) rfl o46 hw) rfl (OwnC.pass (id := 12) rfl o50 hw) rfl (OwnC.pass (id := 13) rfl o54 hw) x56 e56) (yB rfl rfl)) rfl ?_)))))))))
 rintro _ _ ⟨_, ⟨rfl, rfl⟩, rfl⟩
 obtain ⟨y57, ey57, H0⟩ := bS H0
 refine oK rfl (oM rfl (ow_cutY 4 55 y57 ?_ ?_))
 ·rcases Bool.eq_false_or_eq_true (!x56) with hy57 | hy57
  ·have ey57 := cond_t ey57 hy57
   refine oO rfl hy57 rfl (oO rfl hy57 rfl (oO rfl hy57 rfl (oD (stp_pick_t rfl hy57 rfl) rfl ?_)))
   obtain rfl := sI ey57
   exact ow_nil (jy 4 0)
  have ey57 := cond_f ey57 hy57
  refine oG rfl hy57 (mv rfl) rfl (oG rfl hy57 (mv rfl) rfl (oG rfl hy57 (stp_neq rfl rfl) rfl (oD (stp_pick_f rfl hy57 rfl) rfl ?_)))
  obtain rfl := sI ey57
  exact ow_nil (jy 4 0)
 obtain ⟨y58, ey58, H0⟩ := bS H0
 refine oM rfl (ow_cutY 4 60 y58 ?_ ?_)
 ·rcases Bool.eq_false_or_eq_true y57 with hy58 | hy58
  ·have ey58 := cond_t ey58 hy58
   refine oO rfl hy58 rfl (oO rfl hy58 rfl (oO rfl hy58 rfl (oD (stp_pick_t rfl hy58 rfl) rfl ?_)))
   obtain rfl := sI ey58
   exact ow_nil (jy 4 0)
  have ey58 := cond_f ey58 hy58
  refine oG rfl hy58 (mv rfl) rfl (oG rfl hy58 (mv rfl) rfl (oG rfl hy58 (stp_neq rfl rfl) rfl (oD (stp_pick_f rfl hy58 rfl) rfl ?_)))
  obtain rfl := sI ey58
  exact ow_nil (jy 4 0)
 obtain ⟨y59, ey59, H0⟩ := bS H0
 refine oM rfl (ow_cutY 4 65 y59 ?_ ?_)
 ·rcases Bool.eq_false_or_eq_true y58 with hy59 | hy59
  ·have ey59 := cond_t ey59 hy59
   refine oO rfl hy59 rfl (oO rfl hy59 rfl (oO rfl hy59 rfl (oD (stp_pick_t rfl hy59 rfl) rfl ?_)))
   obtain rfl := sI ey59
   exact ow_nil (jy 4 0)
  have ey59 := cond_f ey59 hy59
  refine oG rfl hy59 (mv rfl) rfl (oG rfl hy59 (mv rfl) rfl (oG rfl hy59 (stp_neqB Tryz.underlying4 rfl rfl) rfl (oD (stp_pick_f rfl hy59 rfl) rfl ?_)))
  obtain rfl := sI ey59
  exact ow_nil (jy 4 0)
 obtain ⟨y60, ey60, H0⟩ := bS H0
 refine oM rfl (ow_cutY 3 69 y60 ?_ ?_)
 ·rcases Bool.eq_false_or_eq_true y59 with hy60 | hy60
  ·have ey60 := cond_t ey60 hy60
   refine oO rfl hy60 rfl (oO rfl hy60 rfl (oD (stp_pick_t rfl hy60 rfl) rfl ?_))
   obtain rfl := sI ey60
   exact ow_nil (jy 3 0)
  have ey60 := cond_f ey60 hy60
  refine oG rfl hy60 (mv rfl) rfl (oG rfl hy60 (stp_not rfl) rfl (oD (stp_pick_f rfl hy60 rfl) rfl ?_))
  obtain rfl := sI ey60
  exact ow_nil (jy 3 0)
 obtain ⟨y61, ey61, H0⟩ := bS H0
 refine oM rfl (ow_cutY 3 73 y61 ?_ ?_)
 ·rcases Bool.eq_false_or_eq_true y60 with hy61 | hy61
  ·have ey61 := cond_t ey61 hy61
   refine oO rfl hy61 rfl (oO rfl hy61 rfl (oD (stp_pick_t rfl hy61 rfl) rfl ?_))
   obtain rfl := sI ey61
   exact ow_nil (jy 3 0)
  have ey61 := cond_f ey61 hy61
  refine oG rfl hy61 (mv rfl) rfl (oG rfl hy61 (stp_lss rfl rfl) rfl (oD (stp_pick_f rfl hy61 rfl) rfl ?_))
  obtain rfl := sI ey61
  exact ow_nil (jy 3 0)
 refine ow_nil (kw_nx (cw_cond rfl (fun h62 => ?_) (fun h62 => ?_)))
 ·have H0 := cond_t H0 h62
  refine sr (oB9 9 ts34 rfl (oB9 14 ts34 rfl (oE (stpU_call (fun i => 15 + i) cf18 (fun w hw => c_i_MachineSame fl w x20.1 x38.1 rfl (OwnC.pass (id := 5) rfl o24 hw) rfl (OwnC.pass (id := 6) rfl o28 hw) rfl (OwnC.pass (id := 7) rfl o32 hw) rfl (OwnC.pass (id := 8) rfl o36 hw) rfl (OwnC.pass (id := 10) rfl o42 hw) rfl (OwnC.pass (id := 11) rfl o46 hw) rfl (OwnC.pass (id := 12) rfl o50 hw) rfl (OwnC.pass (id := 13) rfl o54 hw) x56 e56) (yB rfl rfl)) rfl ?_)))
  rintro _ _ ⟨_, ⟨rfl, rfl⟩, rfl⟩
  obtain ⟨y63, ey63, H0⟩ := bS H0
  refine oM rfl (ow_cutY 4 81 y63 ?_ ?_)
  ·rcases Bool.eq_false_or_eq_true x56 with hy63 | hy63
   ·have ey63 := cond_t ey63 hy63
    refine oG rfl hy63 (mv rfl) rfl (oG rfl hy63 (mv rfl) rfl (oG rfl hy63 (stp_eql rfl rfl) rfl (oD (stp_pick_t rfl hy63 rfl) rfl ?_)))
    obtain rfl := sI ey63
    exact ow_nil (jy 4 0)
   have ey63 := cond_f ey63 hy63
   refine oO rfl hy63 rfl (oO rfl hy63 rfl (oO rfl hy63 rfl (oD (stp_pick_f rfl hy63 rfl) rfl ?_)))
   obtain rfl := sI ey63
   exact ow_nil (jy 4 0)
  obtain ⟨y64, ey64, H0⟩ := bS H0
  refine oM rfl (ow_cutY 4 86 y64 ?_ ?_)
  ·rcases Bool.eq_false_or_eq_true y63 with hy64 | hy64
   ·have ey64 := cond_t ey64 hy64
    refine oG rfl hy64 (mv rfl) rfl (oG rfl hy64 (mv rfl) rfl (oG rfl hy64 (stp_eql rfl rfl) rfl (oD (stp_pick_t rfl hy64 rfl) rfl ?_)))
    obtain rfl := sI ey64
    exact ow_nil (jy 4 0)
   have ey64 := cond_f ey64 hy64
   refine oO rfl hy64 rfl (oO rfl hy64 rfl (oO rfl hy64 rfl (oD (stp_pick_f rfl hy64 rfl) rfl ?_)))
   obtain rfl := sI ey64
   exact ow_nil (jy 4 0)
  obtain ⟨y65, ey65, H0⟩ := bS H0
  refine oM rfl (ow_cutY 4 91 y65 ?_ ?_)
  ·rcases Bool.eq_false_or_eq_true y64 with hy65 | hy65
   ·have ey65 := cond_t ey65 hy65
    refine oG rfl hy65 (mv rfl) rfl (oG rfl hy65 (mv rfl) rfl (oG rfl hy65 (stp_eqlB Tryz.underlying4 rfl rfl) rfl (oD (stp_pick_t rfl hy65 rfl) rfl ?_)))
    obtain rfl := sI ey65
    exact ow_nil (jy 4 0)
   have ey65 := cond_f ey65 hy65
   refine oO rfl hy65 rfl (oO rfl hy65 rfl (oO rfl hy65 rfl (oD (stp_pick_f rfl hy65 rfl) rfl ?_)))
   obtain rfl := sI ey65
   exact ow_nil (jy 4 0)
  refine oS rfl (nn (cw_ret (kw_nx_ret ?_)))
  obtain rfl := sI H0
  exact kr Tryz.results12 (rT rfl) [] ⟨rfl, rfl⟩
 have H0 := cond_f H0 h62
 obtain ⟨x66, e66, H0⟩ := bS H0
 refine cw_skip (kw_nx (sr (oB9 9 ts34 rfl (oE (stpU_call (fun i => 15 + i) cf16 (fun w hw => c_i_EnterSpace fl w x20.1 3 rfl (OwnC.pass (id := 5) rfl o24 hw) rfl (OwnC.pass (id := 6) rfl o28 hw) rfl (OwnC.pass (id := 7) rfl o32 hw) rfl (OwnC.pass (id := 8) rfl o36 hw) (RO.pass hg hw) x66 e66) (yB rfl rfl)) rfl ?_))))
 rintro _ _ ⟨_, ⟨p67, _, c69, C70, p71, _, c73, C74, p75, _, c77, C78, p79, _, c81, C82, rfl, rfl, rfl, o70, rfl, o74, rfl, o78, rfl, o82⟩, rfl⟩
 refine oM rfl (oT rfl (oT rfl (oE (stpU_alloc 19 tz34 rfl) rfl ?_)))
 rintro _ _ ⟨b83, rfl, rfl⟩
 obtain ⟨x84, e84, H0⟩ := bS H0
 refine oC9 19 ts34 rfl rfl (oS rfl (nn (sr (oB9 19 ts34 rfl (oM rfl (oM rfl (oE (stpU_call (fun i => 20 + i) cf31 (fun w hw => c_i_TouchPage fl w x66.1 x2.2.1 x2.2.2 rfl (OwnC.pass (id := 15) rfl o70 hw) rfl (OwnC.pass (id := 16) rfl o74 hw) rfl (OwnC.pass (id := 17) rfl o78 hw) rfl (OwnC.pass (id := 18) rfl o82 hw) (RO.pass hg hw) x84 e84) (yC rfl rfl rfl)) rfl ?_)))))))
 rintro _ _ ⟨_, ⟨p85, _, c87, C88, p89, _, c91, C92, p93, _, c95, C96, p97, _, c99, C100, rfl, rfl, rfl, o88, rfl, o92, rfl, o96, rfl, o100⟩, rfl⟩
 refine oM rfl (oT rfl (oT rfl (oT rfl (oT rfl (oE (stpU_alloc 24 tz34 rfl) rfl ?_)))))
 rintro _ _ ⟨b101, rfl, rfl⟩
 obtain ⟨y102, ey102, H0⟩ := bS H0
 refine oC9 24 ts34 rfl rfl (oS rfl (oS rfl (oS rfl (nn (sr (oM rfl (oK rfl (oM rfl (ow_cutY 21 129 y102 ?_ ?_)))))))))
 ·rcases Bool.eq_false_or_eq_true (!x66.2) with hy102 | hy102
  ·have ey102 := cond_t ey102 hy102
   refine oO rfl hy102 rfl (oO rfl hy102 rfl (oX rfl rfl rfl (oX rfl rfl rfl (oX rfl rfl rfl (oO rfl hy102 rfl (oO rfl hy102 rfl (oX rfl rfl rfl (oX rfl rfl rfl (oX rfl rfl rfl (oX rfl rfl rfl (oX rfl rfl rfl (oO rfl hy102 rfl (oO rfl hy102 rfl ?_)))))))))))))
   refine oX rfl rfl rfl (oX rfl rfl rfl (oX rfl rfl rfl (oX rfl rfl rfl (oX rfl rfl rfl (oO rfl hy102 rfl (oD (stp_pick_t rfl hy102 rfl) rfl ?_))))))
   obtain rfl := sI ey102
   exact ow_nil (jy 21 0)
  have ey102 := cond_f ey102 hy102
  obtain ⟨y103, ey103, ey102⟩ := bS ey102
  refine oG rfl hy102 (mv rfl) rfl (oG rfl hy102 (mv rfl) rfl (ow_cutY 4 114 y103 ?_ ?_))
  ·rcases Bool.eq_false_or_eq_true x84.2.2.2 with hy103 | hy103
   ·have ey103 := cond_t ey103 hy103
    refine oG rfl hy103 (mv rfl) rfl (oG rfl hy103 (mv rfl) rfl (oG rfl hy103 (stp_eql rfl rfl) rfl (oG rfl hy102 (stp_pick_t rfl hy103 rfl) rfl ?_)))
    obtain rfl := sI ey103
    exact ow_nil (jy 4 0)
   have ey103 := cond_f ey103 hy103
   refine oO rfl hy103 rfl (oO rfl hy103 rfl (oO rfl hy103 rfl (oG rfl hy102 (stp_pick_f rfl hy103 rfl) rfl ?_)))
   obtain rfl := sI ey103
   exact ow_nil (jy 4 0)
  obtain ⟨y104, ey104, ey102⟩ := bS ey102
  refine oG rfl hy102 (mv rfl) rfl (ow_cutY 6 121 y104 ?_ ?_)
  ·rcases Bool.eq_false_or_eq_true y103 with hy104 | hy104
   ·have ey104 := cond_t ey104 hy104
    refine oG rfl hy104 (mv rfl) rfl (oG rfl hy104 (stp_eql rfl rfl) rfl (oG rfl hy104 (mv rfl) rfl (oG rfl hy104 (stp_eql rfl rfl) rfl (oG rfl hy104 (stp_eqlB Tryz.underlying4 rfl rfl) rfl (oG rfl hy102 (stp_pick_t rfl hy104 rfl) rfl ?_)))))
    obtain rfl := sI ey104
    exact ow_nil (jy 6 0)
   have ey104 := cond_f ey104 hy104
   refine oO rfl hy104 rfl (oO rfl hy104 rfl (oO rfl hy104 rfl (oO rfl hy104 rfl (oO rfl hy104 rfl (oG rfl hy102 (stp_pick_f rfl hy104 rfl) rfl ?_)))))
   obtain rfl := sI ey104
   exact ow_nil (jy 6 0)
  obtain ⟨y105, ey105, ey102⟩ := bS ey102
  refine oG rfl hy102 (mv rfl) rfl (ow_cutY 6 128 y105 ?_ ?_)
  ·rcases Bool.eq_false_or_eq_true y104 with hy105 | hy105
   ·have ey105 := cond_t ey105 hy105
    refine oG rfl hy105 (mv rfl) rfl (oG rfl hy105 (stp_eql rfl rfl) rfl (oG rfl hy105 (mv rfl) rfl (oG rfl hy105 (stp_eql rfl rfl) rfl (oG rfl hy105 (stp_eqlB Tryz.underlying4 rfl rfl) rfl (oG rfl hy102 (stp_pick_t rfl hy105 rfl) rfl ?_)))))
    obtain rfl := sI ey105
    exact ow_nil (jy 6 0)
   have ey105 := cond_f ey105 hy105
   refine oO rfl hy105 rfl (oO rfl hy105 rfl (oO rfl hy105 rfl (oO rfl hy105 rfl (oO rfl hy105 rfl (oG rfl hy102 (stp_pick_f rfl hy105 rfl) rfl ?_)))))
   obtain rfl := sI ey105
   exact ow_nil (jy 6 0)
  refine oD (stp_pick_f rfl hy102 rfl) rfl ?_
  obtain rfl := sI ey102
  exact ow_nil (jy 8 0)
 refine oS rfl (nn (cw_ret ?_))
 obtain rfl := sI H0
 exact kr Tryz.results12 (rT rfl) [] ⟨rfl, rfl⟩
end Go.Proofs.YtkohlcjdagckhaaGreatDoor
