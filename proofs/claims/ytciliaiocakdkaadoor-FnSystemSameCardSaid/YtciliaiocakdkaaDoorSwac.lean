/- The walks: functions of the program return what their pure functions say. Printed by a program (gen.py). -/
import Derived.Test.YtciliaiocakdkaaDoorSp
import Derived.Test.YtciliaiocakdkaaDoorSt
import Derived.Test.YtciliaiocakdkaaDoorMan
import Derived.Test.YtciliaiocakdkaaDoorMap
import Derived.Test.YtciliaiocakdkaaDoorCpy
import Derived.Test.YtciliaiocakdkaaDoorDp
import Derived.Test.YtciliaiocakdkaaDoorSs
import Derived.Test.YtciliaiocakdkaaDoorSe
import Derived.Test.YtciliaiocakdkaaDoorSwab
set_option linter.unusedSimpArgs false
set_option linter.unusedVariables false
set_option linter.unusedSectionVars false
namespace Go.Proofs.YtciliaiocakdkaaDoor
open Go.RowKit
set_option maxHeartbeats 4000000
set_option maxRecDepth 20000
variable {p0_0 p0_0_0 p0_1 p0_2 p1_0 p1_1 p1_2 : Option Addr} {c0_0 c0_0_0 c0_1 c0_2 c1_0 c1_1 c1_2 n0_0 n0_0_0 n0_1 n0_2 n1_0 n1_1 n1_2 : Nat} {C1_0 C1_1 C1_2 : Res}
theorem c_slices_Equal_Int (fl : Nat) (w : World) (a0 : (List Int)) (a1 : (List Int)) (hn0_0 : n0_0 = (a0).length) (hr0_0 : RO w (hkeys []) (RdL p0_0 c0_0 a0)) (hn1_0 : n1_0 = (a1).length) (hr1_0 : RO w (hkeys []) (RdL p1_0 c1_0 a1)) (r : Bool) (H0 : slices_Equal_Int fl a0 a1 = some r) :
  Ct Tryd.prog 48 [.slice p0_0 n0_0 c0_0, .slice p1_0 n1_0 c1_0] w [] (fun rv h' => rv = .bool r ∧ h' = []) := by
 subst hn0_0 hn1_0
 unfold slices_Equal_Int at H0
 refine ct_of_cw Tryd.func48 rfl Tryd.ntmps48 rfl (Sat.refl _ _) ?_
 refine sr (oS rfl (nn (cw_seq (sr (oM rfl (oD (stp_len Tryd.underlying23 rfl) rfl (oM rfl (oD (stp_len Tryd.underlying23 rfl) rfl (oU rfl (nn (cw_cond rfl (fun h1 => ?_) (fun h1 => ?_))))))))))))
 ·have H0 := cond_t H0 h1
  refine sr (oS rfl (nn (cw_ret (kw_nx_ret ?_))))
  obtain rfl := sI H0
  exact kr Tryd.results48 (rT rfl) [] ⟨rfl, rfl⟩
 have H0 := cond_f H0 h1
 obtain ⟨o0_0, eo0_0, H0⟩ := bS H0
 refine cw_skip (kw_nx (cw_seq (sr (oM rfl (oD (stp_len Tryd.underlying23 rfl) rfl (oM rfl (nn (cw_join (ι := Int) (fun | v2 => o0_0 = .out v2) (fun | v2 => [(0, .slice p0_0 ((a0).length) c0_0), (1, .slice p1_0 ((a1).length) c1_0), (12, .int .i64 ((a0).length : Int)), (13, .int .i64 v2)]) (fun | v2 => []) ?_ ?_))))))))
 ·refine cw_block (cw_loopS (ι := Nat × Int) (js := []) (fun x => x.1) (fun | (fuel, v2) => slices_Equal_Int_L0 fl a0 a1 fuel v2 = some o0_0) (fun | (_, v2) => [(0, .slice p0_0 ((a0).length) c0_0), (1, .slice p1_0 ((a1).length) c1_0), (12, .int .i64 ((a0).length : Int)), (13, .int .i64 v2)]) (fun | (_, v2) => []) (fl, 0) eo0_0 ⟨rfl, rfl, rfl, rfl, trivial⟩ trivial (by decide) ?_)
  rintro ⟨fuel, v2⟩ H1
  have H1 : slices_Equal_Int_L0 fl a0 a1 fuel v2 = some o0_0 := H1
  rcases fuel with _ | fuel
  ·rw [slices_Equal_Int_L0.eq_1] at H1; cases H1
  rw [slices_Equal_Int_L0.eq_2] at H1
  dsimp only
  refine sr (oW rfl (nn (cw_seq (cw_cond rfl (fun h3 => ?_) (fun h3 => ?_)))))
  ·have H1 := cond_t H1 h3
   obtain ⟨x4, e4, H1⟩ := bS H1
   obtain ⟨x5, e5, H1⟩ := bS H1
   refine cw_skip (kw_nx (cw_seq (cw_block (sr (oM rfl (oS rfl (nn (cw_seq (rdq g_mixed [0, 1, 5] [] { dst := dS [17, 18, 19, 20, 21, 22, 23, 24, 25], pre := gA [] [[], [], [0, 1], [0, 1, 2], [], [], [4, 5], [4, 5, 6], rn 0 8], ids := fun _ => [], rs := rL [[(0, 0)], [(5, 0)], [(16, 1), (17, 2)], [(18, 3)], [(1, 0)], [(5, 0)], [(20, 5), (21, 6)], [(22, 7)], [(19, 4), (23, 8)]], rh := fun _ => [], V := fun i g => gA undef [.slice p0_0 ((a0).length) c0_0, .int .i64 v2, .pointer (some ⟨eB p0_0, eO p0_0 + Int.toNat v2 * Enc.sz Int + 0, none⟩), .int .i64 x4, .slice p1_0 ((a1).length) c1_0, .int .i64 v2, .pointer (some ⟨eB p1_0, eO p1_0 + Int.toNat v2 * Enc.sz Int + 0, none⟩), .int .i64 x5, .bool (x4 != x5)] i, U := fun _ _ => [], Φ := fun _ _ => True } ?_ ?_)))))))))
   ·exact ⟨lM, lM, lc rfl rfl fun hs hh => stp_indexAddr Tryd.underlying23 ts3 (by decide) (sv hs 16 rfl) rfl (sv hs 17 rfl) (Rdb.ro hr0_0) e4, lc rfl rfl fun hs hh => stp_load1 ts3 (sv hs 18 rfl) (Cells.el (Rdb.ro hr0_0) (by decide) e4 0 1 rfl), lM, lM, lc rfl rfl fun hs hh => stp_indexAddr Tryd.underlying23 ts3 (by decide) (sv hs 20 rfl) rfl (sv hs 21 rfl) (Rdb.ro hr1_0) e5, lc rfl rfl fun hs hh => stp_load1 ts3 (sv hs 22 rfl) (Cells.el (Rdb.ro hr1_0) (by decide) e5 0 1 rfl), lc rfl rfl fun hs hh => stp_neq (sv hs 19 rfl) (sv hs 23 rfl), trivial⟩
   intro g hΦ
   refine KW.sub (s' := [(0, .slice p0_0 ((a0).length) c0_0), (1, .slice p1_0 ((a1).length) c1_0), (12, .int .i64 ((a0).length : Int)), (13, .int .i64 v2), (24, .bool (x4 != x5))]) (h' := []) ?_ ⟨rfl, rfl, rfl, rfl, rfl, trivial⟩ trivial
   refine kw_nx (cw_cond rfl (fun h6 => ?_) (fun h6 => ?_))
   ·have H1 := cond_t H1 h6
    refine sr (oS rfl (nn (cw_ret (kw_bl_ret (kw_nx_ret (kw_lq_ret (kw_bl_ret (kw_join_ret (kw_nx_ret ?_)))))))))
    obtain rfl := sI H1
    obtain rfl := sI H0
    exact kr Tryd.results48 (rT rfl) [] ⟨rfl, rfl⟩
   have H1 := cond_f H1 h6
   obtain ⟨x7, e7, H1⟩ := bS H1
   exact cw_skip (kw_bl_normal (kw_nx (cw_region (oP e7 rfl (oM rfl (ow_nil (kw_lqS (js := []) (fuel, x7) H1 (Nat.lt_succ_self _) ⟨rfl, rfl, rfl, rfl, trivial⟩ trivial (by decide))))))))
  have H1 := cond_f H1 h3
  refine cw_exit (kw_nx_exit (kw_lq_exit (kw_bl ?_)))
  obtain rfl := sI H1
  exact kw_joinS (js := []) v2 rfl ⟨rfl, rfl, rfl, rfl, trivial⟩ trivial (by decide)
 rintro v2 rfl
 dsimp only
 refine kw_nx (sr (oS rfl (nn (cw_ret ?_))))
 obtain rfl := sI H0
 exact kr Tryd.results48 (rT rfl) [] ⟨rfl, rfl⟩

theorem c_slices_Equal_Frame (fl : Nat) (w : World) (a0 : (List F)) (a1 : (List F)) (hn0_0 : n0_0 = (a0).length) (hr0_0 : RO w (hkeys []) (RdL p0_0 c0_0 a0)) (hn1_0 : n1_0 = (a1).length) (hr1_0 : RO w (hkeys []) (RdL p1_0 c1_0 a1)) (r : Bool) (H0 : slices_Equal_Frame fl a0 a1 = some r) :
  Ct Tryd.prog 49 [.slice p0_0 n0_0 c0_0, .slice p1_0 n1_0 c1_0] w [] (fun rv h' => rv = .bool r ∧ h' = []) := by
 subst hn0_0 hn1_0
 unfold slices_Equal_Frame at H0
 refine ct_of_cw Tryd.func49 rfl Tryd.ntmps49 rfl (Sat.refl _ _) ?_
 refine sr (oS rfl (nn (cw_seq (sr (oM rfl (oD (stp_len Tryd.underlying24 rfl) rfl (oM rfl (oD (stp_len Tryd.underlying24 rfl) rfl (oU rfl (nn (cw_cond rfl (fun h1 => ?_) (fun h1 => ?_))))))))))))
 ·have H0 := cond_t H0 h1
  refine sr (oS rfl (nn (cw_ret (kw_nx_ret ?_))))
  obtain rfl := sI H0
  exact kr Tryd.results49 (rT rfl) [] ⟨rfl, rfl⟩
 have H0 := cond_f H0 h1
 obtain ⟨o0_0, eo0_0, H0⟩ := bS H0
 refine cw_skip (kw_nx (cw_seq (sr (oM rfl (oD (stp_len Tryd.underlying24 rfl) rfl (oM rfl (nn (cw_join (ι := Int) (fun | v2 => o0_0 = .out v2) (fun | v2 => [(0, .slice p0_0 ((a0).length) c0_0), (1, .slice p1_0 ((a1).length) c1_0), (12, .int .i64 ((a0).length : Int)), (13, .int .i64 v2)]) (fun | v2 => []) ?_ ?_))))))))
 ·refine cw_block (cw_loopS (ι := Nat × Int) (js := []) (fun x => x.1) (fun | (fuel, v2) => slices_Equal_Frame_L0 fl a0 a1 fuel v2 = some o0_0) (fun | (_, v2) => [(0, .slice p0_0 ((a0).length) c0_0), (1, .slice p1_0 ((a1).length) c1_0), (12, .int .i64 ((a0).length : Int)), (13, .int .i64 v2)]) (fun | (_, v2) => []) (fl, 0) eo0_0 ⟨rfl, rfl, rfl, rfl, trivial⟩ trivial (by decide) ?_)
  rintro ⟨fuel, v2⟩ H1
  have H1 : slices_Equal_Frame_L0 fl a0 a1 fuel v2 = some o0_0 := H1
  rcases fuel with _ | fuel
  ·rw [slices_Equal_Frame_L0.eq_1] at H1; cases H1
  rw [slices_Equal_Frame_L0.eq_2] at H1
  dsimp only
  refine sr (oW rfl (nn (cw_seq (cw_cond rfl (fun h3 => ?_) (fun h3 => ?_)))))
  ·have H1 := cond_t H1 h3
   obtain ⟨x4, e4, H1⟩ := bS H1
   obtain ⟨x5, e5, H1⟩ := bS H1
   refine cw_skip (kw_nx (cw_seq (cw_block (sr (oM rfl (oS rfl (nn (cw_seq (rdq g_mixed [0, 1, 5] [] { dst := dS [17, 18, 19, 20, 21, 22, 23, 24, 25], pre := gA [] [[], [], [0, 1], [0, 1, 2], [], [], [4, 5], [4, 5, 6], rn 0 8], ids := fun _ => [], rs := rL [[(0, 0)], [(5, 0)], [(16, 1), (17, 2)], [(18, 3)], [(1, 0)], [(5, 0)], [(20, 5), (21, 6)], [(22, 7)], [(19, 4), (23, 8)]], rh := fun _ => [], V := fun i g => gA undef [.slice p0_0 ((a0).length) c0_0, .int .i64 v2, .pointer (some ⟨eB p0_0, eO p0_0 + Int.toNat v2 * Enc.sz F + 0, none⟩), .agg #[.bool x4.u, .int .i64 x4.k.s, .int .i64 x4.k.p, .int .i64 x4.r, .int .i64 x4.nx], .slice p1_0 ((a1).length) c1_0, .int .i64 v2, .pointer (some ⟨eB p1_0, eO p1_0 + Int.toNat v2 * Enc.sz F + 0, none⟩), .agg #[.bool x5.u, .int .i64 x5.k.s, .int .i64 x5.k.p, .int .i64 x5.r, .int .i64 x5.nx], .bool (x4 != x5)] i, U := fun _ _ => [], Φ := fun _ _ => True } ?_ ?_)))))))))
   ·exact ⟨lM, lM, lc rfl rfl fun hs hh => stp_indexAddr Tryd.underlying24 ts61 (by decide) (sv hs 16 rfl) rfl (sv hs 17 rfl) (Rdb.ro hr0_0) e4, lc rfl rfl fun hs hh => stp_loadN (us := [_, _, _, _, _]) ts61 (sv hs 18 rfl) (Cells.el (Rdb.ro hr0_0) (by decide) e4 0 5 rfl), lM, lM, lc rfl rfl fun hs hh => stp_indexAddr Tryd.underlying24 ts61 (by decide) (sv hs 20 rfl) rfl (sv hs 21 rfl) (Rdb.ro hr1_0) e5, lc rfl rfl fun hs hh => stp_loadN (us := [_, _, _, _, _]) ts61 (sv hs 22 rfl) (Cells.el (Rdb.ro hr1_0) (by decide) e5 0 5 rfl), lc rfl rfl fun hs hh => stp_neqS te61 x4 x5 (sv hs 19 rfl) (sv hs 23 rfl), trivial⟩
   intro g hΦ
   refine KW.sub (s' := [(0, .slice p0_0 ((a0).length) c0_0), (1, .slice p1_0 ((a1).length) c1_0), (12, .int .i64 ((a0).length : Int)), (13, .int .i64 v2), (24, .bool (x4 != x5))]) (h' := []) ?_ ⟨rfl, rfl, rfl, rfl, rfl, trivial⟩ trivial
   refine kw_nx (cw_cond rfl (fun h6 => ?_) (fun h6 => ?_))
   ·have H1 := cond_t H1 h6
    refine sr (oS rfl (nn (cw_ret (kw_bl_ret (kw_nx_ret (kw_lq_ret (kw_bl_ret (kw_join_ret (kw_nx_ret ?_)))))))))
    obtain rfl := sI H1
    obtain rfl := sI H0
    exact kr Tryd.results49 (rT rfl) [] ⟨rfl, rfl⟩
   have H1 := cond_f H1 h6
   obtain ⟨x7, e7, H1⟩ := bS H1
   exact cw_skip (kw_bl_normal (kw_nx (cw_region (oP e7 rfl (oM rfl (ow_nil (kw_lqS (js := []) (fuel, x7) H1 (Nat.lt_succ_self _) ⟨rfl, rfl, rfl, rfl, trivial⟩ trivial (by decide))))))))
  have H1 := cond_f H1 h3
  refine cw_exit (kw_nx_exit (kw_lq_exit (kw_bl ?_)))
  obtain rfl := sI H1
  exact kw_joinS (js := []) v2 rfl ⟨rfl, rfl, rfl, rfl, trivial⟩ trivial (by decide)
 rintro v2 rfl
 dsimp only
 refine kw_nx (sr (oS rfl (nn (cw_ret ?_))))
 obtain rfl := sI H0
 exact kr Tryd.results49 (rT rfl) [] ⟨rfl, rfl⟩

theorem c_i_TableSame (fl : Nat) (w : World) (a0 : T) (a1 : T) (hn0_0 : n0_0 = (a0.b).length) (hr0_0 : RO w (hkeys []) (RdL p0_0 c0_0 a0.b)) (hn0_1 : n0_1 = (a0.f).length) (hr0_1 : RO w (hkeys []) (RdL p0_1 c0_1 a0.f)) (hn1_0 : n1_0 = (a1.b).length) (hr1_0 : RO w (hkeys []) (RdL p1_0 c1_0 a1.b)) (hn1_1 : n1_1 = (a1.f).length) (hr1_1 : RO w (hkeys []) (RdL p1_1 c1_1 a1.f)) (r : Bool) (H0 : i_TableSame fl a0 a1 = some r) :
  Ct Tryd.prog 17 [.agg #[.slice p0_0 n0_0 c0_0, .slice p0_1 n0_1 c0_1], .agg #[.slice p1_0 n1_0 c1_0, .slice p1_1 n1_1 c1_1]] w [] (fun rv h' => rv = .bool r ∧ h' = []) := by
 subst hn0_0 hn0_1 hn1_0 hn1_1
 unfold i_TableSame at H0
 refine ct_of_cw Tryd.func17 rfl Tryd.ntmps17 rfl (Sat.refl _ _) ?_
 refine sr (oE (stpU_box 0 rfl rfl) rfl ?_)
 rintro _ _ ⟨b1, rfl, rfl⟩
 refine oE (stpU_box 1 rfl rfl) rfl ?_
 rintro _ _ ⟨b2, rfl, rfl⟩
 obtain ⟨x3, e3, H0⟩ := bS H0
 refine oS rfl (nn (sr (oA 0 Tryd.underlying26 rfl ts23 rfl (oL 0 ts23 rfl (oA 0 Tryd.underlying26 rfl ts23 rfl (oL 1 ts23 rfl (oE (stpU_call (fun i => 2 + i) cf48 (fun w hw => c_slices_Equal_Int fl w a0.b a1.b rfl (RO.pass hr0_0 hw) rfl (RO.pass hr1_0 hw) x3 e3) (yB rfl rfl)) rfl ?_)))))))
 rintro _ _ ⟨_, ⟨rfl, rfl⟩, rfl⟩
 obtain ⟨y4, ey4, H0⟩ := bS H0
 refine oM rfl (ow_cutY 6 16 y4 ?_ ?_)
 ·rcases Bool.eq_false_or_eq_true x3 with hy4 | hy4
  ·have ey4 := cond_t ey4 hy4
   obtain ⟨x5, e5, ey4⟩ := bS ey4
   refine oG rfl hy4 (fA 1 Tryd.underlying26 rfl ts24 rfl rfl rfl) rfl (oG rfl hy4 (lB 0 ts24 rfl rfl rfl) rfl (oG rfl hy4 (fA 1 Tryd.underlying26 rfl ts24 rfl rfl rfl) rfl (oG rfl hy4 (lB 1 ts24 rfl rfl rfl) rfl (ow_eff (.some rfl hy4) (stpU_call (fun i => 2 + i) cf49 (fun w hw => c_slices_Equal_Frame fl w a0.f a1.f rfl (RO.pass hr0_1 hw) rfl (RO.pass hr1_1 hw) x5 e5) (yB rfl rfl)) rfl ?_))))
   rintro _ _ ⟨_, ⟨rfl, rfl⟩, rfl⟩
   refine oD (stp_pick_t rfl hy4 rfl) rfl ?_
   obtain rfl := sI ey4
   exact ow_nil (jy 6 0)
  have ey4 := cond_f ey4 hy4
  refine oO rfl hy4 rfl (oO rfl hy4 rfl (oO rfl hy4 rfl (oO rfl hy4 rfl (oO rfl hy4 rfl (oD (stp_pick_f rfl hy4 rfl) rfl ?_)))))
  obtain rfl := sI ey4
  exact ow_nil (jy 6 0)
 refine oS rfl (nn (cw_ret ?_))
 obtain rfl := sI H0
 exact kr Tryd.results17 (rT rfl) [] ⟨rfl, rfl⟩

theorem c_slices_Equal_Note (fl : Nat) (w : World) (a0 : (List Nt)) (a1 : (List Nt)) (hn0_0 : n0_0 = (a0).length) (hr0_0 : RO w (hkeys []) (RdL p0_0 c0_0 a0)) (hn1_0 : n1_0 = (a1).length) (hr1_0 : RO w (hkeys []) (RdL p1_0 c1_0 a1)) (r : Bool) (H0 : slices_Equal_Note fl a0 a1 = some r) :
  Ct Tryd.prog 20 [.slice p0_0 n0_0 c0_0, .slice p1_0 n1_0 c1_0] w [] (fun rv h' => rv = .bool r ∧ h' = []) := by
 subst hn0_0 hn1_0
 unfold slices_Equal_Note at H0
 refine ct_of_cw Tryd.func20 rfl Tryd.ntmps20 rfl (Sat.refl _ _) ?_
 refine sr (oS rfl (nn (cw_seq (sr (oM rfl (oD (stp_len Tryd.underlying41 rfl) rfl (oM rfl (oD (stp_len Tryd.underlying41 rfl) rfl (oU rfl (nn (cw_cond rfl (fun h1 => ?_) (fun h1 => ?_))))))))))))
 ·have H0 := cond_t H0 h1
  refine sr (oS rfl (nn (cw_ret (kw_nx_ret ?_))))
  obtain rfl := sI H0
  exact kr Tryd.results20 (rT rfl) [] ⟨rfl, rfl⟩
 have H0 := cond_f H0 h1
 obtain ⟨o0_0, eo0_0, H0⟩ := bS H0
 refine cw_skip (kw_nx (cw_seq (sr (oM rfl (oD (stp_len Tryd.underlying41 rfl) rfl (oM rfl (nn (cw_join (ι := Int) (fun | v2 => o0_0 = .out v2) (fun | v2 => [(0, .slice p0_0 ((a0).length) c0_0), (1, .slice p1_0 ((a1).length) c1_0), (12, .int .i64 ((a0).length : Int)), (13, .int .i64 v2)]) (fun | v2 => []) ?_ ?_))))))))
 ·refine cw_block (cw_loopS (ι := Nat × Int) (js := []) (fun x => x.1) (fun | (fuel, v2) => slices_Equal_Note_L0 fl a0 a1 fuel v2 = some o0_0) (fun | (_, v2) => [(0, .slice p0_0 ((a0).length) c0_0), (1, .slice p1_0 ((a1).length) c1_0), (12, .int .i64 ((a0).length : Int)), (13, .int .i64 v2)]) (fun | (_, v2) => []) (fl, 0) eo0_0 ⟨rfl, rfl, rfl, rfl, trivial⟩ trivial (by decide) ?_)
  rintro ⟨fuel, v2⟩ H1
  have H1 : slices_Equal_Note_L0 fl a0 a1 fuel v2 = some o0_0 := H1
  rcases fuel with _ | fuel
  ·rw [slices_Equal_Note_L0.eq_1] at H1; cases H1
  rw [slices_Equal_Note_L0.eq_2] at H1
  dsimp only
  refine sr (oW rfl (nn (cw_seq (cw_cond rfl (fun h3 => ?_) (fun h3 => ?_)))))
  ·have H1 := cond_t H1 h3
   obtain ⟨x4, e4, H1⟩ := bS H1
   obtain ⟨x5, e5, H1⟩ := bS H1
   refine cw_skip (kw_nx (cw_seq (cw_block (sr (oM rfl (oS rfl (nn (cw_seq (rdq g_mixed [0, 1, 5] [] { dst := dS [17, 18, 19, 20, 21, 22, 23, 24, 25], pre := gA [] [[], [], [0, 1], [0, 1, 2], [], [], [4, 5], [4, 5, 6], rn 0 8], ids := fun _ => [], rs := rL [[(0, 0)], [(5, 0)], [(16, 1), (17, 2)], [(18, 3)], [(1, 0)], [(5, 0)], [(20, 5), (21, 6)], [(22, 7)], [(19, 4), (23, 8)]], rh := fun _ => [], V := fun i g => gA undef [.slice p0_0 ((a0).length) c0_0, .int .i64 v2, .pointer (some ⟨eB p0_0, eO p0_0 + Int.toNat v2 * Enc.sz Nt + 0, none⟩), .agg #[.int .i64 x4.k.s, .int .i64 x4.k.p, .int .i64 x4.fr], .slice p1_0 ((a1).length) c1_0, .int .i64 v2, .pointer (some ⟨eB p1_0, eO p1_0 + Int.toNat v2 * Enc.sz Nt + 0, none⟩), .agg #[.int .i64 x5.k.s, .int .i64 x5.k.p, .int .i64 x5.fr], .bool (x4 != x5)] i, U := fun _ _ => [], Φ := fun _ _ => True } ?_ ?_)))))))))
   ·exact ⟨lM, lM, lc rfl rfl fun hs hh => stp_indexAddr Tryd.underlying41 ts53 (by decide) (sv hs 16 rfl) rfl (sv hs 17 rfl) (Rdb.ro hr0_0) e4, lc rfl rfl fun hs hh => stp_loadN (us := [_, _, _]) ts53 (sv hs 18 rfl) (Cells.el (Rdb.ro hr0_0) (by decide) e4 0 3 rfl), lM, lM, lc rfl rfl fun hs hh => stp_indexAddr Tryd.underlying41 ts53 (by decide) (sv hs 20 rfl) rfl (sv hs 21 rfl) (Rdb.ro hr1_0) e5, lc rfl rfl fun hs hh => stp_loadN (us := [_, _, _]) ts53 (sv hs 22 rfl) (Cells.el (Rdb.ro hr1_0) (by decide) e5 0 3 rfl), lc rfl rfl fun hs hh => stp_neqS te53 x4 x5 (sv hs 19 rfl) (sv hs 23 rfl), trivial⟩
   intro g hΦ
   refine KW.sub (s' := [(0, .slice p0_0 ((a0).length) c0_0), (1, .slice p1_0 ((a1).length) c1_0), (12, .int .i64 ((a0).length : Int)), (13, .int .i64 v2), (24, .bool (x4 != x5))]) (h' := []) ?_ ⟨rfl, rfl, rfl, rfl, rfl, trivial⟩ trivial
   refine kw_nx (cw_cond rfl (fun h6 => ?_) (fun h6 => ?_))
   ·have H1 := cond_t H1 h6
    refine sr (oS rfl (nn (cw_ret (kw_bl_ret (kw_nx_ret (kw_lq_ret (kw_bl_ret (kw_join_ret (kw_nx_ret ?_)))))))))
    obtain rfl := sI H1
    obtain rfl := sI H0
    exact kr Tryd.results20 (rT rfl) [] ⟨rfl, rfl⟩
   have H1 := cond_f H1 h6
   obtain ⟨x7, e7, H1⟩ := bS H1
   exact cw_skip (kw_bl_normal (kw_nx (cw_region (oP e7 rfl (oM rfl (ow_nil (kw_lqS (js := []) (fuel, x7) H1 (Nat.lt_succ_self _) ⟨rfl, rfl, rfl, rfl, trivial⟩ trivial (by decide))))))))
  have H1 := cond_f H1 h3
  refine cw_exit (kw_nx_exit (kw_lq_exit (kw_bl ?_)))
  obtain rfl := sI H1
  exact kw_joinS (js := []) v2 rfl ⟨rfl, rfl, rfl, rfl, trivial⟩ trivial (by decide)
 rintro v2 rfl
 dsimp only
 refine kw_nx (sr (oS rfl (nn (cw_ret ?_))))
 obtain rfl := sI H0
 exact kr Tryd.results20 (rT rfl) [] ⟨rfl, rfl⟩

theorem c_i_SystemSame_1 (fl : Nat) (w : World) (a0 : Cp) (a1 : Cp) (hn0_0 : n0_0 = (a0.n).length) (hr0_0 : RO w (hkeys []) (RdL p0_0 c0_0 a0.n)) (hn0_1 : n0_1 = (a0.w).length) (hr0_1 : RO w (hkeys []) (RdL p0_1 c0_1 a0.w)) (hn1_0 : n1_0 = (a1.n).length) (hr1_0 : RO w (hkeys []) (RdL p1_0 c1_0 a1.n)) (hn1_1 : n1_1 = (a1.w).length) (hr1_1 : RO w (hkeys []) (RdL p1_1 c1_1 a1.w)) (r : Bool) (H0 : i_SystemSame_1 fl a0 a1 = some r) :
  Ct Tryd.prog 19 [.agg #[.slice p0_0 n0_0 c0_0, .slice p0_1 n0_1 c0_1], .agg #[.slice p1_0 n1_0 c1_0, .slice p1_1 n1_1 c1_1]] w [] (fun rv h' => rv = .bool r ∧ h' = []) := by
 subst hn0_0 hn0_1 hn1_0 hn1_1
 unfold i_SystemSame_1 at H0
 refine ct_of_cw Tryd.func19 rfl Tryd.ntmps19 rfl (Sat.refl _ _) ?_
 refine sr (oE (stpU_box 0 rfl rfl) rfl ?_)
 rintro _ _ ⟨b1, rfl, rfl⟩
 refine oE (stpU_box 1 rfl rfl) rfl ?_
 rintro _ _ ⟨b2, rfl, rfl⟩
 obtain ⟨x3, e3, H0⟩ := bS H0
 refine oS rfl (nn (sr (oA 0 Tryd.underlying43 rfl ts41 rfl (oL 0 ts41 rfl (oA 0 Tryd.underlying43 rfl ts41 rfl (oL 1 ts41 rfl (oE (stpU_call (fun i => 2 + i) cf20 (fun w hw => c_slices_Equal_Note fl w a0.n a1.n rfl (RO.pass hr0_0 hw) rfl (RO.pass hr1_0 hw) x3 e3) (yB rfl rfl)) rfl ?_)))))))
 rintro _ _ ⟨_, ⟨rfl, rfl⟩, rfl⟩
 obtain ⟨y4, ey4, H0⟩ := bS H0
 refine oM rfl (ow_cutY 6 16 y4 ?_ ?_)
 ·rcases Bool.eq_false_or_eq_true x3 with hy4 | hy4
  ·have ey4 := cond_t ey4 hy4
   obtain ⟨x5, e5, ey4⟩ := bS ey4
   refine oG rfl hy4 (fA 1 Tryd.underlying43 rfl ts41 rfl rfl rfl) rfl (oG rfl hy4 (lB 0 ts41 rfl rfl rfl) rfl (oG rfl hy4 (fA 1 Tryd.underlying43 rfl ts41 rfl rfl rfl) rfl (oG rfl hy4 (lB 1 ts41 rfl rfl rfl) rfl (ow_eff (.some rfl hy4) (stpU_call (fun i => 2 + i) cf20 (fun w hw => c_slices_Equal_Note fl w a0.w a1.w rfl (RO.pass hr0_1 hw) rfl (RO.pass hr1_1 hw) x5 e5) (yB rfl rfl)) rfl ?_))))
   rintro _ _ ⟨_, ⟨rfl, rfl⟩, rfl⟩
   refine oD (stp_pick_t rfl hy4 rfl) rfl ?_
   obtain rfl := sI ey4
   exact ow_nil (jy 6 0)
  have ey4 := cond_f ey4 hy4
  refine oO rfl hy4 rfl (oO rfl hy4 rfl (oO rfl hy4 rfl (oO rfl hy4 rfl (oO rfl hy4 rfl (oD (stp_pick_f rfl hy4 rfl) rfl ?_)))))
  obtain rfl := sI ey4
  exact ow_nil (jy 6 0)
 refine oS rfl (nn (cw_ret ?_))
 obtain rfl := sI H0
 exact kr Tryd.results19 (rT rfl) [] ⟨rfl, rfl⟩

theorem c_slices_EqualFunc_Cpu_of_i_SystemSame_1 (fl : Nat) (w : World) (a0 : (List Cp)) (a1 : (List Cp)) (hn0_0 : n0_0 = (a0).length) (hr0_0 : ROD w (hkeys []) p0_0 c0_0 a0) (hn1_0 : n1_0 = (a1).length) (hr1_0 : ROD w (hkeys []) p1_0 c1_0 a1) (r : Bool) (H0 : slices_EqualFunc_Cpu_of_i_SystemSame_1 fl a0 a1 = some r) :
  Ct Tryd.prog 18 [.slice p0_0 n0_0 c0_0, .slice p1_0 n1_0 c1_0, .func (.func 19) #[] #[]] w [] (fun rv h' => rv = .bool r ∧ h' = []) := by
 subst hn0_0 hn1_0
 unfold slices_EqualFunc_Cpu_of_i_SystemSame_1 at H0
 refine ct_of_cw Tryd.func18 rfl Tryd.ntmps18 rfl (Sat.refl _ _) ?_
 refine sr (oS rfl (nn (cw_seq (sr (oM rfl (oD (stp_len Tryd.underlying27 rfl) rfl (oM rfl (oD (stp_len Tryd.underlying27 rfl) rfl (oU rfl (nn (cw_cond rfl (fun h1 => ?_) (fun h1 => ?_))))))))))))
 ·have H0 := cond_t H0 h1
  refine sr (oS rfl (nn (cw_ret (kw_nx_ret ?_))))
  obtain rfl := sI H0
  exact kr Tryd.results18 (rT rfl) [] ⟨rfl, rfl⟩
 have H0 := cond_f H0 h1
 obtain ⟨o0_0, eo0_0, H0⟩ := bS H0
 refine cw_skip (kw_nx (cw_seq (sr (oM rfl (oD (stp_len Tryd.underlying27 rfl) rfl (oM rfl (nn (cw_join (ι := Int) (fun | v2 => o0_0 = .out v2) (fun | v2 => [(1, .slice p1_0 ((a1).length) c1_0), (2, .func (.func 19) #[] #[]), (15, .slice p0_0 ((a0).length) c0_0), (16, .int .i64 ((a0).length : Int)), (17, .int .i64 v2)]) (fun | v2 => []) ?_ ?_))))))))
 ·refine cw_block (cw_loopS (ι := Nat × Int) (js := []) (fun x => x.1) (fun | (fuel, v2) => slices_EqualFunc_Cpu_of_i_SystemSame_1_L0 fl a0 a1 fuel v2 = some o0_0) (fun | (_, v2) => [(1, .slice p1_0 ((a1).length) c1_0), (2, .func (.func 19) #[] #[]), (15, .slice p0_0 ((a0).length) c0_0), (16, .int .i64 ((a0).length : Int)), (17, .int .i64 v2)]) (fun | (_, v2) => []) (fl, 0) eo0_0 ⟨rfl, rfl, rfl, rfl, rfl, trivial⟩ trivial (by decide) ?_)
  rintro ⟨fuel, v2⟩ H1
  have H1 : slices_EqualFunc_Cpu_of_i_SystemSame_1_L0 fl a0 a1 fuel v2 = some o0_0 := H1
  rcases fuel with _ | fuel
  ·rw [slices_EqualFunc_Cpu_of_i_SystemSame_1_L0.eq_1] at H1; cases H1
  rw [slices_EqualFunc_Cpu_of_i_SystemSame_1_L0.eq_2] at H1
  dsimp only
  refine sr (oW rfl (nn (cw_seq (cw_cond rfl (fun h3 => ?_) (fun h3 => ?_)))))
  ·have H1 := cond_t H1 h3
   obtain ⟨x4, e4, H1⟩ := bS H1
   refine cw_skip (kw_nx (cw_seq (cw_block (sr (oM rfl ?_)))))
   obtain ⟨u5, p6, n7, c8, p9, n10, c11, hw5, hl5, hx5, rfl, hr5, rfl, hs5⟩ := ROD.get hr0_0 e4
   refine oD (stp_indexAddr Tryd.underlying27 ts43 (by decide) rfl hl5 rfl (Rdb.ro hw5) hx5) rfl (oD (stp_loadN (us := [_, _]) ts43 rfl (Cells.el (Rdb.ro hw5) (by decide) hx5 0 2 rfl)) rfl (oE (stpU_alloc 0 tz43 rfl) rfl ?_))
   rintro _ _ ⟨b12, rfl, rfl⟩
   obtain ⟨x13, e13, H1⟩ := bS H1
   refine oS rfl (oC2 0 ts43 rfl rfl (nn (sr (oM rfl (oM rfl ?_)))))
   obtain ⟨u14, p15, n16, c17, p18, n19, c20, hw14, hl14, hx14, rfl, hr14, rfl, hs14⟩ := ROD.get hr1_0 e13
   refine oD (stp_indexAddr Tryd.underlying27 ts43 (by decide) rfl hl14 rfl (Rdb.ro hw14) hx14) rfl (oD (stp_loadN (us := [_, _]) ts43 rfl (Cells.el (Rdb.ro hw14) (by decide) hx14 0 2 rfl)) rfl (oE (stpU_alloc 1 tz43 rfl) rfl ?_))
   rintro _ _ ⟨b21, rfl, rfl⟩
   obtain ⟨x22, e22, H1⟩ := bS H1
   refine oC2 1 ts43 rfl rfl (nn (sr (oM rfl (oB2 0 ts43 rfl (oB2 1 ts43 rfl (oE (stpU_callF (vals := [_, _]) (ca := []) (fun i => 2 + i) cf19 (fun w hw => c_i_SystemSame_1 fl w x4 x13 rfl (RO.pass hr5 hw) rfl (RO.pass hs5 hw) rfl (RO.pass hr14 hw) rfl (RO.pass hs14 hw) x22 e22) rfl (yB rfl rfl)) rfl ?_))))))
   rintro _ _ ⟨_, ⟨rfl, rfl⟩, rfl⟩
   refine oK rfl (nn (cw_cond rfl (fun h23 => ?_) (fun h23 => ?_)))
   ·have H1 := cond_t H1 h23
    refine sr (oS rfl (nn (cw_ret (kw_bl_ret (kw_nx_ret (kw_lq_ret (kw_bl_ret (kw_join_ret (kw_nx_ret ?_)))))))))
    obtain rfl := sI H1
    obtain rfl := sI H0
    exact kr Tryd.results18 (rT rfl) [] ⟨rfl, rfl⟩
   have H1 := cond_f H1 h23
   obtain ⟨x24, e24, H1⟩ := bS H1
   exact cw_skip (kw_bl_normal (kw_nx (cw_region (oP e24 rfl (oM rfl (ow_nil (kw_lqS (js := []) (fuel, x24) H1 (Nat.lt_succ_self _) ⟨rfl, rfl, rfl, rfl, rfl, trivial⟩ trivial (by decide))))))))
  have H1 := cond_f H1 h3
  refine cw_exit (kw_nx_exit (kw_lq_exit (kw_bl ?_)))
  obtain rfl := sI H1
  exact kw_joinS (js := []) v2 rfl ⟨rfl, rfl, rfl, rfl, rfl, trivial⟩ trivial (by decide)
 rintro v2 rfl
 dsimp only
 refine kw_nx (sr (oS rfl (nn (cw_ret ?_))))
 obtain rfl := sI H0
 exact kr Tryd.results18 (rT rfl) [] ⟨rfl, rfl⟩

theorem c_i_SystemSame (fl : Nat) (w : World) (a0 : Sy) (a1 : Sy) (hn0_0 : n0_0 = (a0.t.b).length) (hr0_0 : RO w (hkeys []) (RdL p0_0 c0_0 a0.t.b)) (hn0_1 : n0_1 = (a0.t.f).length) (hr0_1 : RO w (hkeys []) (RdL p0_1 c0_1 a0.t.f)) (hn0_2 : n0_2 = (a0.c).length) (hr0_2 : ROD w (hkeys []) p0_2 c0_2 a0.c) (hn1_0 : n1_0 = (a1.t.b).length) (hr1_0 : RO w (hkeys []) (RdL p1_0 c1_0 a1.t.b)) (hn1_1 : n1_1 = (a1.t.f).length) (hr1_1 : RO w (hkeys []) (RdL p1_1 c1_1 a1.t.f)) (hn1_2 : n1_2 = (a1.c).length) (hr1_2 : ROD w (hkeys []) p1_2 c1_2 a1.c) (r : Bool) (H0 : i_SystemSame fl a0 a1 = some r) :
  Ct Tryd.prog 6 [.agg #[.slice p0_0 n0_0 c0_0, .slice p0_1 n0_1 c0_1, .slice p0_2 n0_2 c0_2], .agg #[.slice p1_0 n1_0 c1_0, .slice p1_1 n1_1 c1_1, .slice p1_2 n1_2 c1_2]] w [] (fun rv h' => rv = .bool r ∧ h' = []) := by
 subst hn0_0 hn0_1 hn0_2 hn1_0 hn1_1 hn1_2
 unfold i_SystemSame at H0
 refine ct_of_cw Tryd.func6 rfl Tryd.ntmps6 rfl (Sat.refl _ _) ?_
 refine sr (oE (stpU_box 0 rfl rfl) rfl ?_)
 rintro _ _ ⟨b1, rfl, rfl⟩
 refine oE (stpU_box 1 rfl rfl) rfl ?_
 rintro _ _ ⟨b2, rfl, rfl⟩
 obtain ⟨x3, e3, H0⟩ := bS H0
 refine oS rfl (nn (sr (oA 0 Tryd.underlying29 rfl ts26 rfl (oB2 0 ts26 rfl (oA 0 Tryd.underlying29 rfl ts26 rfl (oB2 1 ts26 rfl (oE (stpU_call (fun i => 2 + i) cf17 (fun w hw => c_i_TableSame fl w a0.t a1.t rfl (RO.pass hr0_0 hw) rfl (RO.pass hr0_1 hw) rfl (RO.pass hr1_0 hw) rfl (RO.pass hr1_1 hw) x3 e3) (yB rfl rfl)) rfl ?_)))))))
 rintro _ _ ⟨_, ⟨rfl, rfl⟩, rfl⟩
 obtain ⟨y4, ey4, H0⟩ := bS H0
 refine oM rfl (ow_cutY 6 16 y4 ?_ ?_)
 ·rcases Bool.eq_false_or_eq_true x3 with hy4 | hy4
  ·have ey4 := cond_t ey4 hy4
   obtain ⟨x5, e5, ey4⟩ := bS ey4
   refine oG rfl hy4 (fA 2 Tryd.underlying29 rfl ts27 rfl rfl rfl) rfl (oG rfl hy4 (lB 0 ts27 rfl rfl rfl) rfl (oG rfl hy4 (fA 2 Tryd.underlying29 rfl ts27 rfl rfl rfl) rfl (oG rfl hy4 (lB 1 ts27 rfl rfl rfl) rfl (ow_eff (.some rfl hy4) (stpU_call (fun i => 2 + i) cf18 (fun w hw => c_slices_EqualFunc_Cpu_of_i_SystemSame_1 fl w a0.c a1.c rfl (ROD.pass hr0_2 hw) rfl (ROD.pass hr1_2 hw) x5 e5) (yC rfl rfl rfl)) rfl ?_))))
   rintro _ _ ⟨_, ⟨rfl, rfl⟩, rfl⟩
   refine oD (stp_pick_t rfl hy4 rfl) rfl ?_
   obtain rfl := sI ey4
   exact ow_nil (jy 6 0)
  have ey4 := cond_f ey4 hy4
  refine oO rfl hy4 rfl (oO rfl hy4 rfl (oO rfl hy4 rfl (oO rfl hy4 rfl (oO rfl hy4 rfl (oD (stp_pick_f rfl hy4 rfl) rfl ?_)))))
  obtain rfl := sI ey4
  exact ow_nil (jy 6 0)
 refine oS rfl (nn (cw_ret ?_))
 obtain rfl := sI H0
 exact kr Tryd.results6 (rT rfl) [] ⟨rfl, rfl⟩

theorem c_s_TableSame (fl : Nat) (w : World) (a0 : T) (a1 : T) (hn0_0 : n0_0 = (a0.b).length) (hr0_0 : RO w (hkeys []) (RdL p0_0 c0_0 a0.b)) (hn0_1 : n0_1 = (a0.f).length) (hr0_1 : RO w (hkeys []) (RdL p0_1 c0_1 a0.f)) (hn1_0 : n1_0 = (a1.b).length) (hr1_0 : RO w (hkeys []) (RdL p1_0 c1_0 a1.b)) (hn1_1 : n1_1 = (a1.f).length) (hr1_1 : RO w (hkeys []) (RdL p1_1 c1_1 a1.f)) (r : Bool) (H0 : s_TableSame fl a0 a1 = some r) :
  Ct Tryd.prog 21 [.agg #[.slice p0_0 n0_0 c0_0, .slice p0_1 n0_1 c0_1], .agg #[.slice p1_0 n1_0 c1_0, .slice p1_1 n1_1 c1_1]] w [] (fun rv h' => rv = .bool r ∧ h' = []) := by
 subst hn0_0 hn0_1 hn1_0 hn1_1
 unfold s_TableSame at H0
 refine ct_of_cw Tryd.func21 rfl Tryd.ntmps21 rfl (Sat.refl _ _) ?_
 refine sr (oE (stpU_box 0 rfl rfl) rfl ?_)
 rintro _ _ ⟨b1, rfl, rfl⟩
 refine oE (stpU_box 1 rfl rfl) rfl ?_
 rintro _ _ ⟨b2, rfl, rfl⟩
 obtain ⟨y3, ey3, H0⟩ := bS H0
 refine oS rfl (nn (cw_seq (sr (oA 0 Tryd.underlying26 rfl ts23 rfl (oL 0 ts23 rfl (oD (stp_len Tryd.underlying23 rfl) rfl (oA 0 Tryd.underlying26 rfl ts23 rfl (oL 1 ts23 rfl (oD (stp_len Tryd.underlying23 rfl) rfl (oU rfl (oM rfl (ow_cutY 8 22 y3 ?_ ?_))))))))))))
 ·rcases Bool.eq_false_or_eq_true (((a0.b).length : Int) != ((a1.b).length : Int)) with hy3 | hy3
  ·have ey3 := cond_t ey3 hy3
   refine oO rfl hy3 rfl (oO rfl hy3 rfl (oO rfl hy3 rfl (oO rfl hy3 rfl (oO rfl hy3 rfl (oO rfl hy3 rfl (oO rfl hy3 rfl (oD (stp_pick_t rfl hy3 rfl) rfl ?_)))))))
   obtain rfl := sI ey3
   exact ow_nil (jy 8 0)
  have ey3 := cond_f ey3 hy3
  refine oG rfl hy3 (fA 1 Tryd.underlying26 rfl ts24 rfl rfl rfl) rfl (oG rfl hy3 (lB 0 ts24 rfl rfl rfl) rfl (oG rfl hy3 (stp_len Tryd.underlying24 rfl) rfl (oG rfl hy3 (fA 1 Tryd.underlying26 rfl ts24 rfl rfl rfl) rfl (oG rfl hy3 (lB 1 ts24 rfl rfl rfl) rfl (oG rfl hy3 (stp_len Tryd.underlying24 rfl) rfl (oG rfl hy3 (stp_neq rfl rfl) rfl (oD (stp_pick_f rfl hy3 rfl) rfl ?_)))))))
  obtain rfl := sI ey3
  exact ow_nil (jy 8 0)
 refine ow_nil (kw_nx (cw_cond rfl (fun h4 => ?_) (fun h4 => ?_)))
 ·have H0 := cond_t H0 h4
  refine sr (oS rfl (nn (cw_ret (kw_nx_ret ?_))))
  obtain rfl := sI H0
  exact kr Tryd.results21 (rT rfl) [] ⟨rfl, rfl⟩
 have H0 := cond_f H0 h4
 obtain ⟨o0_0, eo0_0, H0⟩ := bS H0
 refine cw_skip (kw_nx (cw_seq (sr (oS rfl (nn (cw_join (ι := Int) (fun | v5 => o0_0 = .out v5) (fun | v5 => [(2, .pointer (some ⟨b1, 0, none⟩)), (3, .pointer (some ⟨b2, 0, none⟩)), (5, .int .i64 v5)]) (fun | v5 => [(0, [(b1, .cells #[.slice p0_0 ((a0.b).length) c0_0, .slice p0_1 ((a0.f).length) c0_1] 26 (0, 0))]), (1, [(b2, .cells #[.slice p1_0 ((a1.b).length) c1_0, .slice p1_1 ((a1.f).length) c1_1] 26 (0, 0))])]) ?_ ?_))))))
 ·refine cw_block (cw_loopS (ι := Nat × Int) (js := [0, 1]) (fun x => x.1) (fun | (fuel, v5) => s_TableSame_L0 fl a0 a1 fuel v5 = some o0_0) (fun | (_, v5) => [(2, .pointer (some ⟨b1, 0, none⟩)), (3, .pointer (some ⟨b2, 0, none⟩)), (5, .int .i64 v5)]) (fun | (_, v5) => [(0, [(b1, .cells #[.slice p0_0 ((a0.b).length) c0_0, .slice p0_1 ((a0.f).length) c0_1] 26 (0, 0))]), (1, [(b2, .cells #[.slice p1_0 ((a1.b).length) c1_0, .slice p1_1 ((a1.f).length) c1_1] 26 (0, 0))])]) (fl, 0) eo0_0 ⟨rfl, rfl, rfl, trivial⟩ ⟨0, [1], rfl, rfl, 1, [], rfl, rfl, trivial⟩ (by decide) ?_)
  rintro ⟨fuel, v5⟩ H1
  have H1 : s_TableSame_L0 fl a0 a1 fuel v5 = some o0_0 := H1
  rcases fuel with _ | fuel
  ·rw [s_TableSame_L0.eq_1] at H1; cases H1
  rw [s_TableSame_L0.eq_2] at H1
  dsimp only
  refine cw_seq (sr (oM rfl (oA 0 Tryd.underlying26 rfl ts23 rfl (oL 0 ts23 rfl (oD (stp_len Tryd.underlying23 rfl) rfl (oW rfl (nn (cw_cond rfl (fun h6 => ?_) (fun h6 => ?_)))))))))
  ·have H1 := cond_t H1 h6
   obtain ⟨x7, e7, H1⟩ := bS H1
   obtain ⟨x8, e8, H1⟩ := bS H1
   refine cw_skip (kw_nx (cw_seq (cw_block (cw_seq (rdq g_mixed [2, 3, 5] [0, 1] { dst := dS [31, 32, 33, 34, 35, 36, 37, 38, 39, 40, 41], pre := gA [] [[], [0], [], [0, 1, 2], rn 0 4, [], [5], [], [5, 6, 7], rn 5 4, rn 0 10], ids := fun _ => [], rs := rL [[(2, 0)], [(30, 1)], [(5, 0)], [(31, 2), (32, 3)], [(33, 4)], [(3, 0)], [(35, 6)], [(5, 0)], [(36, 7), (37, 8)], [(38, 9)], [(34, 5), (39, 10)]], rh := rL [[], [(0, 0)], [], [], [], [], [(1, 0)]], V := fun i g => gA undef [.pointer (some ⟨b1, 0, none⟩), .slice p0_0 ((a0.b).length) c0_0, .int .i64 v5, .pointer (some ⟨eB p0_0, eO p0_0 + Int.toNat v5 * Enc.sz Int + 0, none⟩), .int .i64 x7, .pointer (some ⟨b2, 0, none⟩), .slice p1_0 ((a1.b).length) c1_0, .int .i64 v5, .pointer (some ⟨eB p1_0, eO p1_0 + Int.toNat v5 * Enc.sz Int + 0, none⟩), .int .i64 x8, .bool (x7 != x8)] i, U := fun _ _ => [], Φ := fun _ _ => True } ?_ ?_)))))
   ·exact ⟨lc rfl rfl fun hs hh => stp_fieldAddr (j := 0) Tryd.underlying26 rfl ts23 rfl (sv hs 2 rfl) rfl, lc rfl rfl fun hs hh => stp_load1 ts23 (sv hs 30 rfl) (Cells.box (id := 0) (hh.get 0 _ rfl) 1 rfl), lM, lc rfl rfl fun hs hh => stp_indexAddr Tryd.underlying23 ts3 (by decide) (sv hs 31 rfl) rfl (sv hs 32 rfl) (Rdb.ro hr0_0) e7, lc rfl rfl fun hs hh => stp_load1 ts3 (sv hs 33 rfl) (Cells.el (Rdb.ro hr0_0) (by decide) e7 0 1 rfl), lc rfl rfl fun hs hh => stp_fieldAddr (j := 0) Tryd.underlying26 rfl ts23 rfl (sv hs 3 rfl) rfl, lc rfl rfl fun hs hh => stp_load1 ts23 (sv hs 35 rfl) (Cells.box (id := 1) (hh.get 1 _ rfl) 1 rfl), lM, lc rfl rfl fun hs hh => stp_indexAddr Tryd.underlying23 ts3 (by decide) (sv hs 36 rfl) rfl (sv hs 37 rfl) (Rdb.ro hr1_0) e8, lc rfl rfl fun hs hh => stp_load1 ts3 (sv hs 38 rfl) (Cells.el (Rdb.ro hr1_0) (by decide) e8 0 1 rfl), lc rfl rfl fun hs hh => stp_neq (sv hs 34 rfl) (sv hs 39 rfl), trivial⟩
   intro g hΦ
   refine KW.sub (s' := [(2, .pointer (some ⟨b1, 0, none⟩)), (3, .pointer (some ⟨b2, 0, none⟩)), (5, .int .i64 v5), (40, .bool (x7 != x8))]) (h' := [(0, [(b1, .cells #[.slice p0_0 ((a0.b).length) c0_0, .slice p0_1 ((a0.f).length) c0_1] 26 (0, 0))]), (1, [(b2, .cells #[.slice p1_0 ((a1.b).length) c1_0, .slice p1_1 ((a1.f).length) c1_1] 26 (0, 0))])]) ?_ ⟨rfl, rfl, rfl, rfl, trivial⟩ ⟨rfl, rfl, trivial⟩
   refine kw_nx (cw_cond rfl (fun h9 => ?_) (fun h9 => ?_))
   ·have H1 := cond_t H1 h9
    refine sr (oS rfl (nn (cw_ret (kw_bl_ret (kw_nx_ret (kw_lq_ret (kw_bl_ret (kw_join_ret (kw_nx_ret ?_)))))))))
    obtain rfl := sI H1
    obtain rfl := sI H0
    exact kr Tryd.results21 (rT rfl) [] ⟨rfl, rfl⟩
   have H1 := cond_f H1 h9
   obtain ⟨x10, e10, H1⟩ := bS H1
   exact cw_skip (kw_bl_normal (kw_nx (cw_region (oM rfl (oP e10 rfl (oS rfl (ow_nil (kw_lqS (js := [0, 1]) (fuel, x10) H1 (Nat.lt_succ_self _) ⟨rfl, rfl, rfl, trivial⟩ ⟨0, [1], rfl, rfl, 1, [], rfl, rfl, trivial⟩ (by decide)))))))))
  have H1 := cond_f H1 h6
  refine cw_exit (kw_nx_exit (kw_lq_exit (kw_bl ?_)))
  obtain rfl := sI H1
  exact kw_joinS (js := [0, 1]) v5 rfl ⟨rfl, rfl, rfl, trivial⟩ ⟨0, [1], rfl, rfl, 1, [], rfl, rfl, trivial⟩ (by decide)
 rintro v5 rfl
 dsimp only
 obtain ⟨o0_1, eo0_1, H0⟩ := bS H0
 refine kw_nx (cw_seq (sr (oS rfl (nn (cw_join (ι := Int) (fun | v11 => o0_1 = .out v11) (fun | v11 => [(2, .pointer (some ⟨b1, 0, none⟩)), (3, .pointer (some ⟨b2, 0, none⟩)), (6, .int .i64 v11)]) (fun | v11 => [(0, [(b1, .cells #[.slice p0_0 ((a0.b).length) c0_0, .slice p0_1 ((a0.f).length) c0_1] 26 (0, 0))]), (1, [(b2, .cells #[.slice p1_0 ((a1.b).length) c1_0, .slice p1_1 ((a1.f).length) c1_1] 26 (0, 0))])]) ?_ ?_)))))
 ·refine cw_block (cw_loopS (ι := Nat × Int) (js := [0, 1]) (fun x => x.1) (fun | (fuel, v11) => s_TableSame_L1 fl a0 a1 fuel v11 = some o0_1) (fun | (_, v11) => [(2, .pointer (some ⟨b1, 0, none⟩)), (3, .pointer (some ⟨b2, 0, none⟩)), (6, .int .i64 v11)]) (fun | (_, v11) => [(0, [(b1, .cells #[.slice p0_0 ((a0.b).length) c0_0, .slice p0_1 ((a0.f).length) c0_1] 26 (0, 0))]), (1, [(b2, .cells #[.slice p1_0 ((a1.b).length) c1_0, .slice p1_1 ((a1.f).length) c1_1] 26 (0, 0))])]) (fl, 0) eo0_1 ⟨rfl, rfl, rfl, trivial⟩ ⟨0, [1], rfl, rfl, 1, [], rfl, rfl, trivial⟩ (by decide) ?_)
  rintro ⟨fuel, v11⟩ H1
  have H1 : s_TableSame_L1 fl a0 a1 fuel v11 = some o0_1 := H1
  rcases fuel with _ | fuel
  ·rw [s_TableSame_L1.eq_1] at H1; cases H1
  rw [s_TableSame_L1.eq_2] at H1
  dsimp only
  refine cw_seq (sr (oM rfl (oA 1 Tryd.underlying26 rfl ts24 rfl (oL 0 ts24 rfl (oD (stp_len Tryd.underlying24 rfl) rfl (oW rfl (nn (cw_cond rfl (fun h12 => ?_) (fun h12 => ?_)))))))))
  ·have H1 := cond_t H1 h12
   obtain ⟨x13, e13, H1⟩ := bS H1
   obtain ⟨x14, e14, H1⟩ := bS H1
   refine cw_skip (kw_nx (cw_seq (cw_block (cw_seq (rdq g_mixed [2, 3, 6] [0, 1] { dst := dS [49, 50, 51, 52, 53, 54, 55, 56, 57, 58, 59], pre := gA [] [[], [0], [], [0, 1, 2], rn 0 4, [], [5], [], [5, 6, 7], rn 5 4, rn 0 10], ids := fun _ => [], rs := rL [[(2, 0)], [(48, 1)], [(6, 0)], [(49, 2), (50, 3)], [(51, 4)], [(3, 0)], [(53, 6)], [(6, 0)], [(54, 7), (55, 8)], [(56, 9)], [(52, 5), (57, 10)]], rh := rL [[], [(0, 0)], [], [], [], [], [(1, 0)]], V := fun i g => gA undef [.pointer (some ⟨b1, 1, none⟩), .slice p0_1 ((a0.f).length) c0_1, .int .i64 v11, .pointer (some ⟨eB p0_1, eO p0_1 + Int.toNat v11 * Enc.sz F + 0, none⟩), .agg #[.bool x13.u, .int .i64 x13.k.s, .int .i64 x13.k.p, .int .i64 x13.r, .int .i64 x13.nx], .pointer (some ⟨b2, 1, none⟩), .slice p1_1 ((a1.f).length) c1_1, .int .i64 v11, .pointer (some ⟨eB p1_1, eO p1_1 + Int.toNat v11 * Enc.sz F + 0, none⟩), .agg #[.bool x14.u, .int .i64 x14.k.s, .int .i64 x14.k.p, .int .i64 x14.r, .int .i64 x14.nx], .bool (x13 != x14)] i, U := fun _ _ => [], Φ := fun _ _ => True } ?_ ?_)))))
   ·exact ⟨lc rfl rfl fun hs hh => stp_fieldAddr (j := 1) Tryd.underlying26 rfl ts24 rfl (sv hs 2 rfl) rfl, lc rfl rfl fun hs hh => stp_load1 ts24 (sv hs 48 rfl) (Cells.box (id := 0) (hh.get 0 _ rfl) 1 rfl), lM, lc rfl rfl fun hs hh => stp_indexAddr Tryd.underlying24 ts61 (by decide) (sv hs 49 rfl) rfl (sv hs 50 rfl) (Rdb.ro hr0_1) e13, lc rfl rfl fun hs hh => stp_loadN (us := [_, _, _, _, _]) ts61 (sv hs 51 rfl) (Cells.el (Rdb.ro hr0_1) (by decide) e13 0 5 rfl), lc rfl rfl fun hs hh => stp_fieldAddr (j := 1) Tryd.underlying26 rfl ts24 rfl (sv hs 3 rfl) rfl, lc rfl rfl fun hs hh => stp_load1 ts24 (sv hs 53 rfl) (Cells.box (id := 1) (hh.get 1 _ rfl) 1 rfl), lM, lc rfl rfl fun hs hh => stp_indexAddr Tryd.underlying24 ts61 (by decide) (sv hs 54 rfl) rfl (sv hs 55 rfl) (Rdb.ro hr1_1) e14, lc rfl rfl fun hs hh => stp_loadN (us := [_, _, _, _, _]) ts61 (sv hs 56 rfl) (Cells.el (Rdb.ro hr1_1) (by decide) e14 0 5 rfl), lc rfl rfl fun hs hh => stp_neqS te61 x13 x14 (sv hs 52 rfl) (sv hs 57 rfl), trivial⟩
   intro g hΦ
   refine KW.sub (s' := [(2, .pointer (some ⟨b1, 0, none⟩)), (3, .pointer (some ⟨b2, 0, none⟩)), (6, .int .i64 v11), (58, .bool (x13 != x14))]) (h' := [(0, [(b1, .cells #[.slice p0_0 ((a0.b).length) c0_0, .slice p0_1 ((a0.f).length) c0_1] 26 (0, 0))]), (1, [(b2, .cells #[.slice p1_0 ((a1.b).length) c1_0, .slice p1_1 ((a1.f).length) c1_1] 26 (0, 0))])]) ?_ ⟨rfl, rfl, rfl, rfl, trivial⟩ ⟨rfl, rfl, trivial⟩
   refine kw_nx (cw_cond rfl (fun h15 => ?_) (fun h15 => ?_))
   ·have H1 := cond_t H1 h15
    refine sr (oS rfl (nn (cw_ret (kw_bl_ret (kw_nx_ret (kw_lq_ret (kw_bl_ret (kw_join_ret (kw_nx_ret ?_)))))))))
    obtain rfl := sI H1
    obtain rfl := sI H0
    exact kr Tryd.results21 (rT rfl) [] ⟨rfl, rfl⟩
   have H1 := cond_f H1 h15
   obtain ⟨x16, e16, H1⟩ := bS H1
   exact cw_skip (kw_bl_normal (kw_nx (cw_region (oM rfl (oP e16 rfl (oS rfl (ow_nil (kw_lqS (js := [0, 1]) (fuel, x16) H1 (Nat.lt_succ_self _) ⟨rfl, rfl, rfl, trivial⟩ ⟨0, [1], rfl, rfl, 1, [], rfl, rfl, trivial⟩ (by decide)))))))))
  have H1 := cond_f H1 h12
  refine cw_exit (kw_nx_exit (kw_lq_exit (kw_bl ?_)))
  obtain rfl := sI H1
  exact kw_joinS (js := [0, 1]) v11 rfl ⟨rfl, rfl, rfl, trivial⟩ ⟨0, [1], rfl, rfl, 1, [], rfl, rfl, trivial⟩ (by decide)
 rintro v11 rfl
 dsimp only
 refine kw_nx (sr (oS rfl (nn (cw_ret ?_))))
 obtain rfl := sI H0
 exact kr Tryd.results21 (rT rfl) [] ⟨rfl, rfl⟩

theorem c_s_l8Notes (fl : Nat) (w : World) (a0 : (List Nt)) (a1 : (List Nt)) (hn0_0 : n0_0 = (a0).length) (hr0_0 : RO w (hkeys []) (RdL p0_0 c0_0 a0)) (hn1_0 : n1_0 = (a1).length) (hr1_0 : RO w (hkeys []) (RdL p1_0 c1_0 a1)) (r : Bool) (H0 : s_l8Notes fl a0 a1 = some r) :
  Ct Tryd.prog 22 [.slice p0_0 n0_0 c0_0, .slice p1_0 n1_0 c1_0] w [] (fun rv h' => rv = .bool r ∧ h' = []) := by
 subst hn0_0 hn1_0
 unfold s_l8Notes at H0
 refine ct_of_cw Tryd.func22 rfl Tryd.ntmps22 rfl (Sat.refl _ _) ?_
 refine sr (oS rfl (nn (cw_seq (sr (oM rfl (oD (stp_len Tryd.underlying41 rfl) rfl (oM rfl (oD (stp_len Tryd.underlying41 rfl) rfl (oU rfl (nn (cw_cond rfl (fun h1 => ?_) (fun h1 => ?_))))))))))))
 ·have H0 := cond_t H0 h1
  refine sr (oS rfl (nn (cw_ret (kw_nx_ret ?_))))
  obtain rfl := sI H0
  exact kr Tryd.results22 (rT rfl) [] ⟨rfl, rfl⟩
 have H0 := cond_f H0 h1
 obtain ⟨o0_0, eo0_0, H0⟩ := bS H0
 refine cw_skip (kw_nx (cw_seq (sr (oS rfl (nn (cw_join (ι := Int) (fun | v2 => o0_0 = .out v2) (fun | v2 => [(0, .slice p0_0 ((a0).length) c0_0), (1, .slice p1_0 ((a1).length) c1_0), (5, .int .i64 v2)]) (fun | v2 => []) ?_ ?_))))))
 ·refine cw_block (cw_loopS (ι := Nat × Int) (js := []) (fun x => x.1) (fun | (fuel, v2) => s_l8Notes_L0 fl a0 a1 fuel v2 = some o0_0) (fun | (_, v2) => [(0, .slice p0_0 ((a0).length) c0_0), (1, .slice p1_0 ((a1).length) c1_0), (5, .int .i64 v2)]) (fun | (_, v2) => []) (fl, 0) eo0_0 ⟨rfl, rfl, rfl, trivial⟩ trivial (by decide) ?_)
  rintro ⟨fuel, v2⟩ H1
  have H1 : s_l8Notes_L0 fl a0 a1 fuel v2 = some o0_0 := H1
  rcases fuel with _ | fuel
  ·rw [s_l8Notes_L0.eq_1] at H1; cases H1
  rw [s_l8Notes_L0.eq_2] at H1
  dsimp only
  refine cw_seq (sr (oM rfl (oM rfl (oD (stp_len Tryd.underlying41 rfl) rfl (oW rfl (nn (cw_cond rfl (fun h3 => ?_) (fun h3 => ?_))))))))
  ·have H1 := cond_t H1 h3
   obtain ⟨x4, e4, H1⟩ := bS H1
   obtain ⟨x5, e5, H1⟩ := bS H1
   refine cw_skip (kw_nx (cw_seq (cw_block (cw_seq (rdq g_mixed [0, 1, 5] [] { dst := dS [18, 19, 20, 21, 22, 23, 24, 25, 26], pre := gA [] [[], [], [0, 1], [0, 1, 2], [], [], [4, 5], [4, 5, 6], rn 0 8], ids := fun _ => [], rs := rL [[(0, 0)], [(5, 0)], [(17, 1), (18, 2)], [(19, 3)], [(1, 0)], [(5, 0)], [(21, 5), (22, 6)], [(23, 7)], [(20, 4), (24, 8)]], rh := fun _ => [], V := fun i g => gA undef [.slice p0_0 ((a0).length) c0_0, .int .i64 v2, .pointer (some ⟨eB p0_0, eO p0_0 + Int.toNat v2 * Enc.sz Nt + 0, none⟩), .agg #[.int .i64 x4.k.s, .int .i64 x4.k.p, .int .i64 x4.fr], .slice p1_0 ((a1).length) c1_0, .int .i64 v2, .pointer (some ⟨eB p1_0, eO p1_0 + Int.toNat v2 * Enc.sz Nt + 0, none⟩), .agg #[.int .i64 x5.k.s, .int .i64 x5.k.p, .int .i64 x5.fr], .bool (x4 != x5)] i, U := fun _ _ => [], Φ := fun _ _ => True } ?_ ?_)))))
   ·exact ⟨lM, lM, lc rfl rfl fun hs hh => stp_indexAddr Tryd.underlying41 ts53 (by decide) (sv hs 17 rfl) rfl (sv hs 18 rfl) (Rdb.ro hr0_0) e4, lc rfl rfl fun hs hh => stp_loadN (us := [_, _, _]) ts53 (sv hs 19 rfl) (Cells.el (Rdb.ro hr0_0) (by decide) e4 0 3 rfl), lM, lM, lc rfl rfl fun hs hh => stp_indexAddr Tryd.underlying41 ts53 (by decide) (sv hs 21 rfl) rfl (sv hs 22 rfl) (Rdb.ro hr1_0) e5, lc rfl rfl fun hs hh => stp_loadN (us := [_, _, _]) ts53 (sv hs 23 rfl) (Cells.el (Rdb.ro hr1_0) (by decide) e5 0 3 rfl), lc rfl rfl fun hs hh => stp_neqS te53 x4 x5 (sv hs 20 rfl) (sv hs 24 rfl), trivial⟩
   intro g hΦ
   refine KW.sub (s' := [(0, .slice p0_0 ((a0).length) c0_0), (1, .slice p1_0 ((a1).length) c1_0), (5, .int .i64 v2), (25, .bool (x4 != x5))]) (h' := []) ?_ ⟨rfl, rfl, rfl, rfl, trivial⟩ trivial
   refine kw_nx (cw_cond rfl (fun h6 => ?_) (fun h6 => ?_))
   ·have H1 := cond_t H1 h6
    refine sr (oS rfl (nn (cw_ret (kw_bl_ret (kw_nx_ret (kw_lq_ret (kw_bl_ret (kw_join_ret (kw_nx_ret ?_)))))))))
    obtain rfl := sI H1
    obtain rfl := sI H0
    exact kr Tryd.results22 (rT rfl) [] ⟨rfl, rfl⟩
   have H1 := cond_f H1 h6
   obtain ⟨x7, e7, H1⟩ := bS H1
   exact cw_skip (kw_bl_normal (kw_nx (cw_region (oM rfl (oP e7 rfl (oS rfl (ow_nil (kw_lqS (js := []) (fuel, x7) H1 (Nat.lt_succ_self _) ⟨rfl, rfl, rfl, trivial⟩ trivial (by decide)))))))))
  have H1 := cond_f H1 h3
  refine cw_exit (kw_nx_exit (kw_lq_exit (kw_bl ?_)))
  obtain rfl := sI H1
  exact kw_joinS (js := []) v2 rfl ⟨rfl, rfl, rfl, trivial⟩ trivial (by decide)
 rintro v2 rfl
 dsimp only
 refine kw_nx (sr (oS rfl (nn (cw_ret ?_))))
 obtain rfl := sI H0
 exact kr Tryd.results22 (rT rfl) [] ⟨rfl, rfl⟩

theorem c_s_SystemSame (fl : Nat) (w : World) (a0 : Sy) (a1 : Sy) (hn0_0 : n0_0 = (a0.t.b).length) (hr0_0 : RO w (hkeys []) (RdL p0_0 c0_0 a0.t.b)) (hn0_1 : n0_1 = (a0.t.f).length) (hr0_1 : RO w (hkeys []) (RdL p0_1 c0_1 a0.t.f)) (hn0_2 : n0_2 = (a0.c).length) (hr0_2 : ROD w (hkeys []) p0_2 c0_2 a0.c) (hn1_0 : n1_0 = (a1.t.b).length) (hr1_0 : RO w (hkeys []) (RdL p1_0 c1_0 a1.t.b)) (hn1_1 : n1_1 = (a1.t.f).length) (hr1_1 : RO w (hkeys []) (RdL p1_1 c1_1 a1.t.f)) (hn1_2 : n1_2 = (a1.c).length) (hr1_2 : ROD w (hkeys []) p1_2 c1_2 a1.c) (r : Bool) (H0 : s_SystemSame fl a0 a1 = some r) :
  Ct Tryd.prog 7 [.agg #[.slice p0_0 n0_0 c0_0, .slice p0_1 n0_1 c0_1, .slice p0_2 n0_2 c0_2], .agg #[.slice p1_0 n1_0 c1_0, .slice p1_1 n1_1 c1_1, .slice p1_2 n1_2 c1_2]] w [] (fun rv h' => rv = .bool r ∧ h' = []) := by
 subst hn0_0 hn0_1 hn0_2 hn1_0 hn1_1 hn1_2
 unfold s_SystemSame at H0
 refine ct_of_cw Tryd.func7 rfl Tryd.ntmps7 rfl (Sat.refl _ _) ?_
 refine sr (oE (stpU_box 0 rfl rfl) rfl ?_)
 rintro _ _ ⟨b1, rfl, rfl⟩
 refine oE (stpU_box 1 rfl rfl) rfl ?_
 rintro _ _ ⟨b2, rfl, rfl⟩
 obtain ⟨x3, e3, H0⟩ := bS H0
 refine oS rfl (nn (cw_seq (sr (oA 0 Tryd.underlying29 rfl ts26 rfl (oB2 0 ts26 rfl (oA 0 Tryd.underlying29 rfl ts26 rfl (oB2 1 ts26 rfl (oE (stpU_call (fun i => 2 + i) cf21 (fun w hw => c_s_TableSame fl w a0.t a1.t rfl (RO.pass hr0_0 hw) rfl (RO.pass hr0_1 hw) rfl (RO.pass hr1_0 hw) rfl (RO.pass hr1_1 hw) x3 e3) (yB rfl rfl)) rfl ?_))))))))
 rintro _ _ ⟨_, ⟨rfl, rfl⟩, rfl⟩
 obtain ⟨y4, ey4, H0⟩ := bS H0
 refine oK rfl (oM rfl (ow_cutY 8 20 y4 ?_ ?_))
 ·rcases Bool.eq_false_or_eq_true (!x3) with hy4 | hy4
  ·have ey4 := cond_t ey4 hy4
   refine oO rfl hy4 rfl (oO rfl hy4 rfl (oO rfl hy4 rfl (oO rfl hy4 rfl (oO rfl hy4 rfl (oO rfl hy4 rfl (oO rfl hy4 rfl (oD (stp_pick_t rfl hy4 rfl) rfl ?_)))))))
   obtain rfl := sI ey4
   exact ow_nil (jy 8 0)
  have ey4 := cond_f ey4 hy4
  refine oG rfl hy4 (fA 2 Tryd.underlying29 rfl ts27 rfl rfl rfl) rfl (oG rfl hy4 (lB 0 ts27 rfl rfl rfl) rfl (oG rfl hy4 (stp_len Tryd.underlying27 rfl) rfl (oG rfl hy4 (fA 2 Tryd.underlying29 rfl ts27 rfl rfl rfl) rfl (oG rfl hy4 (lB 1 ts27 rfl rfl rfl) rfl (oG rfl hy4 (stp_len Tryd.underlying27 rfl) rfl (oG rfl hy4 (stp_neq rfl rfl) rfl (oD (stp_pick_f rfl hy4 rfl) rfl ?_)))))))
  obtain rfl := sI ey4
  exact ow_nil (jy 8 0)
 refine ow_nil (kw_nx (cw_cond rfl (fun h5 => ?_) (fun h5 => ?_)))
 ·have H0 := cond_t H0 h5
  refine sr (oS rfl (nn (cw_ret (kw_nx_ret ?_))))
  obtain rfl := sI H0
  exact kr Tryd.results7 (rT rfl) [] ⟨rfl, rfl⟩
 have H0 := cond_f H0 h5
 obtain ⟨o0_0, eo0_0, H0⟩ := bS H0
 refine cw_skip (kw_nx (cw_seq (sr (oS rfl (nn (cw_join (ι := Int) (fun | v6 => o0_0 = .out v6) (fun | v6 => [(2, .pointer (some ⟨b1, 0, none⟩)), (3, .pointer (some ⟨b2, 0, none⟩)), (5, .int .i64 v6)]) (fun | v6 => [(0, [(b1, .cells #[.slice p0_0 ((a0.t.b).length) c0_0, .slice p0_1 ((a0.t.f).length) c0_1, .slice p0_2 ((a0.c).length) c0_2] 29 (0, 0))]), (1, [(b2, .cells #[.slice p1_0 ((a1.t.b).length) c1_0, .slice p1_1 ((a1.t.f).length) c1_1, .slice p1_2 ((a1.c).length) c1_2] 29 (0, 0))])]) ?_ ?_))))))
 ·refine cw_block (cw_loopS (ι := Nat × Int) (js := [0, 1]) (fun x => x.1) (fun | (fuel, v6) => s_SystemSame_L0 fl a0 a1 fuel v6 = some o0_0) (fun | (_, v6) => [(2, .pointer (some ⟨b1, 0, none⟩)), (3, .pointer (some ⟨b2, 0, none⟩)), (5, .int .i64 v6)]) (fun | (_, v6) => [(0, [(b1, .cells #[.slice p0_0 ((a0.t.b).length) c0_0, .slice p0_1 ((a0.t.f).length) c0_1, .slice p0_2 ((a0.c).length) c0_2] 29 (0, 0))]), (1, [(b2, .cells #[.slice p1_0 ((a1.t.b).length) c1_0, .slice p1_1 ((a1.t.f).length) c1_1, .slice p1_2 ((a1.c).length) c1_2] 29 (0, 0))])]) (fl, 0) eo0_0 ⟨rfl, rfl, rfl, trivial⟩ ⟨0, [1], rfl, rfl, 1, [], rfl, rfl, trivial⟩ (by decide) ?_)
  rintro ⟨fuel, v6⟩ H1
  have H1 : s_SystemSame_L0 fl a0 a1 fuel v6 = some o0_0 := H1
  rcases fuel with _ | fuel
  ·rw [s_SystemSame_L0.eq_1] at H1; cases H1
  rw [s_SystemSame_L0.eq_2] at H1
  dsimp only
  refine cw_seq (sr (oM rfl (oA 2 Tryd.underlying29 rfl ts27 rfl (oL 0 ts27 rfl (oD (stp_len Tryd.underlying27 rfl) rfl (oW rfl (nn (cw_cond rfl (fun h7 => ?_) (fun h7 => ?_)))))))))
  ·have H1 := cond_t H1 h7
   obtain ⟨x8, e8, H1⟩ := bS H1
   refine cw_skip (kw_nx (cw_seq (cw_block (cw_seq ?_))))
   obtain ⟨u9, p10, n11, c12, p13, n14, c15, hw9, hl9, hx9, rfl, hr9, rfl, hs9⟩ := ROD.get hr0_2 e8
   obtain ⟨x16, e16, H1⟩ := bS H1
   obtain ⟨u17, p18, n19, c20, p21, n22, c23, hw17, hl17, hx17, rfl, hr17, rfl, hs17⟩ := ROD.get hr1_2 e16
   obtain ⟨x24, e24, H1⟩ := bS H1
   obtain ⟨y25, ey25, H1⟩ := bS H1
   refine cw_join (ι := Unit) (fun | _ => True) (fun | _ => [(2, .pointer (some ⟨b1, 0, none⟩)), (3, .pointer (some ⟨b2, 0, none⟩)), (5, .int .i64 v6), (57, .bool y25)]) (fun | _ => [(0, [(b1, .cells #[.slice p0_0 ((a0.t.b).length) c0_0, .slice p0_1 ((a0.t.f).length) c0_1, .slice p0_2 ((a0.c).length) c0_2] 29 (0, 0))]), (1, [(b2, .cells #[.slice p1_0 ((a1.t.b).length) c1_0, .slice p1_1 ((a1.t.f).length) c1_1, .slice p1_2 ((a1.c).length) c1_2] 29 (0, 0))])]) ?_ ?_
   ·rcases Bool.eq_false_or_eq_true (!x24) with hy25 | hy25
    ·have ey25 := cond_t ey25 hy25
     have qy25 := sI ey25
     refine rdq g_mixed [2, 3, 5] [0, 1] { dst := dS [29, 30, 31, 32, 33, 34, 35, 36, 37, 38, 39, 40, 41, 42, 43, 44, 45, 46, 47, 48, 49, 50, 51, 52, 53, 54, 55, 56, 57, 58], pre := gA [] [[], [0], [], [0, 1, 2], rn 0 4, rn 0 5, [], [6], [], [6, 7, 8], rn 6 4, rn 6 5, rn 0 12, rn 0 13, rn 0 14, rn 0 15, rn 0 16, rn 0 15, rn 0 18, rn 0 19, rn 0 20, rn 0 15, [0, 1, 2, 3, 4, 5, 6, 7, 8, 9, 10, 11, 12, 13, 14, 21], rn 0 15, [0, 1, 2, 3, 4, 5, 6, 7, 8, 9, 10, 11, 12, 13, 14, 21, 22, 23], [0, 1, 2, 3, 4, 5, 6, 7, 8, 9, 10, 11, 12, 13, 14, 21, 22, 23, 24], [0, 1, 2, 3, 4, 5, 6, 7, 8, 9, 10, 11, 12, 13, 14, 21, 22, 23, 24, 25], rn 0 27, rn 0 28, rn 0 29], ids := fun _ => [], rs := rL [[(2, 0)], [(28, 1)], [(5, 0)], [(29, 2), (30, 3)], [(31, 4)], [(32, 5)], [(3, 0)], [(34, 7)], [(5, 0)], [(35, 8), (36, 9)], [(37, 10)], [(38, 11)], [(33, 6), (39, 12)], [(40, 13)], [(41, 14)], [(42, 15)], [(42, 15)], [(42, 15)], [(42, 15)], [(42, 15)], [(42, 15)], [(42, 15)], [(42, 15)], [(42, 15)], [(42, 15)], [(42, 15)], [(42, 15)], [(42, 15)], [(42, 15)], [(42, 15), (56, 29)]], rh := rL [[], [(0, 0)], [], [], [], [], [], [(1, 0)]], V := fun i g => gA undef [.pointer (some ⟨b1, 2, none⟩), .slice p0_2 ((a0.c).length) c0_2, .int .i64 v6, .pointer (some ⟨eB p0_2, eO p0_2 + Int.toNat v6 * Enc.sz CpS + 0, none⟩), .pointer (some ⟨eB p0_2, eO p0_2 + Int.toNat v6 * Enc.sz CpS + 0, none⟩), .slice p10 ((x8.n).length) c12, .pointer (some ⟨b2, 2, none⟩), .slice p1_2 ((a1.c).length) c1_2, .int .i64 v6, .pointer (some ⟨eB p1_2, eO p1_2 + Int.toNat v6 * Enc.sz CpS + 0, none⟩), .pointer (some ⟨eB p1_2, eO p1_2 + Int.toNat v6 * Enc.sz CpS + 0, none⟩), .slice p18 ((x16.n).length) c20, .bool x24, .bool (!x24), .bool (!x24), undef, undef, undef, undef, undef, undef, undef, undef, undef, undef, undef, undef, undef, undef, .bool y25] i, U := fun _ _ => [], Φ := fun _ _ => True } ?_ ?_
     ·refine ⟨lc rfl rfl fun hs hh => stp_fieldAddr (j := 2) Tryd.underlying29 rfl ts27 rfl (sv hs 2 rfl) rfl, lc rfl rfl fun hs hh => stp_load1 ts27 (sv hs 28 rfl) (Cells.box (id := 0) (hh.get 0 _ rfl) 1 rfl), lM, lc rfl rfl fun hs hh => stp_indexAddr Tryd.underlying27 ts43 (by decide) (sv hs 29 rfl) hl9 (sv hs 30 rfl) (Rdb.ro hw9) hx9, lc rfl rfl fun hs hh => stp_fieldAddr (j := 0) Tryd.underlying43 rfl ts41 rfl (sv hs 31 rfl) rfl, lc rfl rfl fun hs hh => stp_load1 ts41 (sv hs 32 rfl) (Cells.el (Rdb.ro hw9) (by decide) hx9 0 1 rfl), lc rfl rfl fun hs hh => stp_fieldAddr (j := 2) Tryd.underlying29 rfl ts27 rfl (sv hs 3 rfl) rfl, lc rfl rfl fun hs hh => stp_load1 ts27 (sv hs 34 rfl) (Cells.box (id := 1) (hh.get 1 _ rfl) 1 rfl), lM, lc rfl rfl fun hs hh => stp_indexAddr Tryd.underlying27 ts43 (by decide) (sv hs 35 rfl) hl17 (sv hs 36 rfl) (Rdb.ro hw17) hx17, lc rfl rfl fun hs hh => stp_fieldAddr (j := 0) Tryd.underlying43 rfl ts41 rfl (sv hs 37 rfl) rfl, lc rfl rfl fun hs hh => stp_load1 ts41 (sv hs 38 rfl) (Cells.el (Rdb.ro hw17) (by decide) hx17 0 1 rfl), ?_, lc rfl rfl fun hs hh => stp_not (sv hs 40 rfl), lM, lo rfl rfl 42 hy25, lo rfl rfl 42 hy25, lo rfl rfl 42 hy25, lo rfl rfl 42 hy25, lo rfl rfl 42 hy25, lo rfl rfl 42 hy25, lo rfl rfl 42 hy25, lo rfl rfl 42 hy25, lo rfl rfl 42 hy25, lo rfl rfl 42 hy25, lo rfl rfl 42 hy25, lo rfl rfl 42 hy25, lo rfl rfl 42 hy25, lo rfl rfl 42 hy25, lc rfl rfl fun hs hh => stp_pick_tB (sv hs 42 rfl) hy25 rfl qy25, trivial⟩
      refine le rfl rfl (fun g hΦ s h hs hh => (stpU_call (fun i => 2 + i) cf22 (fun w hw => c_s_l8Notes fl w x8.n x16.n rfl (RO.pass hr9 hw) rfl (RO.pass hr17 hw) x24 e24) (yB (sv hs 33 rfl) (sv hs 39 rfl)))) ?_
      rintro g _ _ ⟨_, ⟨rfl, rfl⟩, rfl⟩
      exact ⟨⟨[], [], []⟩, trivial, .inr rfl, rfl⟩
     intro g hΦ
     exact kw_join () trivial ⟨rfl, rfl, rfl, rfl, trivial⟩ ⟨rfl, rfl, trivial⟩
    have ey25 := cond_f ey25 hy25
    obtain ⟨x26, e26, ey25⟩ := bS ey25
    have qy25 := sI ey25
    refine rdq g_mixed [2, 3, 5] [0, 1] { dst := dS [29, 30, 31, 32, 33, 34, 35, 36, 37, 38, 39, 40, 41, 42, 43, 44, 45, 46, 47, 48, 49, 50, 51, 52, 53, 54, 55, 56, 57, 58], pre := gA [] [[], [0], [], [0, 1, 2], rn 0 4, rn 0 5, [], [6], [], [6, 7, 8], rn 6 4, rn 6 5, rn 0 12, rn 0 13, rn 0 14, rn 0 15, rn 0 16, rn 0 15, rn 0 18, rn 0 19, rn 0 20, rn 0 15, [0, 1, 2, 3, 4, 5, 6, 7, 8, 9, 10, 11, 12, 13, 14, 21], rn 0 15, [0, 1, 2, 3, 4, 5, 6, 7, 8, 9, 10, 11, 12, 13, 14, 21, 22, 23], [0, 1, 2, 3, 4, 5, 6, 7, 8, 9, 10, 11, 12, 13, 14, 21, 22, 23, 24], [0, 1, 2, 3, 4, 5, 6, 7, 8, 9, 10, 11, 12, 13, 14, 21, 22, 23, 24, 25], rn 0 27, rn 0 28, rn 0 29], ids := fun _ => [], rs := rL [[(2, 0)], [(28, 1)], [(5, 0)], [(29, 2), (30, 3)], [(31, 4)], [(32, 5)], [(3, 0)], [(34, 7)], [(5, 0)], [(35, 8), (36, 9)], [(37, 10)], [(38, 11)], [(33, 6), (39, 12)], [(40, 13)], [(41, 14)], [(2, 0), (42, 15)], [(43, 16), (42, 15)], [(5, 0), (42, 15)], [(44, 17), (45, 18), (42, 15)], [(46, 19), (42, 15)], [(47, 20), (42, 15)], [(3, 0), (42, 15)], [(49, 22), (42, 15)], [(5, 0), (42, 15)], [(50, 23), (51, 24), (42, 15)], [(52, 25), (42, 15)], [(53, 26), (42, 15)], [(48, 21), (54, 27), (42, 15)], [(55, 28), (42, 15)], [(42, 15), (56, 29)]], rh := rL [[], [(0, 0)], [], [], [], [], [], [(1, 0)], [], [], [], [], [], [], [], [], [(0, 0)], [], [], [], [], [], [(1, 0)]], V := fun i g => gA undef [.pointer (some ⟨b1, 2, none⟩), .slice p0_2 ((a0.c).length) c0_2, .int .i64 v6, .pointer (some ⟨eB p0_2, eO p0_2 + Int.toNat v6 * Enc.sz CpS + 0, none⟩), .pointer (some ⟨eB p0_2, eO p0_2 + Int.toNat v6 * Enc.sz CpS + 0, none⟩), .slice p10 ((x8.n).length) c12, .pointer (some ⟨b2, 2, none⟩), .slice p1_2 ((a1.c).length) c1_2, .int .i64 v6, .pointer (some ⟨eB p1_2, eO p1_2 + Int.toNat v6 * Enc.sz CpS + 0, none⟩), .pointer (some ⟨eB p1_2, eO p1_2 + Int.toNat v6 * Enc.sz CpS + 0, none⟩), .slice p18 ((x16.n).length) c20, .bool x24, .bool (!x24), .bool (!x24), .pointer (some ⟨b1, 2, none⟩), .slice p0_2 ((a0.c).length) c0_2, .int .i64 v6, .pointer (some ⟨eB p0_2, eO p0_2 + Int.toNat v6 * Enc.sz CpS + 0, none⟩), .pointer (some ⟨eB p0_2, eO p0_2 + Int.toNat v6 * Enc.sz CpS + 1, none⟩), .slice p13 ((x8.w).length) c15, .pointer (some ⟨b2, 2, none⟩), .slice p1_2 ((a1.c).length) c1_2, .int .i64 v6, .pointer (some ⟨eB p1_2, eO p1_2 + Int.toNat v6 * Enc.sz CpS + 0, none⟩), .pointer (some ⟨eB p1_2, eO p1_2 + Int.toNat v6 * Enc.sz CpS + 1, none⟩), .slice p21 ((x16.w).length) c23, .bool x26, .bool (!x26), .bool y25] i, U := fun _ _ => [], Φ := fun _ _ => True } ?_ ?_
    ·refine ⟨lc rfl rfl fun hs hh => stp_fieldAddr (j := 2) Tryd.underlying29 rfl ts27 rfl (sv hs 2 rfl) rfl, lc rfl rfl fun hs hh => stp_load1 ts27 (sv hs 28 rfl) (Cells.box (id := 0) (hh.get 0 _ rfl) 1 rfl), lM, lc rfl rfl fun hs hh => stp_indexAddr Tryd.underlying27 ts43 (by decide) (sv hs 29 rfl) hl9 (sv hs 30 rfl) (Rdb.ro hw9) hx9, lc rfl rfl fun hs hh => stp_fieldAddr (j := 0) Tryd.underlying43 rfl ts41 rfl (sv hs 31 rfl) rfl, lc rfl rfl fun hs hh => stp_load1 ts41 (sv hs 32 rfl) (Cells.el (Rdb.ro hw9) (by decide) hx9 0 1 rfl), lc rfl rfl fun hs hh => stp_fieldAddr (j := 2) Tryd.underlying29 rfl ts27 rfl (sv hs 3 rfl) rfl, lc rfl rfl fun hs hh => stp_load1 ts27 (sv hs 34 rfl) (Cells.box (id := 1) (hh.get 1 _ rfl) 1 rfl), lM, lc rfl rfl fun hs hh => stp_indexAddr Tryd.underlying27 ts43 (by decide) (sv hs 35 rfl) hl17 (sv hs 36 rfl) (Rdb.ro hw17) hx17, lc rfl rfl fun hs hh => stp_fieldAddr (j := 0) Tryd.underlying43 rfl ts41 rfl (sv hs 37 rfl) rfl, lc rfl rfl fun hs hh => stp_load1 ts41 (sv hs 38 rfl) (Cells.el (Rdb.ro hw17) (by decide) hx17 0 1 rfl), ?_, lc rfl rfl fun hs hh => stp_not (sv hs 40 rfl), lM, lg rfl rfl 42 hy25 fun hs hh => stp_fieldAddr (j := 2) Tryd.underlying29 rfl ts27 rfl (sv hs 2 rfl) rfl, lg rfl rfl 42 hy25 fun hs hh => stp_load1 ts27 (sv hs 43 rfl) (Cells.box (id := 0) (hh.get 0 _ rfl) 1 rfl), lg rfl rfl 42 hy25 fun hs hh => stp_move (sv hs 5 rfl), lg rfl rfl 42 hy25 fun hs hh => stp_indexAddr Tryd.underlying27 ts43 (by decide) (sv hs 44 rfl) hl9 (sv hs 45 rfl) (Rdb.ro hw9) hx9, lg rfl rfl 42 hy25 fun hs hh => stp_fieldAddr (j := 1) Tryd.underlying43 rfl ts41 rfl (sv hs 46 rfl) rfl, lg rfl rfl 42 hy25 fun hs hh => stp_load1 ts41 (sv hs 47 rfl) (Cells.el (Rdb.ro hw9) (by decide) hx9 1 1 rfl), lg rfl rfl 42 hy25 fun hs hh => stp_fieldAddr (j := 2) Tryd.underlying29 rfl ts27 rfl (sv hs 3 rfl) rfl, lg rfl rfl 42 hy25 fun hs hh => stp_load1 ts27 (sv hs 49 rfl) (Cells.box (id := 1) (hh.get 1 _ rfl) 1 rfl), lg rfl rfl 42 hy25 fun hs hh => stp_move (sv hs 5 rfl), lg rfl rfl 42 hy25 fun hs hh => stp_indexAddr Tryd.underlying27 ts43 (by decide) (sv hs 50 rfl) hl17 (sv hs 51 rfl) (Rdb.ro hw17) hx17, lg rfl rfl 42 hy25 fun hs hh => stp_fieldAddr (j := 1) Tryd.underlying43 rfl ts41 rfl (sv hs 52 rfl) rfl, lg rfl rfl 42 hy25 fun hs hh => stp_load1 ts41 (sv hs 53 rfl) (Cells.el (Rdb.ro hw17) (by decide) hx17 1 1 rfl), ?_, lg rfl rfl 42 hy25 fun hs hh => stp_not (sv hs 55 rfl), lc rfl rfl fun hs hh => stp_pick_fB (sv hs 42 rfl) hy25 (sv hs 56 rfl) qy25, trivial⟩
     ·refine le rfl rfl (fun g hΦ s h hs hh => (stpU_call (fun i => 2 + i) cf22 (fun w hw => c_s_l8Notes fl w x8.n x16.n rfl (RO.pass hr9 hw) rfl (RO.pass hr17 hw) x24 e24) (yB (sv hs 33 rfl) (sv hs 39 rfl)))) ?_
      rintro g _ _ ⟨_, ⟨rfl, rfl⟩, rfl⟩
      exact ⟨⟨[], [], []⟩, trivial, .inr rfl, rfl⟩
     refine loc_eff rfl rfl (fun g hΦ s h hs hh => ⟨(.some (gval_of rfl (sv hs 42 rfl)) hy25), (stpU_call (fun i => 2 + i) cf22 (fun w hw => c_s_l8Notes fl w x8.w x16.w rfl (RO.pass hs9 hw) rfl (RO.pass hs17 hw) x26 e26) (yB (sv hs 48 rfl) (sv hs 54 rfl)))⟩) ?_
     rintro g _ _ ⟨_, ⟨rfl, rfl⟩, rfl⟩
     exact ⟨⟨[], [], []⟩, trivial, .inr rfl, rfl⟩
    intro g hΦ
    exact kw_join () trivial ⟨rfl, rfl, rfl, rfl, trivial⟩ ⟨rfl, rfl, trivial⟩
   rintro _ -
   dsimp only
   refine kw_nx (cw_cond rfl (fun h27 => ?_) (fun h27 => ?_))
   ·have H1 := cond_t H1 h27
    refine sr (oS rfl (nn (cw_ret (kw_bl_ret (kw_nx_ret (kw_lq_ret (kw_bl_ret (kw_join_ret (kw_nx_ret ?_)))))))))
    obtain rfl := sI H1
    obtain rfl := sI H0
    exact kr Tryd.results7 (rT rfl) [] ⟨rfl, rfl⟩
   have H1 := cond_f H1 h27
   obtain ⟨x28, e28, H1⟩ := bS H1
   exact cw_skip (kw_bl_normal (kw_nx (cw_region (oM rfl (oP e28 rfl (oS rfl (ow_nil (kw_lqS (js := [0, 1]) (fuel, x28) H1 (Nat.lt_succ_self _) ⟨rfl, rfl, rfl, trivial⟩ ⟨0, [1], rfl, rfl, 1, [], rfl, rfl, trivial⟩ (by decide)))))))))
  have H1 := cond_f H1 h7
  refine cw_exit (kw_nx_exit (kw_lq_exit (kw_bl ?_)))
  obtain rfl := sI H1
  exact kw_joinS (js := [0, 1]) v6 rfl ⟨rfl, rfl, rfl, trivial⟩ ⟨0, [1], rfl, rfl, 1, [], rfl, rfl, trivial⟩ (by decide)
 rintro v6 rfl
 dsimp only
 refine kw_nx (sr (oS rfl (nn (cw_ret ?_))))
 obtain rfl := sI H0
 exact kr Tryd.results7 (rT rfl) [] ⟨rfl, rfl⟩

theorem c_i_TableValid (fl : Nat) (w : World) (a0 : T) (hn0_0 : n0_0 = (a0.b).length) (hr0_0 : RO w (hkeys []) (RdL p0_0 c0_0 a0.b)) (hn0_1 : n0_1 = (a0.f).length) (hr0_1 : RO w (hkeys []) (RdL p0_1 c0_1 a0.f)) (hg : RO w (hkeys []) (fun w' => w'.rangeAt 0 0 [.bool false, .int .i64 0, .int .i64 0, .int .i64 0, .int .i64 (-1)])) (r : Bool) (H0 : i_TableValid fl a0 = some r) :
    Ct Tryd.prog 23 [.agg #[.slice p0_0 n0_0 c0_0, .slice p0_1 n0_1 c0_1]] w [] (fun rv h' => rv = .bool r ∧ h' = []) := by
  obtain rfl := hn0_0
  obtain rfl := hn0_1
  unfold i_TableValid at H0
  obtain rfl := Option.some.inj H0
  exact ct_of_calls (tableValid_c _ a0 w ⟨_, _, rfl, (hr0_0 w (Fr.refl _ _)).rd, (hr0_1 w (Fr.refl _ _)).rd⟩ (freeG_of (hg w (Fr.refl _ _))))

theorem c_i_within (fl : Nat) (w : World) (a0 : Int) (a1 : Int) (r : Bool) (H0 : i_within fl a0 a1 = some r) :
  Ct Tryd.prog 27 [.int .i64 a0, .int .i64 a1] w [] (fun rv h' => rv = .bool r ∧ h' = []) := by
 unfold i_within at H0
 refine ct_of_cw Tryd.func27 rfl Tryd.ntmps27 rfl (Sat.refl _ _) ?_
 obtain ⟨y1, ey1, H0⟩ := bS H0
 refine sr (oS rfl (nn (sr (oM rfl (oI rfl (oM rfl (ow_cutY 4 11 y1 ?_ ?_)))))))
 ·rcases Bool.eq_false_or_eq_true (decide (0 ≤ a0)) with hy1 | hy1
  ·have ey1 := cond_t ey1 hy1
   refine oG rfl hy1 (mv rfl) rfl (oG rfl hy1 (mv rfl) rfl (oG rfl hy1 (stp_lss rfl rfl) rfl (oD (stp_pick_t rfl hy1 rfl) rfl ?_)))
   obtain rfl := sI ey1
   exact ow_nil (jy 4 0)
  have ey1 := cond_f ey1 hy1
  refine oO rfl hy1 rfl (oO rfl hy1 rfl (oO rfl hy1 rfl (oD (stp_pick_f rfl hy1 rfl) rfl ?_)))
  obtain rfl := sI ey1
  exact ow_nil (jy 4 0)
 refine oS rfl (nn (cw_ret ?_))
 obtain rfl := sI H0
 exact kr Tryd.results27 (rT rfl) [] ⟨rfl, rfl⟩

theorem c_i_KeyValid (fl : Nat) (w : World) (a0 : K) (r : Bool) (H0 : i_KeyValid fl a0 = some r) :
  Ct Tryd.prog 30 [.agg #[.int .i64 a0.s, .int .i64 a0.p]] w [] (fun rv h' => rv = .bool r ∧ h' = []) := by
 unfold i_KeyValid at H0
 refine ct_of_cw Tryd.func30 rfl Tryd.ntmps30 rfl (Sat.refl _ _) ?_
 refine sr (oE (stpU_box 0 rfl rfl) rfl ?_)
 rintro _ _ ⟨b1, rfl, rfl⟩
 obtain ⟨x2, e2, H0⟩ := bS H0
 refine oS rfl (nn (sr (oA 0 Tryd.underlying36 rfl ts3 rfl (oL 0 ts3 rfl (oE (stpU_call (fun i => 1 + i) cf27 (fun w hw => c_i_within fl w a0.s 16 x2 e2) (yB rfl rfl)) rfl ?_)))))
 rintro _ _ ⟨_, ⟨rfl, rfl⟩, rfl⟩
 obtain ⟨y3, ey3, H0⟩ := bS H0
 refine oM rfl (ow_cutY 4 10 y3 ?_ ?_)
 ·rcases Bool.eq_false_or_eq_true x2 with hy3 | hy3
  ·have ey3 := cond_t ey3 hy3
   obtain ⟨x4, e4, ey3⟩ := bS ey3
   refine oG rfl hy3 (fA 1 Tryd.underlying36 rfl ts3 rfl rfl rfl) rfl (oG rfl hy3 (lB 0 ts3 rfl rfl rfl) rfl (ow_eff (.some rfl hy3) (stpU_call (fun i => 1 + i) cf27 (fun w hw => c_i_within fl w a0.p 256 x4 e4) (yB rfl rfl)) rfl ?_))
   rintro _ _ ⟨_, ⟨rfl, rfl⟩, rfl⟩
   refine oD (stp_pick_t rfl hy3 rfl) rfl ?_
   obtain rfl := sI ey3
   exact ow_nil (jy 4 0)
  have ey3 := cond_f ey3 hy3
  refine oO rfl hy3 rfl (oO rfl hy3 rfl (oO rfl hy3 rfl (oD (stp_pick_f rfl hy3 rfl) rfl ?_)))
  obtain rfl := sI ey3
  exact ow_nil (jy 4 0)
 refine oS rfl (nn (cw_ret ?_))
 obtain rfl := sI H0
 exact kr Tryd.results30 (rT rfl) [] ⟨rfl, rfl⟩

theorem c_i_noteOf_1 (fl : Nat) (w : World) (a0 : Nt) (qc0 : Nat) (ac0 : K) (hbac0 : RO w (hkeys []) (fun w' => w'.rangeAt qc0 0 [.int .i64 ac0.s, .int .i64 ac0.p])) (r : Bool) (H0 : i_noteOf_1 fl a0 ac0 = some r) :
  Ct Tryd.prog 56 [.agg #[.int .i64 a0.k.s, .int .i64 a0.k.p, .int .i64 a0.fr], .pointer (some ⟨qc0, 0, none⟩)] w [] (fun rv h' => rv = .bool r ∧ h' = []) := by
 unfold i_noteOf_1 at H0
 refine ct_of_cw Tryd.func56 rfl Tryd.ntmps56 rfl (Sat.refl _ _) ?_
 refine sr (oE (stpU_box 0 rfl rfl) rfl ?_)
 rintro _ _ ⟨b1, rfl, rfl⟩
 refine oS rfl (nn (sr (oA 0 Tryd.underlying53 rfl ts36 rfl (oB2 0 ts36 rfl (oD (stp_loadN (us := [_, _]) ts36 rfl (Cells.ofRO hbac0 2 rfl)) rfl (oD (stp_eqlS te36 a0.k ac0 rfl rfl) rfl (oS rfl (nn (cw_ret ?_)))))))))
 obtain rfl := sI H0
 exact kr Tryd.results56 (rT rfl) [] ⟨rfl, rfl⟩

theorem c_slices_IndexFunc_Note_of_i_noteOf_1 (fl : Nat) (w : World) (a0 : (List Nt)) (q1_0 : Nat) (a1_0 : K) (hn0_0 : n0_0 = (a0).length) (hr0_0 : RO w (hkeys []) (RdL p0_0 c0_0 a0)) (hba1_0 : RO w (hkeys []) (fun w' => w'.rangeAt q1_0 0 [.int .i64 a1_0.s, .int .i64 a1_0.p])) (r : Int) (H0 : slices_IndexFunc_Note_of_i_noteOf_1 fl a0 a1_0 = some r) :
  Ct Tryd.prog 55 [.slice p0_0 n0_0 c0_0, .func (.func 56) #[] #[.pointer (some ⟨q1_0, 0, none⟩)]] w [] (fun rv h' => rv = .int .i64 r ∧ h' = []) := by
 subst hn0_0
 unfold slices_IndexFunc_Note_of_i_noteOf_1 at H0
 refine ct_of_cw Tryd.func55 rfl Tryd.ntmps55 rfl (Sat.refl _ _) ?_
 obtain ⟨o0_0, eo0_0, H0⟩ := bS H0
 refine sr (oS rfl (nn (cw_seq (sr (oM rfl (oD (stp_len Tryd.underlying41 rfl) rfl (oM rfl (nn (cw_join (ι := Int) (fun | v1 => o0_0 = .out v1) (fun | v1 => [(0, .slice p0_0 ((a0).length) c0_0), (1, .func (.func 56) #[] #[.pointer (some ⟨q1_0, 0, none⟩)]), (7, .int .i64 ((a0).length : Int)), (8, .int .i64 v1)]) (fun | v1 => []) ?_ ?_)))))))))
 ·refine cw_block (cw_loopS (ι := Nat × Int) (js := []) (fun x => x.1) (fun | (fuel, v1) => slices_IndexFunc_Note_of_i_noteOf_1_L0 fl a0 a1_0 fuel v1 = some o0_0) (fun | (_, v1) => [(0, .slice p0_0 ((a0).length) c0_0), (1, .func (.func 56) #[] #[.pointer (some ⟨q1_0, 0, none⟩)]), (7, .int .i64 ((a0).length : Int)), (8, .int .i64 v1)]) (fun | (_, v1) => []) (fl, 0) eo0_0 ⟨rfl, rfl, rfl, rfl, trivial⟩ trivial (by decide) ?_)
  rintro ⟨fuel, v1⟩ H1
  have H1 : slices_IndexFunc_Note_of_i_noteOf_1_L0 fl a0 a1_0 fuel v1 = some o0_0 := H1
  rcases fuel with _ | fuel
  ·rw [slices_IndexFunc_Note_of_i_noteOf_1_L0.eq_1] at H1; cases H1
  rw [slices_IndexFunc_Note_of_i_noteOf_1_L0.eq_2] at H1
  dsimp only
  refine sr (oW rfl (nn (cw_seq (cw_cond rfl (fun h2 => ?_) (fun h2 => ?_)))))
  ·have H1 := cond_t H1 h2
   obtain ⟨x3, e3, H1⟩ := bS H1
   refine cw_skip (kw_nx (cw_seq (cw_block (sr (oM rfl (oS rfl (nn (sr (oM rfl (oM rfl (oM rfl (oD (stp_indexAddr Tryd.underlying41 ts53 (by decide) rfl rfl rfl (Rdb.ro hr0_0) e3) rfl (oD (stp_loadN (us := [_, _, _]) ts53 rfl (Cells.el (Rdb.ro hr0_0) (by decide) e3 0 3 rfl)) rfl ?_)))))))))))))
   obtain ⟨x4, e4, H1⟩ := bS H1
   refine oE (stpU_callF (vals := [_]) (ca := [_]) (fun i => 0 + i) cf56 (fun w hw => c_i_noteOf_1 fl w x3 q1_0 a1_0 (RO.pass hba1_0 hw) x4 e4) rfl (yA rfl)) rfl ?_
   rintro _ _ ⟨_, ⟨rfl, rfl⟩, rfl⟩
   refine nn (cw_cond rfl (fun h5 => ?_) (fun h5 => ?_))
   ·have H1 := cond_t H1 h5
    refine sr (oM rfl (oS rfl (nn (cw_ret (kw_bl_ret (kw_nx_ret (kw_lq_ret (kw_bl_ret (kw_join_ret (kw_nx_ret ?_))))))))))
    obtain rfl := sI H1
    obtain rfl := sI H0
    exact kr Tryd.results55 (rT rfl) [] ⟨rfl, rfl⟩
   have H1 := cond_f H1 h5
   obtain ⟨x6, e6, H1⟩ := bS H1
   exact cw_skip (kw_bl_normal (kw_nx (cw_region (oP e6 rfl (oM rfl (ow_nil (kw_lqS (js := []) (fuel, x6) H1 (Nat.lt_succ_self _) ⟨rfl, rfl, rfl, rfl, trivial⟩ trivial (by decide))))))))
  have H1 := cond_f H1 h2
  refine cw_exit (kw_nx_exit (kw_lq_exit (kw_bl ?_)))
  obtain rfl := sI H1
  exact kw_joinS (js := []) v1 rfl ⟨rfl, rfl, rfl, rfl, trivial⟩ trivial (by decide)
 rintro v1 rfl
 dsimp only
 refine kw_nx (sr (oS rfl (nn (cw_ret ?_))))
 obtain rfl := sI H0
 exact kr Tryd.results55 (rT rfl) [] ⟨rfl, rfl⟩

theorem c_i_noteOf (fl : Nat) (w : World) (a0 : (List Nt)) (a1 : K) (hn0_0 : n0_0 = (a0).length) (hr0_0 : RO w (hkeys []) (RdL p0_0 c0_0 a0)) (r : Int) (H0 : i_noteOf fl a0 a1 = some r) :
  Ct Tryd.prog 26 [.slice p0_0 n0_0 c0_0, .agg #[.int .i64 a1.s, .int .i64 a1.p]] w [] (fun rv h' => rv = .int .i64 r ∧ h' = []) := by
 subst hn0_0
 unfold i_noteOf at H0
 refine ct_of_cw Tryd.func26 rfl Tryd.ntmps26 rfl (Sat.refl _ _) ?_
 refine sr (oE (stpU_box 0 rfl rfl) rfl ?_)
 rintro _ _ ⟨b1, rfl, rfl⟩
 obtain ⟨x2, e2, H0⟩ := bS H0
 refine oS rfl (nn (sr (oM rfl (oD (stp_makeFunc (yA rfl)) rfl (oE (stpU_call (fun i => 1 + i) cf55 (fun w hw => c_slices_IndexFunc_Note_of_i_noteOf_1 fl w a0 b1 a1 rfl (RO.pass hr0_0 hw) (box_pass (id := 0) rfl hw) x2 e2) (yB rfl rfl)) rfl ?_)))))
 rintro _ _ ⟨_, ⟨rfl, rfl⟩, rfl⟩
 refine oS rfl (nn (cw_ret ?_))
 obtain rfl := sI H0
 exact kr Tryd.results26 (rT rfl) [] ⟨rfl, rfl⟩

theorem c_i_each (fl : Nat) (w : World) (a0 : (List Nt)) (hn0_0 : n0_0 = (a0).length) (hr0_0 : RO w (hkeys []) (RdL p0_0 c0_0 a0)) (r : Bool) (H0 : i_each fl a0 = some r) :
  Ct Tryd.prog 24 [.slice p0_0 n0_0 c0_0] w [] (fun rv h' => rv = .bool r ∧ h' = []) := by
 subst hn0_0
 unfold i_each at H0
 refine ct_of_cw Tryd.func24 rfl Tryd.ntmps24 rfl (Sat.refl _ _) ?_
 obtain ⟨o0_0, eo0_0, H0⟩ := bS H0
 refine sr (oS rfl (nn (cw_seq (sr (oM rfl (oD (stp_len Tryd.underlying41 rfl) rfl (oM rfl (nn (cw_join (ι := Int) (fun | v1 => o0_0 = .out v1) (fun | v1 => [(0, .slice p0_0 ((a0).length) c0_0), (5, .slice p0_0 ((a0).length) c0_0), (6, .int .i64 ((a0).length : Int)), (7, .int .i64 v1)]) (fun | v1 => []) ?_ ?_)))))))))
 ·refine cw_block (cw_loopS (ι := Nat × Int) (js := []) (fun x => x.1) (fun | (fuel, v1) => i_each_L0 fl a0 fuel v1 = some o0_0) (fun | (_, v1) => [(0, .slice p0_0 ((a0).length) c0_0), (5, .slice p0_0 ((a0).length) c0_0), (6, .int .i64 ((a0).length : Int)), (7, .int .i64 v1)]) (fun | (_, v1) => []) (fl, 0) eo0_0 ⟨rfl, rfl, rfl, rfl, trivial⟩ trivial (by decide) ?_)
  rintro ⟨fuel, v1⟩ H1
  have H1 : i_each_L0 fl a0 fuel v1 = some o0_0 := H1
  rcases fuel with _ | fuel
  ·rw [i_each_L0.eq_1] at H1; cases H1
  rw [i_each_L0.eq_2] at H1
  dsimp only
  refine sr (oW rfl (nn (cw_seq (cw_cond rfl (fun h2 => ?_) (fun h2 => ?_)))))
  ·have H1 := cond_t H1 h2
   obtain ⟨x3, e3, H1⟩ := bS H1
   refine cw_skip (kw_nx (cw_seq (cw_block (sr (oM rfl (oD (stp_indexAddr Tryd.underlying41 ts53 (by decide) rfl rfl rfl (Rdb.ro hr0_0) e3) rfl (oD (stp_loadN (us := [_, _, _]) ts53 rfl (Cells.el (Rdb.ro hr0_0) (by decide) e3 0 3 rfl)) rfl (oE (stpU_alloc 0 tz53 rfl) rfl ?_))))))))
   rintro _ _ ⟨b4, rfl, rfl⟩
   obtain ⟨x5, e5, H1⟩ := bS H1
   obtain ⟨y6, ey6, H1⟩ := bS H1
   refine oS rfl (oC3 0 ts53 rfl rfl (nn (cw_seq (cw_join (ι := Unit) (fun | _ => True) (fun | _ => [(0, .slice p0_0 ((a0).length) c0_0), (5, .slice p0_0 ((a0).length) c0_0), (6, .int .i64 ((a0).length : Int)), (7, .int .i64 v1), (24, .bool y6)]) (fun | _ => []) ?_ ?_))))
   ·rcases Bool.eq_false_or_eq_true (!x5) with hy6 | hy6
    ·have ey6 := cond_t ey6 hy6
     have qy6 := sI ey6
     refine rdq g_mixed [4] [0] { dst := dS [13, 14, 15, 16, 17, 18, 19, 20, 21, 22, 23, 24, 25], pre := gA [] [[], [0], [0, 1], [0, 1, 2], rn 0 4, rn 0 5, rn 0 5, rn 0 7, rn 0 5, [0, 1, 2, 3, 4, 8], rn 0 10, rn 0 11, rn 0 12], ids := fun _ => [], rs := rL [[(4, 0)], [(12, 1)], [(13, 2)], [(14, 3)], [(15, 4)], [(16, 5)], [(16, 5)], [(16, 5)], [(16, 5)], [(16, 5)], [(16, 5)], [(16, 5)], [(16, 5), (23, 12)]], rh := rL [[], [(0, 0)]], V := fun i g => gA undef [.pointer (some ⟨b4, 0, none⟩), .agg #[.int .i64 x3.k.s, .int .i64 x3.k.p], .bool x5, .bool (!x5), .bool (!x5), undef, undef, undef, undef, undef, undef, undef, .bool y6] i, U := fun _ _ => [], Φ := fun _ _ => True } ?_ ?_
     ·refine ⟨lc rfl rfl fun hs hh => stp_fieldAddr (j := 0) Tryd.underlying53 rfl ts36 rfl (sv hs 4 rfl) rfl, lc rfl rfl fun hs hh => stp_loadN (us := [_, _]) ts36 (sv hs 12 rfl) (Cells.box (id := 0) (hh.get 0 _ rfl) 2 rfl), ?_, lc rfl rfl fun hs hh => stp_not (sv hs 14 rfl), lM, lo rfl rfl 16 hy6, lo rfl rfl 16 hy6, lo rfl rfl 16 hy6, lo rfl rfl 16 hy6, lo rfl rfl 16 hy6, lo rfl rfl 16 hy6, lo rfl rfl 16 hy6, lc rfl rfl fun hs hh => stp_pick_tB (sv hs 16 rfl) hy6 rfl qy6, trivial⟩
      refine le rfl rfl (fun g hΦ s h hs hh => (stpU_call (fun i => 1 + i) cf30 (fun w hw => c_i_KeyValid fl w x3.k x5 e5) (yA (sv hs 13 rfl)))) ?_
      rintro g _ _ ⟨_, ⟨rfl, rfl⟩, rfl⟩
      exact ⟨⟨[], [], []⟩, trivial, .inr rfl, rfl⟩
     intro g hΦ
     exact kw_join () trivial ⟨rfl, rfl, rfl, rfl, rfl, trivial⟩ trivial
    have ey6 := cond_f ey6 hy6
    obtain ⟨x7, e7, ey6⟩ := bS ey6
    obtain ⟨x8, e8, ey6⟩ := bS ey6
    have qy6 := sI ey6
    refine rdq g_mixed [0, 3, 4] [0] { dst := dS [13, 14, 15, 16, 17, 18, 19, 20, 21, 22, 23, 24, 25], pre := gA [] [[], [0], [0, 1], [0, 1, 2], rn 0 4, rn 0 5, rn 0 5, rn 0 7, rn 0 5, [0, 1, 2, 3, 4, 8], rn 0 10, rn 0 11, rn 0 12], ids := fun _ => [], rs := rL [[(4, 0)], [(12, 1)], [(13, 2)], [(14, 3)], [(15, 4)], [(0, 0), (16, 5)], [(3, 0), (16, 5)], [(17, 6), (18, 7), (16, 5)], [(4, 0), (16, 5)], [(20, 9), (16, 5)], [(19, 8), (21, 10), (16, 5)], [(22, 11), (16, 5)], [(16, 5), (23, 12)]], rh := rL [[], [(0, 0)], [], [], [], [], [], [], [], [(0, 0)]], V := fun i g => gA undef [.pointer (some ⟨b4, 0, none⟩), .agg #[.int .i64 x3.k.s, .int .i64 x3.k.p], .bool x5, .bool (!x5), .bool (!x5), .slice p0_0 ((a0).length) c0_0, .int .i64 v1, .slice p0_0 ((x7).length) c0_0, .pointer (some ⟨b4, 0, none⟩), .agg #[.int .i64 x3.k.s, .int .i64 x3.k.p], .int .i64 x8, .bool (decide (0 ≤ x8)), .bool y6] i, U := fun _ _ => [], Φ := fun _ _ => True } ?_ ?_
    ·refine ⟨lc rfl rfl fun hs hh => stp_fieldAddr (j := 0) Tryd.underlying53 rfl ts36 rfl (sv hs 4 rfl) rfl, lc rfl rfl fun hs hh => stp_loadN (us := [_, _]) ts36 (sv hs 12 rfl) (Cells.box (id := 0) (hh.get 0 _ rfl) 2 rfl), ?_, lc rfl rfl fun hs hh => stp_not (sv hs 14 rfl), lM, lg rfl rfl 16 hy6 fun hs hh => stp_move (sv hs 0 rfl), lg rfl rfl 16 hy6 fun hs hh => stp_move (sv hs 3 rfl), lg rfl rfl 16 hy6 fun hs hh => stp_take Tryd.underlying41 ts53 (sv hs 17 rfl) rfl (sv hs 18 rfl) (Rdb.ro hr0_0) e7, lg rfl rfl 16 hy6 fun hs hh => stp_fieldAddr (j := 0) Tryd.underlying53 rfl ts36 rfl (sv hs 4 rfl) rfl, lg rfl rfl 16 hy6 fun hs hh => stp_loadN (us := [_, _]) ts36 (sv hs 20 rfl) (Cells.box (id := 0) (hh.get 0 _ rfl) 2 rfl), ?_, lg rfl rfl 16 hy6 fun hs hh => stp_geq (sv hs 22 rfl) rfl, lc rfl rfl fun hs hh => stp_pick_fB (sv hs 16 rfl) hy6 (sv hs 23 rfl) qy6, trivial⟩
     ·refine le rfl rfl (fun g hΦ s h hs hh => (stpU_call (fun i => 1 + i) cf30 (fun w hw => c_i_KeyValid fl w x3.k x5 e5) (yA (sv hs 13 rfl)))) ?_
      rintro g _ _ ⟨_, ⟨rfl, rfl⟩, rfl⟩
      exact ⟨⟨[], [], []⟩, trivial, .inr rfl, rfl⟩
     refine loc_eff rfl rfl (fun g hΦ s h hs hh => ⟨(.some (gval_of rfl (sv hs 16 rfl)) hy6), (stpU_call (fun i => 1 + i) cf26 (fun w hw => c_i_noteOf fl w x7 x3.k rfl (RO.pass (RO.take hr0_0 e7) hw) x8 e8) (yB (sv hs 19 rfl) (sv hs 21 rfl)))⟩) ?_
     rintro g _ _ ⟨_, ⟨rfl, rfl⟩, rfl⟩
     exact ⟨⟨[], [], []⟩, trivial, .inr rfl, rfl⟩
    intro g hΦ
    exact kw_join () trivial ⟨rfl, rfl, rfl, rfl, rfl, trivial⟩ trivial
   rintro _ -
   dsimp only
   refine kw_nx (cw_cond rfl (fun h9 => ?_) (fun h9 => ?_))
   ·have H1 := cond_t H1 h9
    refine sr (oS rfl (nn (cw_ret (kw_bl_ret (kw_nx_ret (kw_lq_ret (kw_bl_ret (kw_join_ret (kw_nx_ret ?_)))))))))
    obtain rfl := sI H1
    obtain rfl := sI H0
    exact kr Tryd.results24 (rT rfl) [] ⟨rfl, rfl⟩
   have H1 := cond_f H1 h9
   obtain ⟨x10, e10, H1⟩ := bS H1
   exact cw_skip (kw_bl_normal (kw_nx (cw_region (oP e10 rfl (oM rfl (ow_nil (kw_lqS (js := []) (fuel, x10) H1 (Nat.lt_succ_self _) ⟨rfl, rfl, rfl, rfl, trivial⟩ trivial (by decide))))))))
  have H1 := cond_f H1 h2
  refine cw_exit (kw_nx_exit (kw_lq_exit (kw_bl ?_)))
  obtain rfl := sI H1
  exact kw_joinS (js := []) v1 rfl ⟨rfl, rfl, rfl, rfl, trivial⟩ trivial (by decide)
 rintro v1 rfl
 dsimp only
 refine kw_nx (sr (oM rfl (oD (stp_len Tryd.underlying41 rfl) rfl (oV rfl (oS rfl (nn (cw_ret ?_)))))))
 obtain rfl := sI H0
 exact kr Tryd.results24 (rT rfl) [] ⟨rfl, rfl⟩

theorem c_i_Table_find_1 (fl : Nat) (w : World) (a0 : F) (qc0 : Nat) (ac0 : K) (hbac0 : RO w (hkeys []) (fun w' => w'.rangeAt qc0 0 [.int .i64 ac0.s, .int .i64 ac0.p])) (r : Bool) (H0 : i_Table_find_1 fl a0 ac0 = some r) :
  Ct Tryd.prog 54 [.agg #[.bool a0.u, .int .i64 a0.k.s, .int .i64 a0.k.p, .int .i64 a0.r, .int .i64 a0.nx], .pointer (some ⟨qc0, 0, none⟩)] w [] (fun rv h' => rv = .bool r ∧ h' = []) := by
 unfold i_Table_find_1 at H0
 refine ct_of_cw Tryd.func54 rfl Tryd.ntmps54 rfl (Sat.refl _ _) ?_
 refine sr (oE (stpU_box 0 rfl rfl) rfl ?_)
 rintro _ _ ⟨b1, rfl, rfl⟩
 obtain ⟨y2, ey2, H0⟩ := bS H0
 refine oS rfl (nn (sr (oA 0 Tryd.underlying61 rfl ts4 rfl (oL 0 ts4 rfl (oM rfl (ow_cutY 5 11 y2 ?_ ?_))))))
 ·rcases Bool.eq_false_or_eq_true a0.u with hy2 | hy2
  ·have ey2 := cond_t ey2 hy2
   refine oG rfl hy2 (fA 1 Tryd.underlying61 rfl ts36 rfl rfl rfl) rfl (oG rfl hy2 (stp_loadN (us := [_, _]) ts36 rfl (Cells.box (id := 0) rfl 2 rfl)) rfl (oG rfl hy2 (stp_loadN (us := [_, _]) ts36 rfl (Cells.ofRO hbac0 2 rfl)) rfl (oG rfl hy2 (stp_eqlS te36 a0.k ac0 rfl rfl) rfl (oD (stp_pick_t rfl hy2 rfl) rfl ?_))))
   obtain rfl := sI ey2
   exact ow_nil (jy 5 0)
  have ey2 := cond_f ey2 hy2
  refine oO rfl hy2 rfl (oO rfl hy2 rfl (oO rfl hy2 rfl (oO rfl hy2 rfl (oD (stp_pick_f rfl hy2 rfl) rfl ?_))))
  obtain rfl := sI ey2
  exact ow_nil (jy 5 0)
 refine oS rfl (nn (cw_ret ?_))
 obtain rfl := sI H0
 exact kr Tryd.results54 (rT rfl) [] ⟨rfl, rfl⟩

theorem c_slices_IndexFunc_Frame_of_i_Table_find_1 (fl : Nat) (w : World) (a0 : (List F)) (q1_0 : Nat) (a1_0 : K) (hn0_0 : n0_0 = (a0).length) (hr0_0 : RO w (hkeys []) (RdL p0_0 c0_0 a0)) (hba1_0 : RO w (hkeys []) (fun w' => w'.rangeAt q1_0 0 [.int .i64 a1_0.s, .int .i64 a1_0.p])) (r : Int) (H0 : slices_IndexFunc_Frame_of_i_Table_find_1 fl a0 a1_0 = some r) :
  Ct Tryd.prog 53 [.slice p0_0 n0_0 c0_0, .func (.func 54) #[] #[.pointer (some ⟨q1_0, 0, none⟩)]] w [] (fun rv h' => rv = .int .i64 r ∧ h' = []) := by
 subst hn0_0
 unfold slices_IndexFunc_Frame_of_i_Table_find_1 at H0
 refine ct_of_cw Tryd.func53 rfl Tryd.ntmps53 rfl (Sat.refl _ _) ?_
 obtain ⟨o0_0, eo0_0, H0⟩ := bS H0
 refine sr (oS rfl (nn (cw_seq (sr (oM rfl (oD (stp_len Tryd.underlying24 rfl) rfl (oM rfl (nn (cw_join (ι := Int) (fun | v1 => o0_0 = .out v1) (fun | v1 => [(0, .slice p0_0 ((a0).length) c0_0), (1, .func (.func 54) #[] #[.pointer (some ⟨q1_0, 0, none⟩)]), (7, .int .i64 ((a0).length : Int)), (8, .int .i64 v1)]) (fun | v1 => []) ?_ ?_)))))))))
 ·refine cw_block (cw_loopS (ι := Nat × Int) (js := []) (fun x => x.1) (fun | (fuel, v1) => slices_IndexFunc_Frame_of_i_Table_find_1_L0 fl a0 a1_0 fuel v1 = some o0_0) (fun | (_, v1) => [(0, .slice p0_0 ((a0).length) c0_0), (1, .func (.func 54) #[] #[.pointer (some ⟨q1_0, 0, none⟩)]), (7, .int .i64 ((a0).length : Int)), (8, .int .i64 v1)]) (fun | (_, v1) => []) (fl, 0) eo0_0 ⟨rfl, rfl, rfl, rfl, trivial⟩ trivial (by decide) ?_)
  rintro ⟨fuel, v1⟩ H1
  have H1 : slices_IndexFunc_Frame_of_i_Table_find_1_L0 fl a0 a1_0 fuel v1 = some o0_0 := H1
  rcases fuel with _ | fuel
  ·rw [slices_IndexFunc_Frame_of_i_Table_find_1_L0.eq_1] at H1; cases H1
  rw [slices_IndexFunc_Frame_of_i_Table_find_1_L0.eq_2] at H1
  dsimp only
  refine sr (oW rfl (nn (cw_seq (cw_cond rfl (fun h2 => ?_) (fun h2 => ?_)))))
  ·have H1 := cond_t H1 h2
   obtain ⟨x3, e3, H1⟩ := bS H1
   refine cw_skip (kw_nx (cw_seq (cw_block (sr (oM rfl (oS rfl (nn (sr (oM rfl (oM rfl (oM rfl (oD (stp_indexAddr Tryd.underlying24 ts61 (by decide) rfl rfl rfl (Rdb.ro hr0_0) e3) rfl (oD (stp_loadN (us := [_, _, _, _, _]) ts61 rfl (Cells.el (Rdb.ro hr0_0) (by decide) e3 0 5 rfl)) rfl ?_)))))))))))))
   obtain ⟨x4, e4, H1⟩ := bS H1
   refine oE (stpU_callF (vals := [_]) (ca := [_]) (fun i => 0 + i) cf54 (fun w hw => c_i_Table_find_1 fl w x3 q1_0 a1_0 (RO.pass hba1_0 hw) x4 e4) rfl (yA rfl)) rfl ?_
   rintro _ _ ⟨_, ⟨rfl, rfl⟩, rfl⟩
   refine nn (cw_cond rfl (fun h5 => ?_) (fun h5 => ?_))
   ·have H1 := cond_t H1 h5
    refine sr (oM rfl (oS rfl (nn (cw_ret (kw_bl_ret (kw_nx_ret (kw_lq_ret (kw_bl_ret (kw_join_ret (kw_nx_ret ?_))))))))))
    obtain rfl := sI H1
    obtain rfl := sI H0
    exact kr Tryd.results53 (rT rfl) [] ⟨rfl, rfl⟩
   have H1 := cond_f H1 h5
   obtain ⟨x6, e6, H1⟩ := bS H1
   exact cw_skip (kw_bl_normal (kw_nx (cw_region (oP e6 rfl (oM rfl (ow_nil (kw_lqS (js := []) (fuel, x6) H1 (Nat.lt_succ_self _) ⟨rfl, rfl, rfl, rfl, trivial⟩ trivial (by decide))))))))
  have H1 := cond_f H1 h2
  refine cw_exit (kw_nx_exit (kw_lq_exit (kw_bl ?_)))
  obtain rfl := sI H1
  exact kw_joinS (js := []) v1 rfl ⟨rfl, rfl, rfl, rfl, trivial⟩ trivial (by decide)
 rintro v1 rfl
 dsimp only
 refine kw_nx (sr (oS rfl (nn (cw_ret ?_))))
 obtain rfl := sI H0
 exact kr Tryd.results53 (rT rfl) [] ⟨rfl, rfl⟩

theorem c_i_Table_find (fl : Nat) (w : World) (a0 : T) (a1 : K) (hn0_0 : n0_0 = (a0.b).length) (hr0_0 : RO w (hkeys []) (RdL p0_0 c0_0 a0.b)) (hn0_1 : n0_1 = (a0.f).length) (hr0_1 : RO w (hkeys []) (RdL p0_1 c0_1 a0.f)) (r : Int) (H0 : i_Table_find fl a0 a1 = some r) :
  Ct Tryd.prog 25 [.agg #[.slice p0_0 n0_0 c0_0, .slice p0_1 n0_1 c0_1], .agg #[.int .i64 a1.s, .int .i64 a1.p]] w [] (fun rv h' => rv = .int .i64 r ∧ h' = []) := by
 subst hn0_0 hn0_1
 unfold i_Table_find at H0
 refine ct_of_cw Tryd.func25 rfl Tryd.ntmps25 rfl (Sat.refl _ _) ?_
 refine sr (oE (stpU_box 0 rfl rfl) rfl ?_)
 rintro _ _ ⟨b1, rfl, rfl⟩
 refine oE (stpU_box 1 rfl rfl) rfl ?_
 rintro _ _ ⟨b2, rfl, rfl⟩
 obtain ⟨x3, e3, H0⟩ := bS H0
 refine oS rfl (nn (sr (oA 1 Tryd.underlying26 rfl ts24 rfl (oL 0 ts24 rfl (oD (stp_makeFunc (yA rfl)) rfl (oE (stpU_call (fun i => 2 + i) cf53 (fun w hw => c_slices_IndexFunc_Frame_of_i_Table_find_1 fl w a0.f b2 a1 rfl (RO.pass hr0_1 hw) (box_pass (id := 1) rfl hw) x3 e3) (yB rfl rfl)) rfl ?_))))))
 rintro _ _ ⟨_, ⟨rfl, rfl⟩, rfl⟩
 refine oS rfl (nn (cw_ret ?_))
 obtain rfl := sI H0
 exact kr Tryd.results25 (rT rfl) [] ⟨rfl, rfl⟩

theorem c_i_SystemValid (fl : Nat) (w : World) (a0 : Sy) (hn0_0 : n0_0 = (a0.t.b).length) (hr0_0 : RO w (hkeys []) (RdL p0_0 c0_0 a0.t.b)) (hn0_1 : n0_1 = (a0.t.f).length) (hr0_1 : RO w (hkeys []) (RdL p0_1 c0_1 a0.t.f)) (hn0_2 : n0_2 = (a0.c).length) (hr0_2 : ROD w (hkeys []) p0_2 c0_2 a0.c) (hg : RO w (hkeys []) (fun w' => w'.rangeAt 0 0 [.bool false, .int .i64 0, .int .i64 0, .int .i64 0, .int .i64 (-1)])) (r : Bool) (H0 : i_SystemValid fl a0 = some r) :
  Ct Tryd.prog 8 [.agg #[.slice p0_0 n0_0 c0_0, .slice p0_1 n0_1 c0_1, .slice p0_2 n0_2 c0_2]] w [] (fun rv h' => rv = .bool r ∧ h' = []) := by
 subst hn0_0 hn0_1 hn0_2
 unfold i_SystemValid at H0
 refine ct_of_cw Tryd.func8 rfl Tryd.ntmps8 rfl (Sat.refl _ _) ?_
 refine sr (oE (stpU_box 0 rfl rfl) rfl ?_)
 rintro _ _ ⟨b1, rfl, rfl⟩
 obtain ⟨x2, e2, H0⟩ := bS H0
 refine oS rfl (nn (cw_seq (sr (oA 0 Tryd.underlying29 rfl ts26 rfl (oB2 0 ts26 rfl (oE (stpU_call (fun i => 1 + i) cf23 (fun w hw => c_i_TableValid fl w a0.t rfl (RO.pass hr0_0 hw) rfl (RO.pass hr0_1 hw) (RO.pass hg hw) x2 e2) (yA rfl)) rfl ?_))))))
 rintro _ _ ⟨_, ⟨rfl, rfl⟩, rfl⟩
 obtain ⟨y3, ey3, H0⟩ := bS H0
 refine oK rfl (oM rfl (ow_cutY 5 20 y3 ?_ ?_))
 ·rcases Bool.eq_false_or_eq_true (!x2) with hy3 | hy3
  ·have ey3 := cond_t ey3 hy3
   refine oO rfl hy3 rfl (oO rfl hy3 rfl (oO rfl hy3 rfl (oO rfl hy3 rfl (oD (stp_pick_t rfl hy3 rfl) rfl ?_))))
   obtain rfl := sI ey3
   exact ow_nil (jy 5 0)
  have ey3 := cond_f ey3 hy3
  refine oG rfl hy3 (fA 2 Tryd.underlying29 rfl ts27 rfl rfl rfl) rfl (oG rfl hy3 (lB 0 ts27 rfl rfl rfl) rfl (oG rfl hy3 (stp_len Tryd.underlying27 rfl) rfl (oG rfl hy3 (stp_lss rfl rfl) rfl (oD (stp_pick_f rfl hy3 rfl) rfl ?_))))
  obtain rfl := sI ey3
  exact ow_nil (jy 5 0)
 obtain ⟨y4, ey4, H0⟩ := bS H0
 refine oM rfl (ow_cutY 5 26 y4 ?_ ?_)
 ·rcases Bool.eq_false_or_eq_true y3 with hy4 | hy4
  ·have ey4 := cond_t ey4 hy4
   refine oO rfl hy4 rfl (oO rfl hy4 rfl (oO rfl hy4 rfl (oO rfl hy4 rfl (oD (stp_pick_t rfl hy4 rfl) rfl ?_))))
   obtain rfl := sI ey4
   exact ow_nil (jy 5 0)
  have ey4 := cond_f ey4 hy4
  refine oG rfl hy4 (fA 2 Tryd.underlying29 rfl ts27 rfl rfl rfl) rfl (oG rfl hy4 (lB 0 ts27 rfl rfl rfl) rfl (oG rfl hy4 (stp_len Tryd.underlying27 rfl) rfl (oG rfl hy4 (stp_gtr rfl rfl) rfl (oD (stp_pick_f rfl hy4 rfl) rfl ?_))))
  obtain rfl := sI ey4
  exact ow_nil (jy 5 0)
 refine ow_nil (kw_nx (cw_cond rfl (fun h5 => ?_) (fun h5 => ?_)))
 ·have H0 := cond_t H0 h5
  refine sr (oS rfl (nn (cw_ret (kw_nx_ret ?_))))
  obtain rfl := sI H0
  exact kr Tryd.results8 (rT rfl) [] ⟨rfl, rfl⟩
 have H0 := cond_f H0 h5
 obtain ⟨o0_0, eo0_0, H0⟩ := bS H0
 refine cw_skip (kw_nx (cw_seq (sr (oA 2 Tryd.underlying29 rfl ts27 rfl (oL 0 ts27 rfl (oD (stp_len Tryd.underlying27 rfl) rfl (oM rfl (nn (cw_join (ι := Int) (fun | v6 => o0_0 = .out v6) (fun | v6 => [(1, .pointer (some ⟨b1, 0, none⟩)), (28, .slice p0_2 ((a0.c).length) c0_2), (29, .int .i64 ((a0.c).length : Int)), (30, .int .i64 v6)]) (fun | v6 => [(0, [(b1, .cells #[.slice p0_0 ((a0.t.b).length) c0_0, .slice p0_1 ((a0.t.f).length) c0_1, .slice p0_2 ((a0.c).length) c0_2] 29 (0, 0))])]) ?_ ?_)))))))))
 ·refine cw_block (cw_loopS (ι := Nat × Int) (js := [0]) (fun x => x.1) (fun | (fuel, v6) => i_SystemValid_L0 fl a0 fuel v6 = some o0_0) (fun | (_, v6) => [(1, .pointer (some ⟨b1, 0, none⟩)), (28, .slice p0_2 ((a0.c).length) c0_2), (29, .int .i64 ((a0.c).length : Int)), (30, .int .i64 v6)]) (fun | (_, v6) => [(0, [(b1, .cells #[.slice p0_0 ((a0.t.b).length) c0_0, .slice p0_1 ((a0.t.f).length) c0_1, .slice p0_2 ((a0.c).length) c0_2] 29 (0, 0))])]) (fl, 0) eo0_0 ⟨rfl, rfl, rfl, rfl, trivial⟩ ⟨0, [], rfl, rfl, trivial⟩ (by decide) ?_)
  rintro ⟨fuel, v6⟩ H1
  have H1 : i_SystemValid_L0 fl a0 fuel v6 = some o0_0 := H1
  rcases fuel with _ | fuel
  ·rw [i_SystemValid_L0.eq_1] at H1; cases H1
  rw [i_SystemValid_L0.eq_2] at H1
  dsimp only
  refine sr (oW rfl (nn (cw_seq (cw_cond rfl (fun h7 => ?_) (fun h7 => ?_)))))
  ·have H1 := cond_t H1 h7
   obtain ⟨x8, e8, H1⟩ := bS H1
   refine cw_skip (kw_nx (cw_seq (cw_block (sr ?_))))
   obtain ⟨u9, p10, n11, c12, p13, n14, c15, hw9, hl9, hx9, rfl, hr9, rfl, hs9⟩ := ROD.get hr0_2 e8
   refine oD (stp_indexAddr Tryd.underlying27 ts43 (by decide) rfl hl9 rfl (Rdb.ro hw9) hx9) rfl (oD (stp_loadN (us := [_, _]) ts43 rfl (Cells.el (Rdb.ro hw9) (by decide) hx9 0 2 rfl)) rfl (oE (stpU_alloc 1 tz43 rfl) rfl ?_))
   rintro _ _ ⟨b16, rfl, rfl⟩
   obtain ⟨x17, e17, H1⟩ := bS H1
   refine oC2 1 ts43 rfl rfl (nn (cw_seq (sr (oA 0 Tryd.underlying43 rfl ts41 rfl (oL 1 ts41 rfl (oE (stpU_call (fun i => 2 + i) cf24 (fun w hw => c_i_each fl w x8.n rfl (RO.pass hr9 hw) x17 e17) (yA rfl)) rfl ?_))))))
   rintro _ _ ⟨_, ⟨rfl, rfl⟩, rfl⟩
   obtain ⟨y18, ey18, H1⟩ := bS H1
   refine oK rfl (oM rfl (ow_cutY 5 43 y18 ?_ ?_))
   ·rcases Bool.eq_false_or_eq_true (!x17) with hy18 | hy18
    ·have ey18 := cond_t ey18 hy18
     refine oO rfl hy18 rfl (oO rfl hy18 rfl (oO rfl hy18 rfl (oO rfl hy18 rfl (oD (stp_pick_t rfl hy18 rfl) rfl ?_))))
     obtain rfl := sI ey18
     exact ow_nil (jy 5 0)
    have ey18 := cond_f ey18 hy18
    obtain ⟨x19, e19, ey18⟩ := bS ey18
    refine oG rfl hy18 (fA 1 Tryd.underlying43 rfl ts41 rfl rfl rfl) rfl (oG rfl hy18 (lB 1 ts41 rfl rfl rfl) rfl (ow_eff (.some rfl hy18) (stpU_call (fun i => 2 + i) cf24 (fun w hw => c_i_each fl w x8.w rfl (RO.pass hs9 hw) x19 e19) (yA rfl)) rfl ?_))
    rintro _ _ ⟨_, ⟨rfl, rfl⟩, rfl⟩
    refine oG rfl hy18 (stp_not rfl) rfl (oD (stp_pick_f rfl hy18 rfl) rfl ?_)
    obtain rfl := sI ey18
    exact ow_nil (jy 5 0)
   refine ow_nil (kw_nx (cw_cond rfl (fun h20 => ?_) (fun h20 => ?_)))
   ·have H1 := cond_t H1 h20
    refine sr (oS rfl (nn (cw_ret (kw_nx_ret (kw_bl_ret (kw_nx_ret (kw_lq_ret (kw_bl_ret (kw_join_ret (kw_nx_ret ?_))))))))))
    obtain rfl := sI H1
    obtain rfl := sI H0
    exact kr Tryd.results8 (rT rfl) [] ⟨rfl, rfl⟩
   have H1 := cond_f H1 h20
   obtain ⟨o1_1, eo1_1, H1⟩ := bS H1
   refine cw_skip (kw_nx (cw_seq (sr (oA 0 Tryd.underlying43 rfl ts41 rfl (oL 1 ts41 rfl (oD (stp_len Tryd.underlying41 rfl) rfl (oM rfl (nn (cw_join (ι := Int) (fun | v21 => o1_1 = .out v21) (fun | v21 => [(1, .pointer (some ⟨b1, 0, none⟩)), (4, .pointer (some ⟨b16, 0, none⟩)), (28, .slice p0_2 ((a0.c).length) c0_2), (29, .int .i64 ((a0.c).length : Int)), (30, .int .i64 v6), (45, .slice p10 ((x8.n).length) c12), (46, .int .i64 ((x8.n).length : Int)), (47, .int .i64 v21)]) (fun | v21 => [(0, [(b1, .cells #[.slice p0_0 ((a0.t.b).length) c0_0, .slice p0_1 ((a0.t.f).length) c0_1, .slice p0_2 ((a0.c).length) c0_2] 29 (0, 0))]), (1, [(b16, .cells #[.slice p10 ((x8.n).length) c12, .slice p13 ((x8.w).length) c15] 43 (0, 0))])]) ?_ ?_)))))))))
   ·refine cw_block (cw_loopS (ι := Nat × Int) (js := [0, 1]) (fun x => x.1) (fun | (fuel, v21) => i_SystemValid_L1 fl a0 x8 fuel v21 = some o1_1) (fun | (_, v21) => [(1, .pointer (some ⟨b1, 0, none⟩)), (4, .pointer (some ⟨b16, 0, none⟩)), (28, .slice p0_2 ((a0.c).length) c0_2), (29, .int .i64 ((a0.c).length : Int)), (30, .int .i64 v6), (45, .slice p10 ((x8.n).length) c12), (46, .int .i64 ((x8.n).length : Int)), (47, .int .i64 v21)]) (fun | (_, v21) => [(0, [(b1, .cells #[.slice p0_0 ((a0.t.b).length) c0_0, .slice p0_1 ((a0.t.f).length) c0_1, .slice p0_2 ((a0.c).length) c0_2] 29 (0, 0))]), (1, [(b16, .cells #[.slice p10 ((x8.n).length) c12, .slice p13 ((x8.w).length) c15] 43 (0, 0))])]) (fl, 0) eo1_1 ⟨rfl, rfl, rfl, rfl, rfl, rfl, rfl, rfl, trivial⟩ ⟨0, [1], rfl, rfl, 1, [], rfl, rfl, trivial⟩ (by decide) ?_)
    rintro ⟨fuel, v21⟩ H2
    have H2 : i_SystemValid_L1 fl a0 x8 fuel v21 = some o1_1 := H2
    rcases fuel with _ | fuel
    ·rw [i_SystemValid_L1.eq_1] at H2; cases H2
    rw [i_SystemValid_L1.eq_2] at H2
    dsimp only
    refine sr (oW rfl (nn (cw_seq (cw_cond rfl (fun h22 => ?_) (fun h22 => ?_)))))
    ·have H2 := cond_t H2 h22
     obtain ⟨x23, e23, H2⟩ := bS H2
     refine cw_skip (kw_nx (cw_seq (cw_block (sr (oD (stp_indexAddr Tryd.underlying41 ts53 (by decide) rfl rfl rfl (Rdb.ro hr9) e23) rfl (oD (stp_loadN (us := [_, _, _]) ts53 rfl (Cells.el (Rdb.ro hr9) (by decide) e23 0 3 rfl)) rfl (oE (stpU_alloc 2 tz53 rfl) rfl ?_)))))))
     rintro _ _ ⟨b24, rfl, rfl⟩
     obtain ⟨x25, e25, H2⟩ := bS H2
     refine oC3 2 ts53 rfl rfl (nn (sr (oA 0 Tryd.underlying29 rfl ts26 rfl (oB2 0 ts26 rfl (oA 0 Tryd.underlying53 rfl ts36 rfl (oB2 2 ts36 rfl (oE (stpU_call (fun i => 3 + i) cf25 (fun w hw => c_i_Table_find fl w a0.t x23.k rfl (RO.pass hr0_0 hw) rfl (RO.pass hr0_1 hw) x25 e25) (yB rfl rfl)) rfl ?_)))))))
     rintro _ _ ⟨_, ⟨rfl, rfl⟩, rfl⟩
     obtain ⟨x26, e26, H2⟩ := bS H2
     refine oS rfl (nn (sr (oA 1 Tryd.underlying43 rfl ts41 rfl (oL 1 ts41 rfl (oA 0 Tryd.underlying53 rfl ts36 rfl (oB2 2 ts36 rfl (oE (stpU_call (fun i => 3 + i) cf26 (fun w hw => c_i_noteOf fl w x8.w x23.k rfl (RO.pass hs9 hw) x26 e26) (yB rfl rfl)) rfl ?_)))))))
     rintro _ _ ⟨_, ⟨rfl, rfl⟩, rfl⟩
     refine oS rfl (nn (sr (oM rfl (oI rfl (nn (cw_cond rfl (fun h27 => ?_) (fun h27 => ?_)))))))
     ·have H2 := cond_t H2 h27
      obtain ⟨x28, e28, H2⟩ := bS H2
      obtain ⟨y29, ey29, H2⟩ := bS H2
      refine cw_seq (cw_join (ι := Unit) (fun | _ => True) (fun | _ => [(1, .pointer (some ⟨b1, 0, none⟩)), (4, .pointer (some ⟨b16, 0, none⟩)), (28, .slice p0_2 ((a0.c).length) c0_2), (29, .int .i64 ((a0.c).length : Int)), (30, .int .i64 v6), (45, .slice p10 ((x8.n).length) c12), (46, .int .i64 ((x8.n).length : Int)), (47, .int .i64 v21), (73, .bool y29)]) (fun | _ => [(0, [(b1, .cells #[.slice p0_0 ((a0.t.b).length) c0_0, .slice p0_1 ((a0.t.f).length) c0_1, .slice p0_2 ((a0.c).length) c0_2] 29 (0, 0))]), (1, [(b16, .cells #[.slice p10 ((x8.n).length) c12, .slice p13 ((x8.w).length) c15] 43 (0, 0))])]) ?_ ?_)
      ·rcases Bool.eq_false_or_eq_true (x28 != x23) with hy29 | hy29
       ·have ey29 := cond_t ey29 hy29
        have qy29 := sI ey29
        refine rdq g_mixed [4, 6, 8] [1, 2] { dst := dS [64, 65, 66, 67, 68, 69, 70, 71, 72, 73, 74], pre := gA [] [[], [0], [], [0, 1, 2], rn 0 4, [], rn 0 6, rn 0 7, rn 0 8, rn 0 9, rn 0 10], ids := fun _ => [], rs := rL [[(4, 0)], [(63, 1)], [(8, 0)], [(64, 2), (65, 3)], [(66, 4)], [(6, 0)], [(67, 5), (68, 6)], [(69, 7)], [(70, 8)], [(70, 8)], [(70, 8), (72, 10)]], rh := rL [[], [(1, 0)], [], [], [], [(2, 0)]], V := fun i g => gA undef [.pointer (some ⟨b16, 1, none⟩), .slice p13 ((x8.w).length) c15, .int .i64 x26, .pointer (some ⟨eB p13, eO p13 + Int.toNat x26 * Enc.sz Nt + 0, none⟩), .agg #[.int .i64 x28.k.s, .int .i64 x28.k.p, .int .i64 x28.fr], .agg #[.int .i64 x23.k.s, .int .i64 x23.k.p, .int .i64 x23.fr], .bool (x28 != x23), .bool (x28 != x23), undef, undef, .bool y29] i, U := fun _ _ => [], Φ := fun _ _ => True } ?_ ?_
        ·exact ⟨lc rfl rfl fun hs hh => stp_fieldAddr (j := 1) Tryd.underlying43 rfl ts41 rfl (sv hs 4 rfl) rfl, lc rfl rfl fun hs hh => stp_load1 ts41 (sv hs 63 rfl) (Cells.box (id := 1) (hh.get 1 _ rfl) 1 rfl), lM, lc rfl rfl fun hs hh => stp_indexAddr Tryd.underlying41 ts53 (by decide) (sv hs 64 rfl) rfl (sv hs 65 rfl) (Rdb.ro hs9) e28, lc rfl rfl fun hs hh => stp_loadN (us := [_, _, _]) ts53 (sv hs 66 rfl) (Cells.el (Rdb.ro hs9) (by decide) e28 0 3 rfl), lc rfl rfl fun hs hh => stp_loadN (us := [_, _, _]) ts53 (sv hs 6 rfl) (Cells.box (id := 2) (hh.get 2 _ rfl) 3 rfl), lc rfl rfl fun hs hh => stp_neqS te53 x28 x23 (sv hs 67 rfl) (sv hs 68 rfl), lM, lo rfl rfl 70 hy29, lo rfl rfl 70 hy29, lc rfl rfl fun hs hh => stp_pick_tB (sv hs 70 rfl) hy29 rfl qy29, trivial⟩
        intro g hΦ
        exact kw_join () trivial ⟨rfl, rfl, rfl, rfl, rfl, rfl, rfl, rfl, rfl, trivial⟩ ⟨rfl, rfl, trivial⟩
       have ey29 := cond_f ey29 hy29
       have qy29 := sI ey29
       refine rdq g_mixed [4, 6, 7, 8] [1, 2] { dst := dS [64, 65, 66, 67, 68, 69, 70, 71, 72, 73, 74], pre := gA [] [[], [0], [], [0, 1, 2], rn 0 4, [], rn 0 6, rn 0 7, rn 0 8, rn 0 9, rn 0 10], ids := fun _ => [], rs := rL [[(4, 0)], [(63, 1)], [(8, 0)], [(64, 2), (65, 3)], [(66, 4)], [(6, 0)], [(67, 5), (68, 6)], [(69, 7)], [(7, 0), (70, 8)], [(71, 9), (70, 8)], [(70, 8), (72, 10)]], rh := rL [[], [(1, 0)], [], [], [], [(2, 0)]], V := fun i g => gA undef [.pointer (some ⟨b16, 1, none⟩), .slice p13 ((x8.w).length) c15, .int .i64 x26, .pointer (some ⟨eB p13, eO p13 + Int.toNat x26 * Enc.sz Nt + 0, none⟩), .agg #[.int .i64 x28.k.s, .int .i64 x28.k.p, .int .i64 x28.fr], .agg #[.int .i64 x23.k.s, .int .i64 x23.k.p, .int .i64 x23.fr], .bool (x28 != x23), .bool (x28 != x23), .int .i64 x25, .bool (decide (0 ≤ x25)), .bool y29] i, U := fun _ _ => [], Φ := fun _ _ => True } ?_ ?_
       ·exact ⟨lc rfl rfl fun hs hh => stp_fieldAddr (j := 1) Tryd.underlying43 rfl ts41 rfl (sv hs 4 rfl) rfl, lc rfl rfl fun hs hh => stp_load1 ts41 (sv hs 63 rfl) (Cells.box (id := 1) (hh.get 1 _ rfl) 1 rfl), lM, lc rfl rfl fun hs hh => stp_indexAddr Tryd.underlying41 ts53 (by decide) (sv hs 64 rfl) rfl (sv hs 65 rfl) (Rdb.ro hs9) e28, lc rfl rfl fun hs hh => stp_loadN (us := [_, _, _]) ts53 (sv hs 66 rfl) (Cells.el (Rdb.ro hs9) (by decide) e28 0 3 rfl), lc rfl rfl fun hs hh => stp_loadN (us := [_, _, _]) ts53 (sv hs 6 rfl) (Cells.box (id := 2) (hh.get 2 _ rfl) 3 rfl), lc rfl rfl fun hs hh => stp_neqS te53 x28 x23 (sv hs 67 rfl) (sv hs 68 rfl), lM, lg rfl rfl 70 hy29 fun hs hh => stp_move (sv hs 7 rfl), lg rfl rfl 70 hy29 fun hs hh => stp_geq (sv hs 71 rfl) rfl, lc rfl rfl fun hs hh => stp_pick_fB (sv hs 70 rfl) hy29 (sv hs 72 rfl) qy29, trivial⟩
       intro g hΦ
       exact kw_join () trivial ⟨rfl, rfl, rfl, rfl, rfl, rfl, rfl, rfl, rfl, trivial⟩ ⟨rfl, rfl, trivial⟩
      rintro _ -
      dsimp only
      refine kw_nx (cw_cond rfl (fun h30 => ?_) (fun h30 => ?_))
      ·have H2 := cond_t H2 h30
       refine sr (oS rfl (nn (cw_ret (kw_bl_ret (kw_nx_ret (kw_lq_ret (kw_bl_ret (kw_join_ret (kw_nx_ret (kw_bl_ret (kw_nx_ret (kw_lq_ret (kw_bl_ret ?_)))))))))))))
       refine kw_join_ret (kw_nx_ret ?_)
       obtain rfl := sI H2
       obtain rfl := sI H1
       obtain rfl := sI H0
       exact kr Tryd.results8 (rT rfl) [] ⟨rfl, rfl⟩
      have H2 := cond_f H2 h30
      obtain ⟨x31, e31, H2⟩ := bS H2
      exact cw_skip (kw_bl_normal (kw_nx (cw_region (oP e31 rfl (oM rfl (ow_nil (kw_lqS (js := [0, 1]) (fuel, x31) H2 (Nat.lt_succ_self _) ⟨rfl, rfl, rfl, rfl, rfl, rfl, rfl, rfl, trivial⟩ ⟨0, [1], rfl, rfl, 1, [], rfl, rfl, trivial⟩ (by decide))))))))
     have H2 := cond_f H2 h27
     obtain ⟨y32, ey32, H2⟩ := bS H2
     refine sr (oM rfl (oW rfl (oM rfl (ow_cutY 5 81 y32 ?_ ?_))))
     ·rcases Bool.eq_false_or_eq_true (decide (x25 < 0)) with hy32 | hy32
      ·have ey32 := cond_t ey32 hy32
       refine oO rfl hy32 rfl (oO rfl hy32 rfl (oO rfl hy32 rfl (oO rfl hy32 rfl (oD (stp_pick_t rfl hy32 rfl) rfl ?_))))
       obtain rfl := sI ey32
       exact ow_nil (jy 5 0)
      have ey32 := cond_f ey32 hy32
      refine oG rfl hy32 (mv rfl) rfl (oG rfl hy32 (fA 2 Tryd.underlying53 rfl ts3 rfl rfl rfl) rfl (oG rfl hy32 (lB 2 ts3 rfl rfl rfl) rfl (oG rfl hy32 (stp_neq rfl rfl) rfl (oD (stp_pick_f rfl hy32 rfl) rfl ?_))))
      obtain rfl := sI ey32
      exact ow_nil (jy 5 0)
     refine ow_nil (kw_nx (cw_cond rfl (fun h33 => ?_) (fun h33 => ?_)))
     ·have H2 := cond_t H2 h33
      refine sr (oS rfl (nn (cw_ret (kw_bl_ret (kw_nx_ret (kw_lq_ret (kw_bl_ret (kw_join_ret (kw_nx_ret (kw_bl_ret (kw_nx_ret (kw_lq_ret (kw_bl_ret ?_)))))))))))))
      refine kw_join_ret (kw_nx_ret ?_)
      obtain rfl := sI H2
      obtain rfl := sI H1
      obtain rfl := sI H0
      exact kr Tryd.results8 (rT rfl) [] ⟨rfl, rfl⟩
     have H2 := cond_f H2 h33
     obtain ⟨x34, e34, H2⟩ := bS H2
     exact cw_skip (kw_bl_normal (kw_nx (cw_region (oP e34 rfl (oM rfl (ow_nil (kw_lqS (js := [0, 1]) (fuel, x34) H2 (Nat.lt_succ_self _) ⟨rfl, rfl, rfl, rfl, rfl, rfl, rfl, rfl, trivial⟩ ⟨0, [1], rfl, rfl, 1, [], rfl, rfl, trivial⟩ (by decide))))))))
    have H2 := cond_f H2 h22
    refine cw_exit (kw_nx_exit (kw_lq_exit (kw_bl ?_)))
    obtain rfl := sI H2
    exact kw_joinS (js := [0, 1]) v21 rfl ⟨rfl, rfl, rfl, rfl, rfl, rfl, rfl, rfl, trivial⟩ ⟨0, [1], rfl, rfl, 1, [], rfl, rfl, trivial⟩ (by decide)
   rintro v21 rfl
   dsimp only
   obtain ⟨o1_2, eo1_2, H1⟩ := bS H1
   refine kw_nx (sr (oA 1 Tryd.underlying43 rfl ts41 rfl (oL 1 ts41 rfl (oD (stp_len Tryd.underlying41 rfl) rfl (oM rfl (nn (cw_join (ι := Int) (fun | v35 => o1_2 = .out v35) (fun | v35 => [(1, .pointer (some ⟨b1, 0, none⟩)), (4, .pointer (some ⟨b16, 0, none⟩)), (28, .slice p0_2 ((a0.c).length) c0_2), (29, .int .i64 ((a0.c).length : Int)), (30, .int .i64 v6), (84, .slice p13 ((x8.w).length) c15), (85, .int .i64 ((x8.w).length : Int)), (86, .int .i64 v35)]) (fun | v35 => [(0, [(b1, .cells #[.slice p0_0 ((a0.t.b).length) c0_0, .slice p0_1 ((a0.t.f).length) c0_1, .slice p0_2 ((a0.c).length) c0_2] 29 (0, 0))]), (1, [(b16, .cells #[.slice p10 ((x8.n).length) c12, .slice p13 ((x8.w).length) c15] 43 (0, 0))])]) ?_ ?_)))))))
   ·refine cw_block (cw_loopS (ι := Nat × Int) (js := [0, 1]) (fun x => x.1) (fun | (fuel, v35) => i_SystemValid_L2 fl a0 x8 fuel v35 = some o1_2) (fun | (_, v35) => [(1, .pointer (some ⟨b1, 0, none⟩)), (4, .pointer (some ⟨b16, 0, none⟩)), (28, .slice p0_2 ((a0.c).length) c0_2), (29, .int .i64 ((a0.c).length : Int)), (30, .int .i64 v6), (84, .slice p13 ((x8.w).length) c15), (85, .int .i64 ((x8.w).length : Int)), (86, .int .i64 v35)]) (fun | (_, v35) => [(0, [(b1, .cells #[.slice p0_0 ((a0.t.b).length) c0_0, .slice p0_1 ((a0.t.f).length) c0_1, .slice p0_2 ((a0.c).length) c0_2] 29 (0, 0))]), (1, [(b16, .cells #[.slice p10 ((x8.n).length) c12, .slice p13 ((x8.w).length) c15] 43 (0, 0))])]) (fl, 0) eo1_2 ⟨rfl, rfl, rfl, rfl, rfl, rfl, rfl, rfl, trivial⟩ ⟨0, [1], rfl, rfl, 1, [], rfl, rfl, trivial⟩ (by decide) ?_)
    rintro ⟨fuel, v35⟩ H2
    have H2 : i_SystemValid_L2 fl a0 x8 fuel v35 = some o1_2 := H2
    rcases fuel with _ | fuel
    ·rw [i_SystemValid_L2.eq_1] at H2; cases H2
    rw [i_SystemValid_L2.eq_2] at H2
    dsimp only
    refine sr (oW rfl (nn (cw_seq (cw_cond rfl (fun h36 => ?_) (fun h36 => ?_)))))
    ·have H2 := cond_t H2 h36
     obtain ⟨x37, e37, H2⟩ := bS H2
     refine cw_skip (kw_nx (cw_seq (cw_block (sr (oD (stp_indexAddr Tryd.underlying41 ts53 (by decide) rfl rfl rfl (Rdb.ro hs9) e37) rfl (oD (stp_loadN (us := [_, _, _]) ts53 rfl (Cells.el (Rdb.ro hs9) (by decide) e37 0 3 rfl)) rfl (oE (stpU_alloc 3 tz53 rfl) rfl ?_)))))))
     rintro _ _ ⟨b38, rfl, rfl⟩
     obtain ⟨x39, e39, H2⟩ := bS H2
     refine oC3 3 ts53 rfl rfl (nn (sr (oA 0 Tryd.underlying43 rfl ts41 rfl (oL 1 ts41 rfl (oA 0 Tryd.underlying53 rfl ts36 rfl (oB2 3 ts36 rfl (oE (stpU_call (fun i => 4 + i) cf26 (fun w hw => c_i_noteOf fl w x8.n x37.k rfl (RO.pass hr9 hw) x39 e39) (yB rfl rfl)) rfl ?_)))))))
     rintro _ _ ⟨_, ⟨rfl, rfl⟩, rfl⟩
     obtain ⟨y40, ey40, H2⟩ := bS H2
     refine oW rfl (oM rfl (ow_cutY 9 105 y40 ?_ ?_))
     ·rcases Bool.eq_false_or_eq_true (decide (x39 < 0)) with hy40 | hy40
      ·have ey40 := cond_t ey40 hy40
       refine oO rfl hy40 rfl (oO rfl hy40 rfl (oO rfl hy40 rfl (oO rfl hy40 rfl (oO rfl hy40 rfl (oO rfl hy40 rfl (oO rfl hy40 rfl (oO rfl hy40 rfl (oD (stp_pick_t rfl hy40 rfl) rfl ?_))))))))
       obtain rfl := sI ey40
       exact ow_nil (jy 9 0)
      have ey40 := cond_f ey40 hy40
      obtain ⟨x41, e41, ey40⟩ := bS ey40
      refine oG rfl hy40 (fA 2 Tryd.underlying53 rfl ts3 rfl rfl rfl) rfl (oG rfl hy40 (lB 3 ts3 rfl rfl rfl) rfl (oG rfl hy40 (fA 0 Tryd.underlying29 rfl ts26 rfl rfl rfl) rfl (oG rfl hy40 (fA 1 Tryd.underlying26 rfl ts24 rfl rfl rfl) rfl (oG rfl hy40 (lB 0 ts24 rfl rfl rfl) rfl (oG rfl hy40 (stp_len Tryd.underlying24 rfl) rfl (ow_eff (.some rfl hy40) (stpU_call (fun i => 4 + i) cf27 (fun w hw => c_i_within fl w x37.fr ((a0.t.f).length : Int) x41 e41) (yB rfl rfl)) rfl ?_))))))
      rintro _ _ ⟨_, ⟨rfl, rfl⟩, rfl⟩
      refine oG rfl hy40 (stp_not rfl) rfl (oD (stp_pick_f rfl hy40 rfl) rfl ?_)
      obtain rfl := sI ey40
      exact ow_nil (jy 9 0)
     obtain ⟨y42, ey42, H2⟩ := bS H2
     refine oM rfl (ow_cutY 9 115 y42 ?_ ?_)
     ·rcases Bool.eq_false_or_eq_true y40 with hy42 | hy42
      ·have ey42 := cond_t ey42 hy42
       refine oO rfl hy42 rfl (oO rfl hy42 rfl (oO rfl hy42 rfl (oO rfl hy42 rfl (oO rfl hy42 rfl (oO rfl hy42 rfl (oO rfl hy42 rfl (oO rfl hy42 rfl (oD (stp_pick_t rfl hy42 rfl) rfl ?_))))))))
       obtain rfl := sI ey42
       exact ow_nil (jy 9 0)
      have ey42 := cond_f ey42 hy42
      obtain ⟨x43, e43, ey42⟩ := bS ey42
      refine oG rfl hy42 (fA 0 Tryd.underlying29 rfl ts26 rfl rfl rfl) rfl (oG rfl hy42 (fA 1 Tryd.underlying26 rfl ts24 rfl rfl rfl) rfl (oG rfl hy42 (lB 0 ts24 rfl rfl rfl) rfl (oG rfl hy42 (fA 2 Tryd.underlying53 rfl ts3 rfl rfl rfl) rfl (oG rfl hy42 (lB 3 ts3 rfl rfl rfl) rfl (oG rfl hy42 (stp_indexAddr Tryd.underlying24 ts61 (by decide) rfl rfl rfl (Rdb.ro hr0_1) e43) rfl (oG rfl hy42 (fA 0 Tryd.underlying61 rfl ts4 rfl rfl rfl) rfl (oG rfl hy42 (stp_load1 ts4 rfl (Cells.el (Rdb.ro hr0_1) (by decide) e43 0 1 rfl)) rfl (oD (stp_pick_f rfl hy42 rfl) rfl ?_))))))))
      obtain rfl := sI ey42
      exact ow_nil (jy 9 0)
     refine ow_nil (kw_nx (cw_cond rfl (fun h44 => ?_) (fun h44 => ?_)))
     ·have H2 := cond_t H2 h44
      refine sr (oS rfl (nn (cw_ret (kw_bl_ret (kw_nx_ret (kw_lq_ret (kw_bl_ret (kw_join_ret (kw_bl_ret (kw_nx_ret (kw_lq_ret (kw_bl_ret (kw_join_ret ?_)))))))))))))
      refine kw_nx_ret ?_
      obtain rfl := sI H2
      obtain rfl := sI H1
      obtain rfl := sI H0
      exact kr Tryd.results8 (rT rfl) [] ⟨rfl, rfl⟩
     have H2 := cond_f H2 h44
     obtain ⟨x45, e45, H2⟩ := bS H2
     exact cw_skip (kw_bl_normal (kw_nx (cw_region (oP e45 rfl (oM rfl (ow_nil (kw_lqS (js := [0, 1]) (fuel, x45) H2 (Nat.lt_succ_self _) ⟨rfl, rfl, rfl, rfl, rfl, rfl, rfl, rfl, trivial⟩ ⟨0, [1], rfl, rfl, 1, [], rfl, rfl, trivial⟩ (by decide))))))))
    have H2 := cond_f H2 h36
    refine cw_exit (kw_nx_exit (kw_lq_exit (kw_bl ?_)))
    obtain rfl := sI H2
    exact kw_joinS (js := [0, 1]) v35 rfl ⟨rfl, rfl, rfl, rfl, rfl, rfl, rfl, rfl, trivial⟩ ⟨0, [1], rfl, rfl, 1, [], rfl, rfl, trivial⟩ (by decide)
   rintro v35 rfl
   dsimp only
   obtain ⟨x46, e46, H1⟩ := bS H1
   exact kw_bl_normal (kw_nx (cw_region (oP e46 rfl (oM rfl (ow_nil (kw_lqS (js := [0]) (fuel, x46) H1 (Nat.lt_succ_self _) ⟨rfl, rfl, rfl, rfl, trivial⟩ ⟨0, [], rfl, rfl, trivial⟩ (by decide)))))))
  have H1 := cond_f H1 h7
  refine cw_exit (kw_nx_exit (kw_lq_exit (kw_bl ?_)))
  obtain rfl := sI H1
  exact kw_joinS (js := [0]) v6 rfl ⟨rfl, rfl, rfl, rfl, trivial⟩ ⟨0, [], rfl, rfl, trivial⟩ (by decide)
 rintro v6 rfl
 dsimp only
 refine kw_nx (sr (oS rfl (nn (cw_ret ?_))))
 obtain rfl := sI H0
 exact kr Tryd.results8 (rT rfl) [] ⟨rfl, rfl⟩

theorem c_l_FnSystemSame (fl : Nat) (w : World) (a0 : (List UInt8)) (hn0_0 : n0_0 = (a0).length) (hr0_0 : RO w (hkeys []) (RdL p0_0 c0_0 a0)) (hg : RO w (hkeys []) (fun w' => w'.rangeAt 0 0 [.bool false, .int .i64 0, .int .i64 0, .int .i64 0, .int .i64 (-1)])) (r : Bool) (H0 : l_FnSystemSame fl a0 = some r) :
  Ct Tryd.prog 3 [.slice p0_0 n0_0 c0_0] w [] (fun rv h' => rv = .bool r ∧ h' = []) := by
 subst hn0_0
 unfold l_FnSystemSame at H0
 refine ct_of_cw Tryd.func3 rfl Tryd.ntmps3 rfl (Sat.refl _ _) ?_
 refine sr (oS rfl (nn (cw_seq (sr (oM rfl (oD (stp_len Tryd.underlying22 rfl) rfl (oJ rfl (nn (cw_cond rfl (fun h1 => ?_) (fun h1 => ?_))))))))))
 ·have H0 := cond_t H0 h1
  refine sr (oS rfl (nn (cw_ret (kw_nx_ret ?_))))
  obtain rfl := sI H0
  exact kr Tryd.results3 (rT rfl) [] ⟨rfl, rfl⟩
 have H0 := cond_f H0 h1
 obtain ⟨x2, e2, H0⟩ := bS H0
 refine cw_skip (kw_nx (sr (oM rfl (oE (stpU_call (fun i => 0 + i) cf5 (fun w hw => c_s_DrawSystemSame fl w a0 rfl (RO.pass hr0_0 hw) x2 e2) (yA rfl)) rfl ?_))))
 rintro _ _ ⟨_, ⟨p3, _, c5, C6, p7, _, c9, C10, p11, _, c13, C14, p15, _, c17, C18, p19, _, c21, C22, p23, _, c25, C26, rfl, rfl, rfl, o6, rfl, o10, rfl, o14, rfl, rfl, rfl, hSh⟩, rfl⟩
 refine oM rfl (oT rfl (oT rfl (oE (stpU_alloc 6 tz29 rfl) rfl ?_)))
 rintro _ _ ⟨b27, rfl, rfl⟩
 refine oE (stpU_alloc 7 tz29 rfl) rfl ?_
 rintro _ _ ⟨b28, rfl, rfl⟩
 obtain ⟨x29, e29, H0⟩ := bS H0
 refine oC3 6 ts29 rfl rfl (oC3 7 ts29 rfl rfl (nn (sr (oB3 6 ts29 rfl (oB3 7 ts29 rfl (oE (stpU_call (fun i => 8 + i) cf6 (fun w hw => c_i_SystemSame fl w x2.1 x2.2 rfl (OwnC.pass (id := 0) rfl o6 hw) rfl (OwnC.pass (id := 1) rfl o10 hw) rfl (OwnD.pass (id := 2) rfl o14 hw) rfl (ShS.p1 (id := 3) (id0 := 0) rfl rfl hSh o6 hw) rfl (ShS.p2 (id := 4) (id0 := 1) rfl rfl hSh o10 hw) rfl (ShS.p3 (id := 5) (id0 := 2) rfl rfl hSh o14 hw) x29 e29) (yB rfl rfl)) rfl ?_))))))
 rintro _ _ ⟨_, ⟨rfl, rfl⟩, rfl⟩
 obtain ⟨x30, e30, H0⟩ := bS H0
 obtain ⟨y31, ey31, H0⟩ := bS H0
 obtain ⟨y33, ey33, H0⟩ := bS H0
 obtain ⟨y35, ey35, H0⟩ := bS H0
 refine oS rfl (nn (cw_seq (cw_join (ι := Unit) (fun | _ => True) (fun | _ => [(2, .bool y35)]) (fun | _ => []) ?_ ?_)))
 ·rcases Bool.eq_false_or_eq_true (x29 == x30) with hy31 | hy31
  ·have ey31 := cond_t ey31 hy31
   obtain ⟨x32, e32, ey31⟩ := bS ey31
   have qy31 := sI ey31
   rcases Bool.eq_false_or_eq_true y31 with hy33 | hy33
   ·have ey33 := cond_t ey33 hy33
    obtain ⟨x34, e34, ey33⟩ := bS ey33
    have qy33 := sI ey33
    rcases Bool.eq_false_or_eq_true y33 with hy35 | hy35
    ·have ey35 := cond_t ey35 hy35
     obtain ⟨y36, ey36, ey35⟩ := bS ey35
     rcases Bool.eq_false_or_eq_true (!x29) with hy36 | hy36
     ·have ey36 := cond_t ey36 hy36
      have qy36 := sI ey36
      have qy35 := sI ey35
      refine rdq g_mixed [3, 4, 5] [0, 1, 2, 3, 4, 5, 6, 7] { dst := dS [18, 19, 20, 21, 22, 23, 24, 25, 26, 27, 28, 29, 30, 31, 32, 33, 34, 35, 36, 37, 38, 39, 40, 41, 42, 43, 44, 45, 3], pre := gA [] [[], [], [], [1, 2], rn 0 4, rn 0 5, rn 0 6, rn 0 6, rn 0 6, [0, 1, 2, 3, 4, 5, 7, 8], rn 0 10, rn 0 11, rn 0 12, rn 0 13, rn 0 13, rn 0 15, rn 0 16, rn 0 17, rn 0 18, rn 0 19, rn 0 20, rn 0 21, rn 0 22, rn 0 21, rn 0 24, rn 0 25, rn 0 26, rn 0 27, rn 0 28], ids := fun _ => [], rs := rL [[(5, 0)], [(3, 0)], [(4, 0)], [(18, 2), (19, 3)], [(17, 1), (20, 4)], [(21, 5)], [(5, 0), (22, 6)], [(4, 0), (22, 6)], [(3, 0), (22, 6)], [(24, 8), (25, 9), (22, 6)], [(23, 7), (26, 10), (22, 6)], [(22, 6), (27, 11)], [(28, 12)], [(3, 0), (29, 13)], [(3, 0), (29, 13)], [(30, 14), (31, 15), (29, 13)], [(29, 13), (32, 16)], [(33, 17)], [(5, 0), (34, 18)], [(35, 19), (34, 18)], [(36, 20), (34, 18)], [(37, 21)], [(37, 21)], [(37, 21)], [(37, 21)], [(37, 21)], [(37, 21), (42, 26), (34, 18)], [(34, 18), (43, 27)], [(44, 28)]], rh := rL [[], [(6, 0)], [(7, 0)], [(0, 0), (1, 0), (2, 0), (3, 0), (4, 0), (5, 0)], [], [], [], [(7, 0)], [(6, 0)], [(0, 0), (1, 0), (2, 0), (3, 0), (4, 0), (5, 0)], [], [], [], [(6, 0)], [(6, 0)], [(0, 0), (1, 0), (2, 0)]], V := fun i g => gA undef [.bool x29, .agg #[.slice p3 ((x2.1.t.b).length) c5, .slice p7 ((x2.1.t.f).length) c9, .slice p11 ((x2.1.c).length) c13], .agg #[.slice p15 ((x2.2.t.b).length) c17, .slice p19 ((x2.2.t.f).length) c21, .slice p23 ((x2.2.c).length) c25], .bool x30, .bool (x29 == x30), .bool (x29 == x30), .bool x29, .agg #[.slice p15 ((x2.2.t.b).length) c17, .slice p19 ((x2.2.t.f).length) c21, .slice p23 ((x2.2.c).length) c25], .agg #[.slice p3 ((x2.1.t.b).length) c5, .slice p7 ((x2.1.t.f).length) c9, .slice p11 ((x2.1.c).length) c13], .bool x32, .bool (x29 == x32), .bool y31, .bool y31, .agg #[.slice p3 ((x2.1.t.b).length) c5, .slice p7 ((x2.1.t.f).length) c9, .slice p11 ((x2.1.c).length) c13], .agg #[.slice p3 ((x2.1.t.b).length) c5, .slice p7 ((x2.1.t.f).length) c9, .slice p11 ((x2.1.c).length) c13], .bool x34, .bool y33, .bool y33, .bool x29, .bool (!x29), .bool (!x29), undef, undef, undef, undef, undef, .bool y36, .bool y35, .bool y35] i, U := fun _ _ => [], Φ := fun _ _ => True } ?_ ?_
      ·refine ⟨lM, lc rfl rfl fun hs hh => stp_loadN (us := [_, _, _]) ts29 (sv hs 3 rfl) (Cells.box (id := 6) (hh.get 6 _ rfl) 3 rfl), lc rfl rfl fun hs hh => stp_loadN (us := [_, _, _]) ts29 (sv hs 4 rfl) (Cells.box (id := 7) (hh.get 7 _ rfl) 3 rfl), ?_, lc rfl rfl fun hs hh => stp_eqlB Tryd.underlying4 (sv hs 17 rfl) (sv hs 20 rfl), lM, lg rfl rfl 22 hy31 fun hs hh => stp_move (sv hs 5 rfl), lg rfl rfl 22 hy31 fun hs hh => stp_loadN (us := [_, _, _]) ts29 (sv hs 4 rfl) (Cells.box (id := 7) (hh.get 7 _ rfl) 3 rfl), lg rfl rfl 22 hy31 fun hs hh => stp_loadN (us := [_, _, _]) ts29 (sv hs 3 rfl) (Cells.box (id := 6) (hh.get 6 _ rfl) 3 rfl), ?_, lg rfl rfl 22 hy31 fun hs hh => stp_eqlB Tryd.underlying4 (sv hs 23 rfl) (sv hs 26 rfl), lc rfl rfl fun hs hh => stp_pick_tB (sv hs 22 rfl) hy31 (sv hs 27 rfl) qy31, lM, lg rfl rfl 29 hy33 fun hs hh => stp_loadN (us := [_, _, _]) ts29 (sv hs 3 rfl) (Cells.box (id := 6) (hh.get 6 _ rfl) 3 rfl), lg rfl rfl 29 hy33 fun hs hh => stp_loadN (us := [_, _, _]) ts29 (sv hs 3 rfl) (Cells.box (id := 6) (hh.get 6 _ rfl) 3 rfl), ?_, lc rfl rfl fun hs hh => stp_pick_tB (sv hs 29 rfl) hy33 (sv hs 32 rfl) qy33, lM, lg rfl rfl 34 hy35 fun hs hh => stp_move (sv hs 5 rfl), lg rfl rfl 34 hy35 fun hs hh => stp_not (sv hs 35 rfl), lg rfl rfl 34 hy35 fun hs hh => stp_move (sv hs 36 rfl), lo rfl rfl 37 hy36, lo rfl rfl 37 hy36, lo rfl rfl 37 hy36, lo rfl rfl 37 hy36, lo rfl rfl 37 hy36, lg rfl rfl 34 hy35 fun hs hh => stp_pick_tB (sv hs 37 rfl) hy36 rfl qy36, lc rfl rfl fun hs hh => stp_pick_tB (sv hs 34 rfl) hy35 (sv hs 43 rfl) qy35, lS, trivial⟩
       ·refine le rfl rfl (fun g hΦ s h hs hh => (stpU_call (fun i => 8 + i) cf7 (fun w hw => c_s_SystemSame fl w x2.1 x2.2 rfl (OwnC.pass (id := 0) (hh.get 0 _ rfl) o6 hw) rfl (OwnC.pass (id := 1) (hh.get 1 _ rfl) o10 hw) rfl (OwnD.pass (id := 2) (hh.get 2 _ rfl) o14 hw) rfl (ShS.p1 (id := 3) (id0 := 0) (hh.get 3 _ rfl) (hh.get 0 _ rfl) hSh o6 hw) rfl (ShS.p2 (id := 4) (id0 := 1) (hh.get 4 _ rfl) (hh.get 1 _ rfl) hSh o10 hw) rfl (ShS.p3 (id := 5) (id0 := 2) (hh.get 5 _ rfl) (hh.get 2 _ rfl) hSh o14 hw) x30 e30) (yB (sv hs 18 rfl) (sv hs 19 rfl)))) ?_
        rintro g _ _ ⟨_, ⟨rfl, rfl⟩, rfl⟩
        exact ⟨⟨[], [], []⟩, trivial, .inr rfl, rfl⟩
       ·refine loc_eff rfl rfl (fun g hΦ s h hs hh => ⟨(.some (gval_of rfl (sv hs 22 rfl)) hy31), (stpU_call (fun i => 8 + i) cf6 (fun w hw => c_i_SystemSame fl w x2.2 x2.1 rfl (ShS.p1 (id := 3) (id0 := 0) (hh.get 3 _ rfl) (hh.get 0 _ rfl) hSh o6 hw) rfl (ShS.p2 (id := 4) (id0 := 1) (hh.get 4 _ rfl) (hh.get 1 _ rfl) hSh o10 hw) rfl (ShS.p3 (id := 5) (id0 := 2) (hh.get 5 _ rfl) (hh.get 2 _ rfl) hSh o14 hw) rfl (OwnC.pass (id := 0) (hh.get 0 _ rfl) o6 hw) rfl (OwnC.pass (id := 1) (hh.get 1 _ rfl) o10 hw) rfl (OwnD.pass (id := 2) (hh.get 2 _ rfl) o14 hw) x32 e32) (yB (sv hs 24 rfl) (sv hs 25 rfl)))⟩) ?_
        rintro g _ _ ⟨_, ⟨rfl, rfl⟩, rfl⟩
        exact ⟨⟨[], [], []⟩, trivial, .inr rfl, rfl⟩
       refine loc_eff rfl rfl (fun g hΦ s h hs hh => ⟨(.some (gval_of rfl (sv hs 29 rfl)) hy33), (stpU_call (fun i => 8 + i) cf6 (fun w hw => c_i_SystemSame fl w x2.1 x2.1 rfl (OwnC.pass (id := 0) (hh.get 0 _ rfl) o6 hw) rfl (OwnC.pass (id := 1) (hh.get 1 _ rfl) o10 hw) rfl (OwnD.pass (id := 2) (hh.get 2 _ rfl) o14 hw) rfl (OwnC.pass (id := 0) (hh.get 0 _ rfl) o6 hw) rfl (OwnC.pass (id := 1) (hh.get 1 _ rfl) o10 hw) rfl (OwnD.pass (id := 2) (hh.get 2 _ rfl) o14 hw) x34 e34) (yB (sv hs 30 rfl) (sv hs 31 rfl)))⟩) ?_
       rintro g _ _ ⟨_, ⟨rfl, rfl⟩, rfl⟩
       exact ⟨⟨[], [], []⟩, trivial, .inr rfl, rfl⟩
      intro g hΦ
      exact kw_join () trivial ⟨rfl, trivial⟩ trivial
     have ey36 := cond_f ey36 hy36
     obtain ⟨x37, e37, ey36⟩ := bS ey36
     obtain ⟨x38, e38, ey36⟩ := bS ey36
     have qy36 := sI ey36
     have qy35 := sI ey35
     refine rdq g_mixed [3, 4, 5] [0, 1, 2, 3, 4, 5, 6, 7] { dst := dS [18, 19, 20, 21, 22, 23, 24, 25, 26, 27, 28, 29, 30, 31, 32, 33, 34, 35, 36, 37, 38, 39, 40, 41, 42, 43, 44, 45, 3], pre := gA [] [[], [], [], [1, 2], rn 0 4, rn 0 5, rn 0 6, rn 0 6, rn 0 6, [0, 1, 2, 3, 4, 5, 7, 8], rn 0 10, rn 0 11, rn 0 12, rn 0 13, rn 0 13, rn 0 15, rn 0 16, rn 0 17, rn 0 18, rn 0 19, rn 0 20, rn 0 21, rn 0 22, rn 0 21, rn 0 24, rn 0 25, rn 0 26, rn 0 27, rn 0 28], ids := fun _ => [], rs := rL [[(5, 0)], [(3, 0)], [(4, 0)], [(18, 2), (19, 3)], [(17, 1), (20, 4)], [(21, 5)], [(5, 0), (22, 6)], [(4, 0), (22, 6)], [(3, 0), (22, 6)], [(24, 8), (25, 9), (22, 6)], [(23, 7), (26, 10), (22, 6)], [(22, 6), (27, 11)], [(28, 12)], [(3, 0), (29, 13)], [(3, 0), (29, 13)], [(30, 14), (31, 15), (29, 13)], [(29, 13), (32, 16)], [(33, 17)], [(5, 0), (34, 18)], [(35, 19), (34, 18)], [(36, 20), (34, 18)], [(3, 0), (37, 21)], [(38, 22), (37, 21)], [(4, 0), (37, 21)], [(40, 24), (37, 21)], [(39, 23), (41, 25), (37, 21)], [(37, 21), (42, 26), (34, 18)], [(34, 18), (43, 27)], [(44, 28)]], rh := rL [[], [(6, 0)], [(7, 0)], [(0, 0), (1, 0), (2, 0), (3, 0), (4, 0), (5, 0)], [], [], [], [(7, 0)], [(6, 0)], [(0, 0), (1, 0), (2, 0), (3, 0), (4, 0), (5, 0)], [], [], [], [(6, 0)], [(6, 0)], [(0, 0), (1, 0), (2, 0)], [], [], [], [], [], [(6, 0)], [(0, 0), (1, 0), (2, 0)], [(7, 0)], [(0, 0), (1, 0), (2, 0), (3, 0), (4, 0), (5, 0)]], V := fun i g => gA undef [.bool x29, .agg #[.slice p3 ((x2.1.t.b).length) c5, .slice p7 ((x2.1.t.f).length) c9, .slice p11 ((x2.1.c).length) c13], .agg #[.slice p15 ((x2.2.t.b).length) c17, .slice p19 ((x2.2.t.f).length) c21, .slice p23 ((x2.2.c).length) c25], .bool x30, .bool (x29 == x30), .bool (x29 == x30), .bool x29, .agg #[.slice p15 ((x2.2.t.b).length) c17, .slice p19 ((x2.2.t.f).length) c21, .slice p23 ((x2.2.c).length) c25], .agg #[.slice p3 ((x2.1.t.b).length) c5, .slice p7 ((x2.1.t.f).length) c9, .slice p11 ((x2.1.c).length) c13], .bool x32, .bool (x29 == x32), .bool y31, .bool y31, .agg #[.slice p3 ((x2.1.t.b).length) c5, .slice p7 ((x2.1.t.f).length) c9, .slice p11 ((x2.1.c).length) c13], .agg #[.slice p3 ((x2.1.t.b).length) c5, .slice p7 ((x2.1.t.f).length) c9, .slice p11 ((x2.1.c).length) c13], .bool x34, .bool y33, .bool y33, .bool x29, .bool (!x29), .bool (!x29), .agg #[.slice p3 ((x2.1.t.b).length) c5, .slice p7 ((x2.1.t.f).length) c9, .slice p11 ((x2.1.c).length) c13], .bool x37, .agg #[.slice p15 ((x2.2.t.b).length) c17, .slice p19 ((x2.2.t.f).length) c21, .slice p23 ((x2.2.c).length) c25], .bool x38, .bool (x37 == x38), .bool y36, .bool y35, .bool y35] i, U := fun _ _ => [], Φ := fun _ _ => True } ?_ ?_
     ·refine ⟨lM, lc rfl rfl fun hs hh => stp_loadN (us := [_, _, _]) ts29 (sv hs 3 rfl) (Cells.box (id := 6) (hh.get 6 _ rfl) 3 rfl), lc rfl rfl fun hs hh => stp_loadN (us := [_, _, _]) ts29 (sv hs 4 rfl) (Cells.box (id := 7) (hh.get 7 _ rfl) 3 rfl), ?_, lc rfl rfl fun hs hh => stp_eqlB Tryd.underlying4 (sv hs 17 rfl) (sv hs 20 rfl), lM, lg rfl rfl 22 hy31 fun hs hh => stp_move (sv hs 5 rfl), lg rfl rfl 22 hy31 fun hs hh => stp_loadN (us := [_, _, _]) ts29 (sv hs 4 rfl) (Cells.box (id := 7) (hh.get 7 _ rfl) 3 rfl), lg rfl rfl 22 hy31 fun hs hh => stp_loadN (us := [_, _, _]) ts29 (sv hs 3 rfl) (Cells.box (id := 6) (hh.get 6 _ rfl) 3 rfl), ?_, lg rfl rfl 22 hy31 fun hs hh => stp_eqlB Tryd.underlying4 (sv hs 23 rfl) (sv hs 26 rfl), lc rfl rfl fun hs hh => stp_pick_tB (sv hs 22 rfl) hy31 (sv hs 27 rfl) qy31, lM, lg rfl rfl 29 hy33 fun hs hh => stp_loadN (us := [_, _, _]) ts29 (sv hs 3 rfl) (Cells.box (id := 6) (hh.get 6 _ rfl) 3 rfl), lg rfl rfl 29 hy33 fun hs hh => stp_loadN (us := [_, _, _]) ts29 (sv hs 3 rfl) (Cells.box (id := 6) (hh.get 6 _ rfl) 3 rfl), ?_, lc rfl rfl fun hs hh => stp_pick_tB (sv hs 29 rfl) hy33 (sv hs 32 rfl) qy33, lM, lg rfl rfl 34 hy35 fun hs hh => stp_move (sv hs 5 rfl), lg rfl rfl 34 hy35 fun hs hh => stp_not (sv hs 35 rfl), lg rfl rfl 34 hy35 fun hs hh => stp_move (sv hs 36 rfl), lg rfl rfl 37 hy36 fun hs hh => stp_loadN (us := [_, _, _]) ts29 (sv hs 3 rfl) (Cells.box (id := 6) (hh.get 6 _ rfl) 3 rfl), ?_, lg rfl rfl 37 hy36 fun hs hh => stp_loadN (us := [_, _, _]) ts29 (sv hs 4 rfl) (Cells.box (id := 7) (hh.get 7 _ rfl) 3 rfl), ?_, lg rfl rfl 37 hy36 fun hs hh => stp_eqlB Tryd.underlying4 (sv hs 39 rfl) (sv hs 41 rfl), lg rfl rfl 34 hy35 fun hs hh => stp_pick_fB (sv hs 37 rfl) hy36 (sv hs 42 rfl) qy36, lc rfl rfl fun hs hh => stp_pick_tB (sv hs 34 rfl) hy35 (sv hs 43 rfl) qy35, lS, trivial⟩
      ·refine le rfl rfl (fun g hΦ s h hs hh => (stpU_call (fun i => 8 + i) cf7 (fun w hw => c_s_SystemSame fl w x2.1 x2.2 rfl (OwnC.pass (id := 0) (hh.get 0 _ rfl) o6 hw) rfl (OwnC.pass (id := 1) (hh.get 1 _ rfl) o10 hw) rfl (OwnD.pass (id := 2) (hh.get 2 _ rfl) o14 hw) rfl (ShS.p1 (id := 3) (id0 := 0) (hh.get 3 _ rfl) (hh.get 0 _ rfl) hSh o6 hw) rfl (ShS.p2 (id := 4) (id0 := 1) (hh.get 4 _ rfl) (hh.get 1 _ rfl) hSh o10 hw) rfl (ShS.p3 (id := 5) (id0 := 2) (hh.get 5 _ rfl) (hh.get 2 _ rfl) hSh o14 hw) x30 e30) (yB (sv hs 18 rfl) (sv hs 19 rfl)))) ?_
       rintro g _ _ ⟨_, ⟨rfl, rfl⟩, rfl⟩
       exact ⟨⟨[], [], []⟩, trivial, .inr rfl, rfl⟩
      ·refine loc_eff rfl rfl (fun g hΦ s h hs hh => ⟨(.some (gval_of rfl (sv hs 22 rfl)) hy31), (stpU_call (fun i => 8 + i) cf6 (fun w hw => c_i_SystemSame fl w x2.2 x2.1 rfl (ShS.p1 (id := 3) (id0 := 0) (hh.get 3 _ rfl) (hh.get 0 _ rfl) hSh o6 hw) rfl (ShS.p2 (id := 4) (id0 := 1) (hh.get 4 _ rfl) (hh.get 1 _ rfl) hSh o10 hw) rfl (ShS.p3 (id := 5) (id0 := 2) (hh.get 5 _ rfl) (hh.get 2 _ rfl) hSh o14 hw) rfl (OwnC.pass (id := 0) (hh.get 0 _ rfl) o6 hw) rfl (OwnC.pass (id := 1) (hh.get 1 _ rfl) o10 hw) rfl (OwnD.pass (id := 2) (hh.get 2 _ rfl) o14 hw) x32 e32) (yB (sv hs 24 rfl) (sv hs 25 rfl)))⟩) ?_
       rintro g _ _ ⟨_, ⟨rfl, rfl⟩, rfl⟩
       exact ⟨⟨[], [], []⟩, trivial, .inr rfl, rfl⟩
      ·refine loc_eff rfl rfl (fun g hΦ s h hs hh => ⟨(.some (gval_of rfl (sv hs 29 rfl)) hy33), (stpU_call (fun i => 8 + i) cf6 (fun w hw => c_i_SystemSame fl w x2.1 x2.1 rfl (OwnC.pass (id := 0) (hh.get 0 _ rfl) o6 hw) rfl (OwnC.pass (id := 1) (hh.get 1 _ rfl) o10 hw) rfl (OwnD.pass (id := 2) (hh.get 2 _ rfl) o14 hw) rfl (OwnC.pass (id := 0) (hh.get 0 _ rfl) o6 hw) rfl (OwnC.pass (id := 1) (hh.get 1 _ rfl) o10 hw) rfl (OwnD.pass (id := 2) (hh.get 2 _ rfl) o14 hw) x34 e34) (yB (sv hs 30 rfl) (sv hs 31 rfl)))⟩) ?_
       rintro g _ _ ⟨_, ⟨rfl, rfl⟩, rfl⟩
       exact ⟨⟨[], [], []⟩, trivial, .inr rfl, rfl⟩
      ·refine loc_eff rfl rfl (fun g hΦ s h hs hh => ⟨(.some (gval_of rfl (sv hs 37 rfl)) hy36), (stpU_call (fun i => 8 + i) cf8 (fun w hw => c_i_SystemValid fl w x2.1 rfl (OwnC.pass (id := 0) (hh.get 0 _ rfl) o6 hw) rfl (OwnC.pass (id := 1) (hh.get 1 _ rfl) o10 hw) rfl (OwnD.pass (id := 2) (hh.get 2 _ rfl) o14 hw) (RO.pass hg hw) x37 e37) (yA (sv hs 38 rfl)))⟩) ?_
       rintro g _ _ ⟨_, ⟨rfl, rfl⟩, rfl⟩
       exact ⟨⟨[], [], []⟩, trivial, .inr rfl, rfl⟩
      refine loc_eff rfl rfl (fun g hΦ s h hs hh => ⟨(.some (gval_of rfl (sv hs 37 rfl)) hy36), (stpU_call (fun i => 8 + i) cf8 (fun w hw => c_i_SystemValid fl w x2.2 rfl (ShS.p1 (id := 3) (id0 := 0) (hh.get 3 _ rfl) (hh.get 0 _ rfl) hSh o6 hw) rfl (ShS.p2 (id := 4) (id0 := 1) (hh.get 4 _ rfl) (hh.get 1 _ rfl) hSh o10 hw) rfl (ShS.p3 (id := 5) (id0 := 2) (hh.get 5 _ rfl) (hh.get 2 _ rfl) hSh o14 hw) (RO.pass hg hw) x38 e38) (yA (sv hs 40 rfl)))⟩) ?_
      rintro g _ _ ⟨_, ⟨rfl, rfl⟩, rfl⟩
      exact ⟨⟨[], [], []⟩, trivial, .inr rfl, rfl⟩
     intro g hΦ
     exact kw_join () trivial ⟨rfl, trivial⟩ trivial
    have ey35 := cond_f ey35 hy35
    have qy35 := sI ey35
    refine rdq g_mixed [3, 4, 5] [0, 1, 2, 3, 4, 5, 6, 7] { dst := dS [18, 19, 20, 21, 22, 23, 24, 25, 26, 27, 28, 29, 30, 31, 32, 33, 34, 35, 36, 37, 38, 39, 40, 41, 42, 43, 44, 45, 3], pre := gA [] [[], [], [], [1, 2], rn 0 4, rn 0 5, rn 0 6, rn 0 6, rn 0 6, [0, 1, 2, 3, 4, 5, 7, 8], rn 0 10, rn 0 11, rn 0 12, rn 0 13, rn 0 13, rn 0 15, rn 0 16, rn 0 17, rn 0 18, rn 0 19, rn 0 20, rn 0 21, rn 0 22, rn 0 21, rn 0 24, rn 0 25, rn 0 26, rn 0 27, rn 0 28], ids := fun _ => [], rs := rL [[(5, 0)], [(3, 0)], [(4, 0)], [(18, 2), (19, 3)], [(17, 1), (20, 4)], [(21, 5)], [(5, 0), (22, 6)], [(4, 0), (22, 6)], [(3, 0), (22, 6)], [(24, 8), (25, 9), (22, 6)], [(23, 7), (26, 10), (22, 6)], [(22, 6), (27, 11)], [(28, 12)], [(3, 0), (29, 13)], [(3, 0), (29, 13)], [(30, 14), (31, 15), (29, 13)], [(29, 13), (32, 16)], [(33, 17)], [(34, 18)], [(34, 18)], [(34, 18)], [(37, 21)], [(37, 21)], [(37, 21)], [(37, 21)], [(37, 21)], [(34, 18)], [(34, 18), (43, 27)], [(44, 28)]], rh := rL [[], [(6, 0)], [(7, 0)], [(0, 0), (1, 0), (2, 0), (3, 0), (4, 0), (5, 0)], [], [], [], [(7, 0)], [(6, 0)], [(0, 0), (1, 0), (2, 0), (3, 0), (4, 0), (5, 0)], [], [], [], [(6, 0)], [(6, 0)], [(0, 0), (1, 0), (2, 0)]], V := fun i g => gA undef [.bool x29, .agg #[.slice p3 ((x2.1.t.b).length) c5, .slice p7 ((x2.1.t.f).length) c9, .slice p11 ((x2.1.c).length) c13], .agg #[.slice p15 ((x2.2.t.b).length) c17, .slice p19 ((x2.2.t.f).length) c21, .slice p23 ((x2.2.c).length) c25], .bool x30, .bool (x29 == x30), .bool (x29 == x30), .bool x29, .agg #[.slice p15 ((x2.2.t.b).length) c17, .slice p19 ((x2.2.t.f).length) c21, .slice p23 ((x2.2.c).length) c25], .agg #[.slice p3 ((x2.1.t.b).length) c5, .slice p7 ((x2.1.t.f).length) c9, .slice p11 ((x2.1.c).length) c13], .bool x32, .bool (x29 == x32), .bool y31, .bool y31, .agg #[.slice p3 ((x2.1.t.b).length) c5, .slice p7 ((x2.1.t.f).length) c9, .slice p11 ((x2.1.c).length) c13], .agg #[.slice p3 ((x2.1.t.b).length) c5, .slice p7 ((x2.1.t.f).length) c9, .slice p11 ((x2.1.c).length) c13], .bool x34, .bool y33, .bool y33, undef, undef, undef, undef, undef, undef, undef, undef, undef, .bool y35, .bool y35] i, U := fun _ _ => [], Φ := fun _ _ => True } ?_ ?_
    ·refine ⟨lM, lc rfl rfl fun hs hh => stp_loadN (us := [_, _, _]) ts29 (sv hs 3 rfl) (Cells.box (id := 6) (hh.get 6 _ rfl) 3 rfl), lc rfl rfl fun hs hh => stp_loadN (us := [_, _, _]) ts29 (sv hs 4 rfl) (Cells.box (id := 7) (hh.get 7 _ rfl) 3 rfl), ?_, lc rfl rfl fun hs hh => stp_eqlB Tryd.underlying4 (sv hs 17 rfl) (sv hs 20 rfl), lM, lg rfl rfl 22 hy31 fun hs hh => stp_move (sv hs 5 rfl), lg rfl rfl 22 hy31 fun hs hh => stp_loadN (us := [_, _, _]) ts29 (sv hs 4 rfl) (Cells.box (id := 7) (hh.get 7 _ rfl) 3 rfl), lg rfl rfl 22 hy31 fun hs hh => stp_loadN (us := [_, _, _]) ts29 (sv hs 3 rfl) (Cells.box (id := 6) (hh.get 6 _ rfl) 3 rfl), ?_, lg rfl rfl 22 hy31 fun hs hh => stp_eqlB Tryd.underlying4 (sv hs 23 rfl) (sv hs 26 rfl), lc rfl rfl fun hs hh => stp_pick_tB (sv hs 22 rfl) hy31 (sv hs 27 rfl) qy31, lM, lg rfl rfl 29 hy33 fun hs hh => stp_loadN (us := [_, _, _]) ts29 (sv hs 3 rfl) (Cells.box (id := 6) (hh.get 6 _ rfl) 3 rfl), lg rfl rfl 29 hy33 fun hs hh => stp_loadN (us := [_, _, _]) ts29 (sv hs 3 rfl) (Cells.box (id := 6) (hh.get 6 _ rfl) 3 rfl), ?_, lc rfl rfl fun hs hh => stp_pick_tB (sv hs 29 rfl) hy33 (sv hs 32 rfl) qy33, lM, lo rfl rfl 34 hy35, lo rfl rfl 34 hy35, lo rfl rfl 34 hy35, lx rfl rfl 37, lx rfl rfl 37, lx rfl rfl 37, lx rfl rfl 37, lx rfl rfl 37, lo rfl rfl 34 hy35, lc rfl rfl fun hs hh => stp_pick_fB (sv hs 34 rfl) hy35 rfl qy35, lS, trivial⟩
     ·refine le rfl rfl (fun g hΦ s h hs hh => (stpU_call (fun i => 8 + i) cf7 (fun w hw => c_s_SystemSame fl w x2.1 x2.2 rfl (OwnC.pass (id := 0) (hh.get 0 _ rfl) o6 hw) rfl (OwnC.pass (id := 1) (hh.get 1 _ rfl) o10 hw) rfl (OwnD.pass (id := 2) (hh.get 2 _ rfl) o14 hw) rfl (ShS.p1 (id := 3) (id0 := 0) (hh.get 3 _ rfl) (hh.get 0 _ rfl) hSh o6 hw) rfl (ShS.p2 (id := 4) (id0 := 1) (hh.get 4 _ rfl) (hh.get 1 _ rfl) hSh o10 hw) rfl (ShS.p3 (id := 5) (id0 := 2) (hh.get 5 _ rfl) (hh.get 2 _ rfl) hSh o14 hw) x30 e30) (yB (sv hs 18 rfl) (sv hs 19 rfl)))) ?_
      rintro g _ _ ⟨_, ⟨rfl, rfl⟩, rfl⟩
      exact ⟨⟨[], [], []⟩, trivial, .inr rfl, rfl⟩
     ·refine loc_eff rfl rfl (fun g hΦ s h hs hh => ⟨(.some (gval_of rfl (sv hs 22 rfl)) hy31), (stpU_call (fun i => 8 + i) cf6 (fun w hw => c_i_SystemSame fl w x2.2 x2.1 rfl (ShS.p1 (id := 3) (id0 := 0) (hh.get 3 _ rfl) (hh.get 0 _ rfl) hSh o6 hw) rfl (ShS.p2 (id := 4) (id0 := 1) (hh.get 4 _ rfl) (hh.get 1 _ rfl) hSh o10 hw) rfl (ShS.p3 (id := 5) (id0 := 2) (hh.get 5 _ rfl) (hh.get 2 _ rfl) hSh o14 hw) rfl (OwnC.pass (id := 0) (hh.get 0 _ rfl) o6 hw) rfl (OwnC.pass (id := 1) (hh.get 1 _ rfl) o10 hw) rfl (OwnD.pass (id := 2) (hh.get 2 _ rfl) o14 hw) x32 e32) (yB (sv hs 24 rfl) (sv hs 25 rfl)))⟩) ?_
      rintro g _ _ ⟨_, ⟨rfl, rfl⟩, rfl⟩
      exact ⟨⟨[], [], []⟩, trivial, .inr rfl, rfl⟩
     refine loc_eff rfl rfl (fun g hΦ s h hs hh => ⟨(.some (gval_of rfl (sv hs 29 rfl)) hy33), (stpU_call (fun i => 8 + i) cf6 (fun w hw => c_i_SystemSame fl w x2.1 x2.1 rfl (OwnC.pass (id := 0) (hh.get 0 _ rfl) o6 hw) rfl (OwnC.pass (id := 1) (hh.get 1 _ rfl) o10 hw) rfl (OwnD.pass (id := 2) (hh.get 2 _ rfl) o14 hw) rfl (OwnC.pass (id := 0) (hh.get 0 _ rfl) o6 hw) rfl (OwnC.pass (id := 1) (hh.get 1 _ rfl) o10 hw) rfl (OwnD.pass (id := 2) (hh.get 2 _ rfl) o14 hw) x34 e34) (yB (sv hs 30 rfl) (sv hs 31 rfl)))⟩) ?_
     rintro g _ _ ⟨_, ⟨rfl, rfl⟩, rfl⟩
     exact ⟨⟨[], [], []⟩, trivial, .inr rfl, rfl⟩
    intro g hΦ
    exact kw_join () trivial ⟨rfl, trivial⟩ trivial
   have ey33 := cond_f ey33 hy33
   have qy33 := sI ey33
   have hy35 : y33 = false := by rw [← qy33]
   have ey35 := cond_f ey35 hy35
   have qy35 := sI ey35
   refine rdq g_mixed [3, 4, 5] [0, 1, 2, 3, 4, 5, 6, 7] { dst := dS [18, 19, 20, 21, 22, 23, 24, 25, 26, 27, 28, 29, 30, 31, 32, 33, 34, 35, 36, 37, 38, 39, 40, 41, 42, 43, 44, 45, 3], pre := gA [] [[], [], [], [1, 2], rn 0 4, rn 0 5, rn 0 6, rn 0 6, rn 0 6, [0, 1, 2, 3, 4, 5, 7, 8], rn 0 10, rn 0 11, rn 0 12, rn 0 13, rn 0 13, rn 0 15, rn 0 16, rn 0 17, rn 0 18, rn 0 19, rn 0 20, rn 0 21, rn 0 22, rn 0 21, rn 0 24, rn 0 25, rn 0 26, rn 0 27, rn 0 28], ids := fun _ => [], rs := rL [[(5, 0)], [(3, 0)], [(4, 0)], [(18, 2), (19, 3)], [(17, 1), (20, 4)], [(21, 5)], [(5, 0), (22, 6)], [(4, 0), (22, 6)], [(3, 0), (22, 6)], [(24, 8), (25, 9), (22, 6)], [(23, 7), (26, 10), (22, 6)], [(22, 6), (27, 11)], [(28, 12)], [(29, 13)], [(29, 13)], [(29, 13)], [(29, 13), (32, 16)], [(33, 17)], [(34, 18)], [(34, 18)], [(34, 18)], [(37, 21)], [(37, 21)], [(37, 21)], [(37, 21)], [(37, 21)], [(34, 18)], [(34, 18), (43, 27)], [(44, 28)]], rh := rL [[], [(6, 0)], [(7, 0)], [(0, 0), (1, 0), (2, 0), (3, 0), (4, 0), (5, 0)], [], [], [], [(7, 0)], [(6, 0)], [(0, 0), (1, 0), (2, 0), (3, 0), (4, 0), (5, 0)]], V := fun i g => gA undef [.bool x29, .agg #[.slice p3 ((x2.1.t.b).length) c5, .slice p7 ((x2.1.t.f).length) c9, .slice p11 ((x2.1.c).length) c13], .agg #[.slice p15 ((x2.2.t.b).length) c17, .slice p19 ((x2.2.t.f).length) c21, .slice p23 ((x2.2.c).length) c25], .bool x30, .bool (x29 == x30), .bool (x29 == x30), .bool x29, .agg #[.slice p15 ((x2.2.t.b).length) c17, .slice p19 ((x2.2.t.f).length) c21, .slice p23 ((x2.2.c).length) c25], .agg #[.slice p3 ((x2.1.t.b).length) c5, .slice p7 ((x2.1.t.f).length) c9, .slice p11 ((x2.1.c).length) c13], .bool x32, .bool (x29 == x32), .bool y31, .bool y31, undef, undef, undef, .bool y33, .bool y33, undef, undef, undef, undef, undef, undef, undef, undef, undef, .bool y35, .bool y35] i, U := fun _ _ => [], Φ := fun _ _ => True } ?_ ?_
   ·refine ⟨lM, lc rfl rfl fun hs hh => stp_loadN (us := [_, _, _]) ts29 (sv hs 3 rfl) (Cells.box (id := 6) (hh.get 6 _ rfl) 3 rfl), lc rfl rfl fun hs hh => stp_loadN (us := [_, _, _]) ts29 (sv hs 4 rfl) (Cells.box (id := 7) (hh.get 7 _ rfl) 3 rfl), ?_, lc rfl rfl fun hs hh => stp_eqlB Tryd.underlying4 (sv hs 17 rfl) (sv hs 20 rfl), lM, lg rfl rfl 22 hy31 fun hs hh => stp_move (sv hs 5 rfl), lg rfl rfl 22 hy31 fun hs hh => stp_loadN (us := [_, _, _]) ts29 (sv hs 4 rfl) (Cells.box (id := 7) (hh.get 7 _ rfl) 3 rfl), lg rfl rfl 22 hy31 fun hs hh => stp_loadN (us := [_, _, _]) ts29 (sv hs 3 rfl) (Cells.box (id := 6) (hh.get 6 _ rfl) 3 rfl), ?_, lg rfl rfl 22 hy31 fun hs hh => stp_eqlB Tryd.underlying4 (sv hs 23 rfl) (sv hs 26 rfl), lc rfl rfl fun hs hh => stp_pick_tB (sv hs 22 rfl) hy31 (sv hs 27 rfl) qy31, lM, lo rfl rfl 29 hy33, lo rfl rfl 29 hy33, lo rfl rfl 29 hy33, lc rfl rfl fun hs hh => stp_pick_fB (sv hs 29 rfl) hy33 rfl qy33, lM, lo rfl rfl 34 hy35, lo rfl rfl 34 hy35, lo rfl rfl 34 hy35, lx rfl rfl 37, lx rfl rfl 37, lx rfl rfl 37, lx rfl rfl 37, lx rfl rfl 37, lo rfl rfl 34 hy35, lc rfl rfl fun hs hh => stp_pick_fB (sv hs 34 rfl) hy35 rfl qy35, lS, trivial⟩
    ·refine le rfl rfl (fun g hΦ s h hs hh => (stpU_call (fun i => 8 + i) cf7 (fun w hw => c_s_SystemSame fl w x2.1 x2.2 rfl (OwnC.pass (id := 0) (hh.get 0 _ rfl) o6 hw) rfl (OwnC.pass (id := 1) (hh.get 1 _ rfl) o10 hw) rfl (OwnD.pass (id := 2) (hh.get 2 _ rfl) o14 hw) rfl (ShS.p1 (id := 3) (id0 := 0) (hh.get 3 _ rfl) (hh.get 0 _ rfl) hSh o6 hw) rfl (ShS.p2 (id := 4) (id0 := 1) (hh.get 4 _ rfl) (hh.get 1 _ rfl) hSh o10 hw) rfl (ShS.p3 (id := 5) (id0 := 2) (hh.get 5 _ rfl) (hh.get 2 _ rfl) hSh o14 hw) x30 e30) (yB (sv hs 18 rfl) (sv hs 19 rfl)))) ?_
     rintro g _ _ ⟨_, ⟨rfl, rfl⟩, rfl⟩
     exact ⟨⟨[], [], []⟩, trivial, .inr rfl, rfl⟩
    refine loc_eff rfl rfl (fun g hΦ s h hs hh => ⟨(.some (gval_of rfl (sv hs 22 rfl)) hy31), (stpU_call (fun i => 8 + i) cf6 (fun w hw => c_i_SystemSame fl w x2.2 x2.1 rfl (ShS.p1 (id := 3) (id0 := 0) (hh.get 3 _ rfl) (hh.get 0 _ rfl) hSh o6 hw) rfl (ShS.p2 (id := 4) (id0 := 1) (hh.get 4 _ rfl) (hh.get 1 _ rfl) hSh o10 hw) rfl (ShS.p3 (id := 5) (id0 := 2) (hh.get 5 _ rfl) (hh.get 2 _ rfl) hSh o14 hw) rfl (OwnC.pass (id := 0) (hh.get 0 _ rfl) o6 hw) rfl (OwnC.pass (id := 1) (hh.get 1 _ rfl) o10 hw) rfl (OwnD.pass (id := 2) (hh.get 2 _ rfl) o14 hw) x32 e32) (yB (sv hs 24 rfl) (sv hs 25 rfl)))⟩) ?_
    rintro g _ _ ⟨_, ⟨rfl, rfl⟩, rfl⟩
    exact ⟨⟨[], [], []⟩, trivial, .inr rfl, rfl⟩
   intro g hΦ
   exact kw_join () trivial ⟨rfl, trivial⟩ trivial
  have ey31 := cond_f ey31 hy31
  have qy31 := sI ey31
  have hy33 : y31 = false := by rw [← qy31]
  have ey33 := cond_f ey33 hy33
  have qy33 := sI ey33
  have hy35 : y33 = false := by rw [← qy33]
  have ey35 := cond_f ey35 hy35
  have qy35 := sI ey35
  refine rdq g_mixed [3, 4, 5] [0, 1, 2, 3, 4, 5, 6, 7] { dst := dS [18, 19, 20, 21, 22, 23, 24, 25, 26, 27, 28, 29, 30, 31, 32, 33, 34, 35, 36, 37, 38, 39, 40, 41, 42, 43, 44, 45, 3], pre := gA [] [[], [], [], [1, 2], rn 0 4, rn 0 5, rn 0 6, rn 0 6, rn 0 6, [0, 1, 2, 3, 4, 5, 7, 8], rn 0 10, rn 0 11, rn 0 12, rn 0 13, rn 0 13, rn 0 15, rn 0 16, rn 0 17, rn 0 18, rn 0 19, rn 0 20, rn 0 21, rn 0 22, rn 0 21, rn 0 24, rn 0 25, rn 0 26, rn 0 27, rn 0 28], ids := fun _ => [], rs := rL [[(5, 0)], [(3, 0)], [(4, 0)], [(18, 2), (19, 3)], [(17, 1), (20, 4)], [(21, 5)], [(22, 6)], [(22, 6)], [(22, 6)], [(22, 6)], [(22, 6)], [(22, 6), (27, 11)], [(28, 12)], [(29, 13)], [(29, 13)], [(29, 13)], [(29, 13), (32, 16)], [(33, 17)], [(34, 18)], [(34, 18)], [(34, 18)], [(37, 21)], [(37, 21)], [(37, 21)], [(37, 21)], [(37, 21)], [(34, 18)], [(34, 18), (43, 27)], [(44, 28)]], rh := rL [[], [(6, 0)], [(7, 0)], [(0, 0), (1, 0), (2, 0), (3, 0), (4, 0), (5, 0)]], V := fun i g => gA undef [.bool x29, .agg #[.slice p3 ((x2.1.t.b).length) c5, .slice p7 ((x2.1.t.f).length) c9, .slice p11 ((x2.1.c).length) c13], .agg #[.slice p15 ((x2.2.t.b).length) c17, .slice p19 ((x2.2.t.f).length) c21, .slice p23 ((x2.2.c).length) c25], .bool x30, .bool (x29 == x30), .bool (x29 == x30), undef, undef, undef, undef, undef, .bool y31, .bool y31, undef, undef, undef, .bool y33, .bool y33, undef, undef, undef, undef, undef, undef, undef, undef, undef, .bool y35, .bool y35] i, U := fun _ _ => [], Φ := fun _ _ => True } ?_ ?_
  ·refine ⟨lM, lc rfl rfl fun hs hh => stp_loadN (us := [_, _, _]) ts29 (sv hs 3 rfl) (Cells.box (id := 6) (hh.get 6 _ rfl) 3 rfl), lc rfl rfl fun hs hh => stp_loadN (us := [_, _, _]) ts29 (sv hs 4 rfl) (Cells.box (id := 7) (hh.get 7 _ rfl) 3 rfl), ?_, lc rfl rfl fun hs hh => stp_eqlB Tryd.underlying4 (sv hs 17 rfl) (sv hs 20 rfl), lM, lo rfl rfl 22 hy31, lo rfl rfl 22 hy31, lo rfl rfl 22 hy31, lo rfl rfl 22 hy31, lo rfl rfl 22 hy31, lc rfl rfl fun hs hh => stp_pick_fB (sv hs 22 rfl) hy31 rfl qy31, lM, lo rfl rfl 29 hy33, lo rfl rfl 29 hy33, lo rfl rfl 29 hy33, lc rfl rfl fun hs hh => stp_pick_fB (sv hs 29 rfl) hy33 rfl qy33, lM, lo rfl rfl 34 hy35, lo rfl rfl 34 hy35, lo rfl rfl 34 hy35, lx rfl rfl 37, lx rfl rfl 37, lx rfl rfl 37, lx rfl rfl 37, lx rfl rfl 37, lo rfl rfl 34 hy35, lc rfl rfl fun hs hh => stp_pick_fB (sv hs 34 rfl) hy35 rfl qy35, lS, trivial⟩
   refine le rfl rfl (fun g hΦ s h hs hh => (stpU_call (fun i => 8 + i) cf7 (fun w hw => c_s_SystemSame fl w x2.1 x2.2 rfl (OwnC.pass (id := 0) (hh.get 0 _ rfl) o6 hw) rfl (OwnC.pass (id := 1) (hh.get 1 _ rfl) o10 hw) rfl (OwnD.pass (id := 2) (hh.get 2 _ rfl) o14 hw) rfl (ShS.p1 (id := 3) (id0 := 0) (hh.get 3 _ rfl) (hh.get 0 _ rfl) hSh o6 hw) rfl (ShS.p2 (id := 4) (id0 := 1) (hh.get 4 _ rfl) (hh.get 1 _ rfl) hSh o10 hw) rfl (ShS.p3 (id := 5) (id0 := 2) (hh.get 5 _ rfl) (hh.get 2 _ rfl) hSh o14 hw) x30 e30) (yB (sv hs 18 rfl) (sv hs 19 rfl)))) ?_
   rintro g _ _ ⟨_, ⟨rfl, rfl⟩, rfl⟩
   exact ⟨⟨[], [], []⟩, trivial, .inr rfl, rfl⟩
  intro g hΦ
  exact kw_join () trivial ⟨rfl, trivial⟩ trivial
 rintro _ -
 dsimp only
 refine kw_nx (cw_ret ?_)
 obtain rfl := sI H0
 exact kr Tryd.results3 (rT rfl) [] ⟨rfl, rfl⟩
end Go.Proofs.YtciliaiocakdkaaDoor
