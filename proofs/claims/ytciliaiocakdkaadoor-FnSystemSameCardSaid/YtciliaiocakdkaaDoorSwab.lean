/- The walks: functions of the program return what their pure functions say. Printed by a program (gen.py). -/
import Derived.Test.YtciliaiocakdkaaDoorSp
import Derived.Test.YtciliaiocakdkaaDoorSt
import Derived.Test.YtciliaiocakdkaaDoorMan
import Derived.Test.YtciliaiocakdkaaDoorMap
import Derived.Test.YtciliaiocakdkaaDoorCpy
import Derived.Test.YtciliaiocakdkaaDoorDp
import Derived.Test.YtciliaiocakdkaaDoorSs
import Derived.Test.YtciliaiocakdkaaDoorSe
import Derived.Test.YtciliaiocakdkaaDoorSwaa
import Derived.Test.YtciliaiocakdkaaDoorSws
set_option linter.unusedSimpArgs false
set_option linter.unusedVariables false
set_option linter.unusedSectionVars false
namespace Go.Proofs.YtciliaiocakdkaaDoor
open Go.RowKit
set_option maxHeartbeats 4000000
set_option maxRecDepth 20000
variable {p0_0 p0_0_0 p0_1 p0_2 p1_0 p1_1 p1_2 : Option Addr} {c0_0 c0_0_0 c0_1 c0_2 c1_0 c1_1 c1_2 n0_0 n0_0_0 n0_1 n0_2 n1_0 n1_1 n1_2 : Nat} {C1_0 C1_1 C1_2 : Res}
theorem c_s_KeysOf (fl : Nat) (w : World) (a0 : T) (hn0_0 : n0_0 = (a0.b).length) (hr0_0 : RO w (hkeys []) (RdL p0_0 c0_0 a0.b)) (hn0_1 : n0_1 = (a0.f).length) (hr0_1 : RO w (hkeys []) (RdL p0_1 c0_1 a0.f)) (r : (List K)) (H0 : s_KeysOf fl a0 = some r) :
  Ct Tryd.prog 44 [.agg #[.slice p0_0 n0_0 c0_0, .slice p0_1 n0_1 c0_1]] w [] (fun rv h' => ∃ (x0 : Option Addr) (y0 z0 : Nat) (C0 : Res), rv = .slice x0 y0 z0 ∧ h' = [(0, C0)] ∧ y0 = (r).length ∧ OwnC 36 x0 z0 r C0) := by
 subst hn0_0 hn0_1
 unfold s_KeysOf at H0
 refine ct_of_cw Tryd.func44 rfl Tryd.ntmps44 rfl (Sat.refl _ _) ?_
 refine sr (oE (stpU_box 0 rfl rfl) rfl ?_)
 rintro _ _ ⟨b1, rfl, rfl⟩
 refine oS rfl (nn (sr (oE (stpU_lit0 sl78 1) rfl ?_)))
 rintro _ _ ⟨p2, C3, rfl, rfl, o3⟩
 obtain ⟨o0_0, eo0_0, H0⟩ := bS H0
 refine oS rfl (nn (cw_seq (sr (oS rfl (nn (cw_join (ι := (List K) × Int × Option Addr × Nat × Nat × Res) (fun | (v4, v9, p5, n6, c7, C8) => o0_0 = .out (v4, v9) ∧ n6 = (v4).length ∧ OwnC 36 p5 c7 v4 C8) (fun | (v4, v9, p5, n6, c7, C8) => [(1, .pointer (some ⟨b1, 0, none⟩)), (3, .slice p5 n6 c7), (4, .int .i64 v9)]) (fun | (v4, v9, p5, n6, c7, C8) => [(0, [(b1, .cells #[.slice p0_0 ((a0.b).length) c0_0, .slice p0_1 ((a0.f).length) c0_1] 26 (0, 0))]), (1, C8)]) ?_ ?_))))))
 ·refine cw_block (cw_loopS (ι := Nat × (List K) × Int × Option Addr × Nat × Nat × Res) (js := [0, 1]) (fun x => x.1) (fun | (fuel, v4, v9, p5, n6, c7, C8) => s_KeysOf_L0 fl a0 fuel v4 v9 = some o0_0 ∧ n6 = (v4).length ∧ OwnC 36 p5 c7 v4 C8) (fun | (_, v4, v9, p5, n6, c7, C8) => [(1, .pointer (some ⟨b1, 0, none⟩)), (3, .slice p5 n6 c7), (4, .int .i64 v9)]) (fun | (_, v4, v9, p5, n6, c7, C8) => [(0, [(b1, .cells #[.slice p0_0 ((a0.b).length) c0_0, .slice p0_1 ((a0.f).length) c0_1] 26 (0, 0))]), (1, C8)]) (fl, ([] : List K), 0, p2, 0, 0, C3) ⟨eo0_0, (by simp), o3⟩ ⟨rfl, rfl, rfl, trivial⟩ ⟨0, [1], rfl, rfl, 1, [], rfl, rfl, trivial⟩ (by decide) ?_)
  rintro ⟨fuel, v4, v9, p5, _, c7, C8⟩ ⟨H1, rfl, o8⟩
  have H1 : s_KeysOf_L0 fl a0 fuel v4 v9 = some o0_0 := H1
  rcases fuel with _ | fuel
  ·rw [s_KeysOf_L0.eq_1] at H1; cases H1
  rw [s_KeysOf_L0.eq_2] at H1
  dsimp only
  obtain ⟨y10, ey10, H1⟩ := bS H1
  refine cw_seq (sr (oM rfl (oA 1 Tryd.underlying26 rfl ts24 rfl (oL 0 ts24 rfl (oD (stp_len Tryd.underlying24 rfl) rfl (oW rfl (oM rfl (ow_cutY 3 16 y10 ?_ ?_))))))))
  ·rcases Bool.eq_false_or_eq_true (decide (v9 < ((a0.f).length : Int))) with hy10 | hy10
   ·have ey10 := cond_t ey10 hy10
    obtain ⟨x11, e11, ey10⟩ := bS ey10
    refine oG rfl hy10 (stp_loadN (us := [_, _]) ts26 rfl (Cells.box (id := 0) rfl 2 rfl)) rfl (ow_eff (.some rfl hy10) (stpU_call (fun i => 2 + i) cf71 (fun w hw => c_s_TableValid fl w a0 rfl (RO.pass hr0_0 hw) rfl (RO.pass hr0_1 hw) x11 e11) (yA rfl)) rfl ?_)
    rintro _ _ ⟨_, ⟨rfl, rfl⟩, rfl⟩
    refine oD (stp_pick_t rfl hy10 rfl) rfl ?_
    obtain rfl := sI ey10
    exact ow_nil (jy 3 0)
   have ey10 := cond_f ey10 hy10
   refine oO rfl hy10 rfl (oO rfl hy10 rfl (oD (stp_pick_f rfl hy10 rfl) rfl ?_))
   obtain rfl := sI ey10
   exact ow_nil (jy 3 0)
  refine ow_nil (kw_nx (cw_cond rfl (fun h12 => ?_) (fun h12 => ?_)))
  ·have H1 := cond_t H1 h12
   obtain ⟨x13, e13, H1⟩ := bS H1
   refine cw_skip (kw_nx (cw_seq (cw_block (cw_seq (sr (oA 1 Tryd.underlying26 rfl ts24 rfl (oL 0 ts24 rfl (oM rfl (oD (stp_indexAddr Tryd.underlying24 ts61 (by decide) rfl rfl rfl (Rdb.ro hr0_1) e13) rfl (oA 0 Tryd.underlying61 rfl ts4 rfl (oD (stp_load1 ts4 rfl (Cells.el (Rdb.ro hr0_1) (by decide) e13 0 1 rfl)) rfl (oK rfl (nn ?_)))))))))))))
   refine cw_cond rfl (fun h14 => ?_) (fun h14 => ?_)
   ·have H1 := cond_t H1 h14
    obtain ⟨x15, e15, H1⟩ := bS H1
    exact cw_exit (kw_nx_exit (kw_bl (kw_nx (cw_region (oM rfl (oP e15 rfl (oS rfl (ow_nil (kw_lqS (js := [0, 1]) (fuel, v4, x15, p5, ((v4).length), c7, C8) ⟨H1, rfl, o8⟩ (Nat.lt_succ_self _) ⟨rfl, rfl, rfl, trivial⟩ ⟨0, [1], rfl, rfl, 1, [], rfl, rfl, trivial⟩ (by decide))))))))))
   have H1 := cond_f H1 h14
   refine cw_skip (kw_nx (sr (oM rfl (oA 1 Tryd.underlying26 rfl ts24 rfl (oL 0 ts24 rfl (oM rfl (oD (stp_indexAddr Tryd.underlying24 ts61 (by decide) rfl rfl rfl (Rdb.ro hr0_1) e13) rfl (oA 1 Tryd.underlying61 rfl ts36 rfl (oD (stp_loadN (us := [_, _]) ts36 rfl (Cells.el (Rdb.ro hr0_1) (by decide) e13 1 2 rfl)) rfl (oE (stpU_lit (sz := 2) (l := [x13.k]) [.agg #[.int .i64 x13.k.s, .int .i64 x13.k.p]] sl78 2 (sevp_cons rfl sevp_nil) rfl rfl rfl rfl rfl rfl rfl rfl rfl) rfl ?_))))))))))
   rintro _ _ ⟨p16, C17, rfl, rfl, o17⟩
   obtain ⟨x18, e18, H1⟩ := bS H1
   refine oE (stpU_append sl78 rfl (id := 1) rfl rfl rfl (by simp) rfl o8 (Rdb.own (id := 2) rfl o17) e18) rfl ?_
   rintro _ _ ⟨p19, c20, C21, rfl, rfl, o21⟩
   obtain ⟨x22, e22, H1⟩ := bS H1
   obtain ⟨o1_1, eo1_1, H1⟩ := bS H1
   refine oS rfl (nn (sr (oM rfl (oD (stp_len Tryd.underlying78 rfl) rfl (oD (stp_sub rfl rfl e22) rfl (oS rfl (nn (cw_join (ι := (List K) × Int × Res) (fun | (v23, v25, C24) => o1_1 = .out (v23, v25) ∧ (x18).length = (v23).length ∧ OwnC 36 p19 c20 v23 C24) (fun | (v23, v25, C24) => [(1, .pointer (some ⟨b1, 0, none⟩)), (3, .slice p19 ((x18).length) c20), (4, .int .i64 v9), (5, .int .i64 v25)]) (fun | (v23, v25, C24) => [(0, [(b1, .cells #[.slice p0_0 ((a0.b).length) c0_0, .slice p0_1 ((a0.f).length) c0_1] 26 (0, 0))]), (1, C24)]) ?_ ?_))))))))
   ·refine cw_block (cw_loopS (ι := Nat × (List K) × Int × Res) (js := [0, 1]) (fun x => x.1) (fun | (fuel, v23, v25, C24) => s_KeysOf_L1 fl fuel v23 v25 = some o1_1 ∧ (x18).length = (v23).length ∧ OwnC 36 p19 c20 v23 C24) (fun | (_, v23, v25, C24) => [(1, .pointer (some ⟨b1, 0, none⟩)), (3, .slice p19 ((x18).length) c20), (4, .int .i64 v9), (5, .int .i64 v25)]) (fun | (_, v23, v25, C24) => [(0, [(b1, .cells #[.slice p0_0 ((a0.b).length) c0_0, .slice p0_1 ((a0.f).length) c0_1] 26 (0, 0))]), (1, C24)]) (fl, x18, x22, C21) ⟨eo1_1, rfl, o21⟩ ⟨rfl, rfl, rfl, rfl, trivial⟩ ⟨0, [1], rfl, rfl, 1, [], rfl, rfl, trivial⟩ (by decide) ?_)
    rintro ⟨fuel, v23, v25, C24⟩ ⟨H2, hl24, o24⟩
    have H2 : s_KeysOf_L1 fl fuel v23 v25 = some o1_1 := H2
    rcases fuel with _ | fuel
    ·rw [s_KeysOf_L1.eq_1] at H2; cases H2
    rw [s_KeysOf_L1.eq_2] at H2
    dsimp only
    obtain ⟨y26, ey26, H2⟩ := bS H2
    refine cw_seq (cw_seq (cw_join (ι := Unit) (fun | _ => True) (fun | _ => [(1, .pointer (some ⟨b1, 0, none⟩)), (3, .slice p19 ((x18).length) c20), (4, .int .i64 v9), (5, .int .i64 v25), (51, .bool y26)]) (fun | _ => [(0, [(b1, .cells #[.slice p0_0 ((a0.b).length) c0_0, .slice p0_1 ((a0.f).length) c0_1] 26 (0, 0))]), (1, C24)]) ?_ ?_))
    ·rcases Bool.eq_false_or_eq_true (decide (0 < v25)) with hy26 | hy26
     ·have ey26 := cond_t ey26 hy26
      obtain ⟨x27, e27, ey26⟩ := bS ey26
      obtain ⟨x28, e28, ey26⟩ := bS ey26
      obtain ⟨x29, e29, ey26⟩ := bS ey26
      obtain ⟨x30, e30, ey26⟩ := bS ey26
      have qy26 := sI ey26
      refine rdq g_mixed [3, 5] [1] { dst := dS [39, 40, 41, 42, 43, 44, 45, 46, 47, 48, 49, 50, 51, 52], pre := gA [] [[], [0], [0, 1], [0, 1, 2], [0, 1, 2], rn 0 5, rn 0 6, [0, 1, 2], [0, 1, 2], [0, 1, 2, 8], [0, 1, 2, 7, 8, 9], [0, 1, 2, 7, 8, 9, 10], rn 0 12, rn 0 13], ids := fun _ => [], rs := rL [[(5, 0)], [(38, 1)], [(39, 2)], [(3, 0), (40, 3)], [(5, 0), (40, 3)], [(41, 4), (42, 5), (40, 3)], [(43, 6), (40, 3)], [(3, 0), (40, 3)], [(5, 0), (40, 3)], [(46, 9), (40, 3)], [(45, 8), (47, 10), (40, 3)], [(48, 11), (40, 3)], [(44, 7), (49, 12), (40, 3)], [(40, 3), (50, 13)]], rh := rL [[], [], [], [], [], [(1, 0)], [(1, 0)], [], [], [], [(1, 0)], [(1, 0)]], V := fun i g => gA undef [.int .i64 v25, .bool (decide (0 < v25)), .bool (decide (0 < v25)), .slice p19 ((x18).length) c20, .int .i64 v25, .pointer (some ⟨eB p19, eO p19 + Int.toNat v25 * Enc.sz K + 0, none⟩), .agg #[.int .i64 x27.s, .int .i64 x27.p], .slice p19 ((x18).length) c20, .int .i64 v25, .int .i64 x28, .pointer (some ⟨eB p19, eO p19 + Int.toNat x28 * Enc.sz K + 0, none⟩), .agg #[.int .i64 x29.s, .int .i64 x29.p], .bool x30, .bool y26] i, U := fun _ _ => [], Φ := fun _ _ => True } ?_ ?_
      ·refine ⟨lM, lc rfl rfl fun hs hh => stp_gtr (sv hs 38 rfl) rfl, lM, lg rfl rfl 40 hy26 fun hs hh => stp_move (sv hs 3 rfl), lg rfl rfl 40 hy26 fun hs hh => stp_move (sv hs 5 rfl), lg rfl rfl 40 hy26 fun hs hh => stp_indexAddr Tryd.underlying78 ts36 (by decide) (sv hs 41 rfl) (by simp [hl24]) (sv hs 42 rfl) (Rdb.own (id := 1) (hh.get 1 _ rfl) o24) e27, lg rfl rfl 40 hy26 fun hs hh => stp_loadN (us := [_, _]) ts36 (sv hs 43 rfl) (Cells.el (Rdb.own (id := 1) (hh.get 1 _ rfl) o24) (by decide) e27 0 2 rfl), lg rfl rfl 40 hy26 fun hs hh => stp_move (sv hs 3 rfl), lg rfl rfl 40 hy26 fun hs hh => stp_move (sv hs 5 rfl), lg rfl rfl 40 hy26 fun hs hh => stp_sub (sv hs 46 rfl) rfl e28, lg rfl rfl 40 hy26 fun hs hh => stp_indexAddr Tryd.underlying78 ts36 (by decide) (sv hs 45 rfl) (by simp [hl24]) (sv hs 47 rfl) (Rdb.own (id := 1) (hh.get 1 _ rfl) o24) e29, lg rfl rfl 40 hy26 fun hs hh => stp_loadN (us := [_, _]) ts36 (sv hs 48 rfl) (Cells.el (Rdb.own (id := 1) (hh.get 1 _ rfl) o24) (by decide) e29 0 2 rfl), ?_, lc rfl rfl fun hs hh => stp_pick_tB (sv hs 40 rfl) hy26 (sv hs 50 rfl) qy26, trivial⟩
       refine loc_eff rfl rfl (fun g hΦ s h hs hh => ⟨(.some (gval_of rfl (sv hs 40 rfl)) hy26), (stpU_call (fun i => 3 + i) cf72 (fun w hw => c_s_KeyBefore fl w x27 x29 x30 e30) (yB (sv hs 44 rfl) (sv hs 49 rfl)))⟩) ?_
       rintro g _ _ ⟨_, ⟨rfl, rfl⟩, rfl⟩
       exact ⟨⟨[], [], []⟩, trivial, .inr rfl, rfl⟩
      intro g hΦ
      exact kw_join () trivial ⟨rfl, rfl, rfl, rfl, rfl, trivial⟩ ⟨rfl, rfl, trivial⟩
     have ey26 := cond_f ey26 hy26
     have qy26 := sI ey26
     refine rdq g_mixed [5] [] { dst := dS [39, 40, 41, 42, 43, 44, 45, 46, 47, 48, 49, 50, 51, 52], pre := gA [] [[], [0], [0, 1], [0, 1, 2], [0, 1, 2], rn 0 5, rn 0 6, [0, 1, 2], [0, 1, 2], [0, 1, 2, 8], [0, 1, 2, 7, 8, 9], [0, 1, 2, 7, 8, 9, 10], rn 0 12, rn 0 13], ids := fun _ => [], rs := rL [[(5, 0)], [(38, 1)], [(39, 2)], [(40, 3)], [(40, 3)], [(40, 3)], [(40, 3)], [(40, 3)], [(40, 3)], [(40, 3)], [(40, 3)], [(40, 3)], [(40, 3)], [(40, 3), (50, 13)]], rh := fun _ => [], V := fun i g => gA undef [.int .i64 v25, .bool (decide (0 < v25)), .bool (decide (0 < v25)), undef, undef, undef, undef, undef, undef, undef, undef, undef, undef, .bool y26] i, U := fun _ _ => [], Φ := fun _ _ => True } ?_ ?_
     ·exact ⟨lM, lc rfl rfl fun hs hh => stp_gtr (sv hs 38 rfl) rfl, lM, lo rfl rfl 40 hy26, lo rfl rfl 40 hy26, lo rfl rfl 40 hy26, lo rfl rfl 40 hy26, lo rfl rfl 40 hy26, lo rfl rfl 40 hy26, lo rfl rfl 40 hy26, lo rfl rfl 40 hy26, lo rfl rfl 40 hy26, lo rfl rfl 40 hy26, lc rfl rfl fun hs hh => stp_pick_fB (sv hs 40 rfl) hy26 rfl qy26, trivial⟩
     intro g hΦ
     exact kw_join () trivial ⟨rfl, rfl, rfl, rfl, rfl, trivial⟩ ⟨rfl, rfl, trivial⟩
    rintro _ -
    dsimp only
    refine kw_nx (cw_cond rfl (fun h31 => ?_) (fun h31 => ?_))
    ·have H2 := cond_t H2 h31
     obtain ⟨x32, e32, H2⟩ := bS H2
     refine cw_skip (kw_nx (cw_seq (cw_block (sr (oM rfl (oM rfl (oD (stp_indexAddr Tryd.underlying78 ts36 (by decide) rfl (by simp [hl24]) rfl (Rdb.own (id := 1) rfl o24) e32) rfl (oD (stp_loadN (us := [_, _]) ts36 rfl (Cells.el (Rdb.own (id := 1) rfl o24) (by decide) e32 0 2 rfl)) rfl (oE (stpU_alloc 3 tz36 rfl) rfl ?_)))))))))
     rintro _ _ ⟨b33, rfl, rfl⟩
     obtain ⟨x34, e34, H2⟩ := bS H2
     obtain ⟨x35, e35, H2⟩ := bS H2
     refine oC2 3 ts36 rfl rfl (nn (sr (oM rfl (oM rfl (oM rfl (oM rfl (oD (stp_sub rfl rfl e34) rfl (oD (stp_indexAddr Tryd.underlying78 ts36 (by decide) rfl (by simp [hl24]) rfl (Rdb.own (id := 1) rfl o24) e35) rfl (oD (stp_loadN (us := [_, _]) ts36 rfl (Cells.el (Rdb.own (id := 1) rfl o24) (by decide) e35 0 2 rfl)) rfl (oD (stp_indexAddr Tryd.underlying78 ts36 (by decide) rfl (by simp [hl24]) rfl (Rdb.own (id := 1) rfl o24) e32) rfl (oF (stpU_storeEl (id := 1) (i := 0) x35 (by decide) ts36 rfl rfl rfl o24 e32 rfl rfl rfl rfl) ?_)))))))))))
     rintro _ _ ⟨C36, rfl, o36⟩
     obtain ⟨x37, e37, H2⟩ := bS H2
     refine nn (cw_region (oM rfl (oM rfl (oD (stp_sub rfl rfl e34) rfl (oB2 3 ts36 rfl (oD (stp_indexAddr Tryd.underlying78 ts36 (by decide) rfl (by simp [hl24]) rfl (Rdb.own (id := 1) rfl o36) e37) rfl (oF (stpU_storeEl (id := 1) (i := 0) x32 (by decide) ts36 rfl rfl rfl o36 e37 rfl rfl rfl rfl) ?_)))))))
     rintro _ _ ⟨C38, rfl, o38⟩
     exact ow_nil (kw_bl_normal (kw_nx (cw_region (oM rfl (oD (stp_sub rfl rfl e34) rfl (oS rfl (ow_nil (kw_lqS (js := [0, 1]) (fuel, ((v23.set (Int.toNat v25) x35).set (Int.toNat x34) x32), x34, C38) ⟨H2, (by simp [hl24]), o38⟩ (Nat.lt_succ_self _) ⟨rfl, rfl, rfl, rfl, trivial⟩ ⟨0, [1], rfl, rfl, 1, [], rfl, rfl, trivial⟩ (by decide)))))))))
    have H2 := cond_f H2 h31
    refine cw_exit (kw_nx_exit (kw_lq_exit (kw_bl ?_)))
    obtain rfl := sI H2
    exact kw_joinS (js := [0, 1]) (v23, v25, C24) ⟨rfl, (by simp [hl24]), o24⟩ ⟨rfl, rfl, rfl, rfl, trivial⟩ ⟨0, [1], rfl, rfl, 1, [], rfl, rfl, trivial⟩ (by decide)
   rintro ⟨v23, v25, C24⟩ ⟨rfl, hl24, o24⟩
   dsimp only
   obtain ⟨x39, e39, H1⟩ := bS H1
   exact kw_bl_normal (kw_nx (cw_region (oM rfl (oP e39 rfl (oS rfl (ow_nil (kw_lqS (js := [0, 1]) (fuel, v23, x39, p19, ((x18).length), c20, C24) ⟨H1, (by simp [hl24]), o24⟩ (Nat.lt_succ_self _) ⟨rfl, rfl, rfl, trivial⟩ ⟨0, [1], rfl, rfl, 1, [], rfl, rfl, trivial⟩ (by decide))))))))
  have H1 := cond_f H1 h12
  refine cw_exit (kw_nx_exit (kw_lq_exit (kw_bl ?_)))
  obtain rfl := sI H1
  exact kw_joinS (js := [0, 1]) (v4, v9, p5, ((v4).length), c7, C8) ⟨rfl, rfl, o8⟩ ⟨rfl, rfl, rfl, trivial⟩ ⟨0, [1], rfl, rfl, 1, [], rfl, rfl, trivial⟩ (by decide)
 rintro ⟨v4, v9, p5, _, c7, C8⟩ ⟨rfl, rfl, o8⟩
 dsimp only
 refine kw_nx (sr (oM rfl (oS rfl (nn (cw_ret ?_)))))
 obtain rfl := sI H0
 exact kr Tryd.results44 (rT rfl) [1] ⟨_, _, _, _, rfl, rfl, rfl, o8⟩

theorem c_s_l8Right (fl : Nat) (w : World) (a0 : Sy) (a1 : Int) (hn0_0 : n0_0 = (a0.t.b).length) (hr0_0 : RO w (hkeys []) (RdL p0_0 c0_0 a0.t.b)) (hn0_1 : n0_1 = (a0.t.f).length) (hr0_1 : RO w (hkeys []) (RdL p0_1 c0_1 a0.t.f)) (hn0_2 : n0_2 = (a0.c).length) (hr0_2 : ROD w (hkeys []) p0_2 c0_2 a0.c) (r : Bool) (H0 : s_l8Right fl a0 a1 = some r) :
  Ct Tryd.prog 34 [.agg #[.slice p0_0 n0_0 c0_0, .slice p0_1 n0_1 c0_1, .slice p0_2 n0_2 c0_2], .int .i64 a1] w [] (fun rv h' => rv = .bool r ∧ h' = []) := by
 subst hn0_0 hn0_1 hn0_2
 unfold s_l8Right at H0
 refine ct_of_cw Tryd.func34 rfl Tryd.ntmps34 rfl (Sat.refl _ _) ?_
 refine sr (oE (stpU_box 0 rfl rfl) rfl ?_)
 rintro _ _ ⟨b1, rfl, rfl⟩
 obtain ⟨x2, e2, H0⟩ := bS H0
 refine oS rfl (nn (sr (oB3 0 ts29 rfl (oE (stpU_call (fun i => 1 + i) cf62 (fun w hw => c_s_SystemValid fl w a0 rfl (RO.pass hr0_0 hw) rfl (RO.pass hr0_1 hw) rfl (ROD.pass hr0_2 hw) x2 e2) (yA rfl)) rfl ?_))))
 rintro _ _ ⟨_, ⟨rfl, rfl⟩, rfl⟩
 obtain ⟨y3, ey3, H0⟩ := bS H0
 refine oM rfl (ow_cutY 3 10 y3 ?_ ?_)
 ·rcases Bool.eq_false_or_eq_true x2 with hy3 | hy3
  ·have ey3 := cond_t ey3 hy3
   refine oG rfl hy3 (mv rfl) rfl (oG rfl hy3 (stp_geq rfl rfl) rfl (oD (stp_pick_t rfl hy3 rfl) rfl ?_))
   obtain rfl := sI ey3
   exact ow_nil (jy 3 0)
  have ey3 := cond_f ey3 hy3
  refine oO rfl hy3 rfl (oO rfl hy3 rfl (oD (stp_pick_f rfl hy3 rfl) rfl ?_))
  obtain rfl := sI ey3
  exact ow_nil (jy 3 0)
 obtain ⟨y4, ey4, H0⟩ := bS H0
 refine oM rfl (ow_cutY 6 17 y4 ?_ ?_)
 ·rcases Bool.eq_false_or_eq_true y3 with hy4 | hy4
  ·have ey4 := cond_t ey4 hy4
   refine oG rfl hy4 (mv rfl) rfl (oG rfl hy4 (fA 2 Tryd.underlying29 rfl ts27 rfl rfl rfl) rfl (oG rfl hy4 (lB 0 ts27 rfl rfl rfl) rfl (oG rfl hy4 (stp_len Tryd.underlying27 rfl) rfl (oG rfl hy4 (stp_lss rfl rfl) rfl (oD (stp_pick_t rfl hy4 rfl) rfl ?_)))))
   obtain rfl := sI ey4
   exact ow_nil (jy 6 0)
  have ey4 := cond_f ey4 hy4
  refine oO rfl hy4 rfl (oO rfl hy4 rfl (oO rfl hy4 rfl (oO rfl hy4 rfl (oO rfl hy4 rfl (oD (stp_pick_f rfl hy4 rfl) rfl ?_)))))
  obtain rfl := sI ey4
  exact ow_nil (jy 6 0)
 refine oS rfl (nn (cw_ret ?_))
 obtain rfl := sI H0
 exact kr Tryd.results34 (rT rfl) [] ⟨rfl, rfl⟩

theorem c_s_l8Without (fl : Nat) (w : World) (a0 : (List Nt)) (a1 : K) (hn0_0 : n0_0 = (a0).length) (hr0_0 : RO w (hkeys []) (RdL p0_0 c0_0 a0)) (r : (List Nt)) (H0 : s_l8Without fl a0 a1 = some r) :
  Ct Tryd.prog 39 [.slice p0_0 n0_0 c0_0, .agg #[.int .i64 a1.s, .int .i64 a1.p]] w [] (fun rv h' => ∃ (x0 : Option Addr) (y0 z0 : Nat) (C0 : Res), rv = .slice x0 y0 z0 ∧ h' = [(0, C0)] ∧ y0 = (r).length ∧ OwnC 53 x0 z0 r C0) := by
 subst hn0_0
 unfold s_l8Without at H0
 refine ct_of_cw Tryd.func39 rfl Tryd.ntmps39 rfl (Sat.refl _ _) ?_
 refine sr (oE (stpU_box 0 rfl rfl) rfl ?_)
 rintro _ _ ⟨b1, rfl, rfl⟩
 refine oS rfl (nn (sr (oE (stpU_lit0 sl41 1) rfl ?_)))
 rintro _ _ ⟨p2, C3, rfl, rfl, o3⟩
 obtain ⟨o0_0, eo0_0, H0⟩ := bS H0
 refine oS rfl (nn (cw_seq (sr (oS rfl (nn (cw_join (ι := (List Nt) × Int × Option Addr × Nat × Nat × Res) (fun | (v4, v9, p5, n6, c7, C8) => o0_0 = .out (v4, v9) ∧ n6 = (v4).length ∧ OwnC 53 p5 c7 v4 C8) (fun | (v4, v9, p5, n6, c7, C8) => [(0, .slice p0_0 ((a0).length) c0_0), (3, .pointer (some ⟨b1, 0, none⟩)), (5, .slice p5 n6 c7), (6, .int .i64 v9)]) (fun | (v4, v9, p5, n6, c7, C8) => [(0, [(b1, .cells #[.int .i64 a1.s, .int .i64 a1.p] 36 (0, 0))]), (1, C8)]) ?_ ?_))))))
 ·refine cw_block (cw_loopS (ι := Nat × (List Nt) × Int × Option Addr × Nat × Nat × Res) (js := [0, 1]) (fun x => x.1) (fun | (fuel, v4, v9, p5, n6, c7, C8) => s_l8Without_L0 fl a0 a1 fuel v4 v9 = some o0_0 ∧ n6 = (v4).length ∧ OwnC 53 p5 c7 v4 C8) (fun | (_, v4, v9, p5, n6, c7, C8) => [(0, .slice p0_0 ((a0).length) c0_0), (3, .pointer (some ⟨b1, 0, none⟩)), (5, .slice p5 n6 c7), (6, .int .i64 v9)]) (fun | (_, v4, v9, p5, n6, c7, C8) => [(0, [(b1, .cells #[.int .i64 a1.s, .int .i64 a1.p] 36 (0, 0))]), (1, C8)]) (fl, ([] : List Nt), 0, p2, 0, 0, C3) ⟨eo0_0, (by simp), o3⟩ ⟨rfl, rfl, rfl, rfl, trivial⟩ ⟨0, [1], rfl, rfl, 1, [], rfl, rfl, trivial⟩ (by decide) ?_)
  rintro ⟨fuel, v4, v9, p5, _, c7, C8⟩ ⟨H1, rfl, o8⟩
  have H1 : s_l8Without_L0 fl a0 a1 fuel v4 v9 = some o0_0 := H1
  rcases fuel with _ | fuel
  ·rw [s_l8Without_L0.eq_1] at H1; cases H1
  rw [s_l8Without_L0.eq_2] at H1
  dsimp only
  refine cw_seq (sr (oM rfl (oM rfl (oD (stp_len Tryd.underlying41 rfl) rfl (oW rfl (nn (cw_cond rfl (fun h10 => ?_) (fun h10 => ?_))))))))
  ·have H1 := cond_t H1 h10
   obtain ⟨x11, e11, H1⟩ := bS H1
   refine cw_skip (kw_nx (cw_seq (cw_block (cw_seq (rdq g_mixed [0, 3, 6] [0] { dst := dS [15, 16, 17, 18, 19, 20, 21], pre := gA [] [[], [], [0, 1], [0, 1, 2], rn 0 4, [], rn 0 6], ids := fun _ => [], rs := rL [[(0, 0)], [(6, 0)], [(14, 1), (15, 2)], [(16, 3)], [(17, 4)], [(3, 0)], [(18, 5), (19, 6)]], rh := rL [[], [], [], [], [], [(0, 0)]], V := fun i g => gA undef [.slice p0_0 ((a0).length) c0_0, .int .i64 v9, .pointer (some ⟨eB p0_0, eO p0_0 + Int.toNat v9 * Enc.sz Nt + 0, none⟩), .pointer (some ⟨eB p0_0, eO p0_0 + Int.toNat v9 * Enc.sz Nt + 0, none⟩), .agg #[.int .i64 x11.k.s, .int .i64 x11.k.p], .agg #[.int .i64 a1.s, .int .i64 a1.p], .bool (x11.k != a1)] i, U := fun _ _ => [], Φ := fun _ _ => True } ?_ ?_)))))
   ·exact ⟨lM, lM, lc rfl rfl fun hs hh => stp_indexAddr Tryd.underlying41 ts53 (by decide) (sv hs 14 rfl) rfl (sv hs 15 rfl) (Rdb.ro hr0_0) e11, lc rfl rfl fun hs hh => stp_fieldAddr (j := 0) Tryd.underlying53 rfl ts36 rfl (sv hs 16 rfl) rfl, lc rfl rfl fun hs hh => stp_loadN (us := [_, _]) ts36 (sv hs 17 rfl) (Cells.el (Rdb.ro hr0_0) (by decide) e11 0 2 rfl), lc rfl rfl fun hs hh => stp_loadN (us := [_, _]) ts36 (sv hs 3 rfl) (Cells.box (id := 0) (hh.get 0 _ rfl) 2 rfl), lc rfl rfl fun hs hh => stp_neqS te36 x11.k a1 (sv hs 18 rfl) (sv hs 19 rfl), trivial⟩
   intro g hΦ
   refine KW.sub (s' := [(0, .slice p0_0 ((a0).length) c0_0), (3, .pointer (some ⟨b1, 0, none⟩)), (5, .slice p5 ((v4).length) c7), (6, .int .i64 v9), (20, .bool (x11.k != a1))]) (h' := [(0, [(b1, .cells #[.int .i64 a1.s, .int .i64 a1.p] 36 (0, 0))]), (1, C8)]) ?_ ⟨rfl, rfl, rfl, rfl, rfl, trivial⟩ ⟨rfl, rfl, trivial⟩
   refine kw_nx (cw_cond rfl (fun h12 => ?_) (fun h12 => ?_))
   ·have H1 := cond_t H1 h12
    refine cw_region (oM rfl (oM rfl (oM rfl (oD (stp_indexAddr Tryd.underlying41 ts53 (by decide) rfl rfl rfl (Rdb.ro hr0_0) e11) rfl (oD (stp_loadN (us := [_, _, _]) ts53 rfl (Cells.el (Rdb.ro hr0_0) (by decide) e11 0 3 rfl)) rfl (oE (stpU_lit (sz := 3) (l := [x11]) [.agg #[.int .i64 x11.k.s, .int .i64 x11.k.p, .int .i64 x11.fr]] sl41 2 (sevp_cons rfl sevp_nil) rfl rfl rfl rfl rfl rfl rfl rfl rfl) rfl ?_))))))
    rintro _ _ ⟨p13, C14, rfl, rfl, o14⟩
    obtain ⟨x15, e15, H1⟩ := bS H1
    refine oE (stpU_append sl41 rfl (id := 1) rfl rfl rfl (by simp) rfl o8 (Rdb.own (id := 2) rfl o14) e15) rfl ?_
    rintro _ _ ⟨p16, c17, C18, rfl, rfl, o18⟩
    obtain ⟨x19, e19, H1⟩ := bS H1
    exact oS rfl (ow_nil (kw_bl_normal (kw_nx (cw_region (oM rfl (oP e19 rfl (oS rfl (ow_nil (kw_lqS (js := [0, 1]) (fuel, x15, x19, p16, ((x15).length), c17, C18) ⟨H1, rfl, o18⟩ (Nat.lt_succ_self _) ⟨rfl, rfl, rfl, rfl, trivial⟩ ⟨0, [1], rfl, rfl, 1, [], rfl, rfl, trivial⟩ (by decide))))))))))
   have H1 := cond_f H1 h12
   obtain ⟨x20, e20, H1⟩ := bS H1
   exact cw_skip (kw_bl_normal (kw_nx (cw_region (oM rfl (oP e20 rfl (oS rfl (ow_nil (kw_lqS (js := [0, 1]) (fuel, v4, x20, p5, ((v4).length), c7, C8) ⟨H1, rfl, o8⟩ (Nat.lt_succ_self _) ⟨rfl, rfl, rfl, rfl, trivial⟩ ⟨0, [1], rfl, rfl, 1, [], rfl, rfl, trivial⟩ (by decide)))))))))
  have H1 := cond_f H1 h10
  refine cw_exit (kw_nx_exit (kw_lq_exit (kw_bl ?_)))
  obtain rfl := sI H1
  exact kw_joinS (js := [0, 1]) (v4, v9, p5, ((v4).length), c7, C8) ⟨rfl, rfl, o8⟩ ⟨rfl, rfl, rfl, rfl, trivial⟩ ⟨0, [1], rfl, rfl, 1, [], rfl, rfl, trivial⟩ (by decide)
 rintro ⟨v4, v9, p5, _, c7, C8⟩ ⟨rfl, rfl, o8⟩
 dsimp only
 refine kw_nx (sr (oM rfl (oS rfl (nn (cw_ret ?_)))))
 obtain rfl := sI H0
 exact kr Tryd.results39 (rT rfl) [1] ⟨_, _, _, _, rfl, rfl, rfl, o8⟩

theorem c_s_LookCpu (fl : Nat) (w : World) (a0 : Sy) (a1 : Int) (a2 : K) (hn0_0 : n0_0 = (a0.t.b).length) (hr0_0 : RO w (hkeys []) (RdL p0_0 c0_0 a0.t.b)) (hn0_1 : n0_1 = (a0.t.f).length) (hr0_1 : RO w (hkeys []) (RdL p0_1 c0_1 a0.t.f)) (hn0_2 : n0_2 = (a0.c).length) (hr0_2 : ROD w (hkeys []) p0_2 c0_2 a0.c) (r : Sy × Int × Int × Bool) (H0 : s_LookCpu fl a0 a1 a2 = some r) :
  Ct Tryd.prog 11 [.agg #[.slice p0_0 n0_0 c0_0, .slice p0_1 n0_1 c0_1, .slice p0_2 n0_2 c0_2], .int .i64 a1, .agg #[.int .i64 a2.s, .int .i64 a2.p]] w [] (fun rv h' => ∃ (x0 : Option Addr) (y0 z0 : Nat) (C0 : Res) (x1 : Option Addr) (y1 z1 : Nat) (C1 : Res) (x2 : Option Addr) (y2 z2 : Nat) (C2 : Res), rv = .tuple #[.agg #[.slice x0 y0 z0, .slice x1 y1 z1, .slice x2 y2 z2], .int .i64 r.2.1, .int .i64 r.2.2.1, .bool r.2.2.2] ∧ h' = [(0, C0), (1, C1), (2, C2)] ∧ y0 = (r.1.t.b).length ∧ OwnC 3 x0 z0 r.1.t.b C0 ∧ y1 = (r.1.t.f).length ∧ OwnC 61 x1 z1 r.1.t.f C1 ∧ y2 = (r.1.c).length ∧ OwnD 43 53 x2 z2 r.1.c C2) := by
 subst hn0_0 hn0_1 hn0_2
 unfold s_LookCpu at H0
 refine ct_of_cw Tryd.func11 rfl Tryd.ntmps11 rfl (Sat.refl _ _) ?_
 refine sr (oE (stpU_box 0 rfl rfl) rfl ?_)
 rintro _ _ ⟨b1, rfl, rfl⟩
 refine oE (stpU_box 1 rfl rfl) rfl ?_
 rintro _ _ ⟨b2, rfl, rfl⟩
 refine oE (stpU_alloc 2 tz29 rfl) rfl ?_
 rintro _ _ ⟨b3, rfl, rfl⟩
 obtain ⟨x4, e4, H0⟩ := bS H0
 refine oS rfl (oS rfl (oS rfl (nn (cw_seq (sr (oB3 0 ts29 rfl (oM rfl (oE (stpU_call (fun i => 3 + i) cf34 (fun w hw => c_s_l8Right fl w a0 a1 rfl (RO.pass hr0_0 hw) rfl (RO.pass hr0_1 hw) rfl (ROD.pass hr0_2 hw) x4 e4) (yB rfl rfl)) rfl ?_))))))))
 rintro _ _ ⟨_, ⟨rfl, rfl⟩, rfl⟩
 obtain ⟨y5, ey5, H0⟩ := bS H0
 refine oK rfl (oM rfl (ow_cutY 4 24 y5 ?_ ?_))
 ·rcases Bool.eq_false_or_eq_true (!x4) with hy5 | hy5
  ·have ey5 := cond_t ey5 hy5
   refine oO rfl hy5 rfl (oO rfl hy5 rfl (oO rfl hy5 rfl (oD (stp_pick_t rfl hy5 rfl) rfl ?_)))
   obtain rfl := sI ey5
   exact ow_nil (jy 4 0)
  have ey5 := cond_f ey5 hy5
  obtain ⟨x6, e6, ey5⟩ := bS ey5
  refine oG rfl hy5 (stp_loadN (us := [_, _]) ts36 rfl (Cells.box (id := 1) rfl 2 rfl)) rfl (ow_eff (.some rfl hy5) (stpU_call (fun i => 3 + i) cf35 (fun w hw => c_s_KeyValid fl w a2 x6 e6) (yA rfl)) rfl ?_)
  rintro _ _ ⟨_, ⟨rfl, rfl⟩, rfl⟩
  refine oG rfl hy5 (stp_not rfl) rfl (oD (stp_pick_f rfl hy5 rfl) rfl ?_)
  obtain rfl := sI ey5
  exact ow_nil (jy 4 0)
 refine ow_nil (kw_nx (cw_cond rfl (fun h7 => ?_) (fun h7 => ?_)))
 ·have H0 := cond_t H0 h7
  refine sr (oD (stp_build (cs := #[.slice none 0 0, .slice none 0 0, .slice none 0 0]) sevp_nil bt29_2) rfl (oC3 2 ts29 rfl rfl (oS rfl (oS rfl (oS rfl (nn (cw_ret (kw_nx_ret (kw_addNil 3 (kw_addNil 4 (kw_addNil 5 ?_)))))))))))
  obtain rfl := sI H0
  exact kr Tryd.results11 (.cons (.cellN (us := [_, _, _]) ts29 rfl (Cells.box (id := 2) rfl 3 rfl)) (.cons (.tmp rfl) (.cons (.tmp rfl) (rT rfl)))) [3, 4, 5] ⟨_, _, _, _, _, _, _, _, _, _, _, _, rfl, rfl, rfl, (OwnC.nil _ _), rfl, (OwnC.nil _ _), rfl, (OwnD.nil _ _ _)⟩
 have H0 := cond_f H0 h7
 obtain ⟨x8, e8, H0⟩ := bS H0
 refine cw_skip (kw_nx (sr (oB3 0 ts29 rfl (oE (stpU_call (fun i => 6 + i) cf36 (fun w hw => c_s_l8Copy fl w a0 rfl (RO.pass hr0_0 hw) rfl (RO.pass hr0_1 hw) rfl (ROD.pass hr0_2 hw) x8 e8) (yA rfl)) rfl ?_))))
 rintro _ _ ⟨_, ⟨p9, _, c11, C12, p13, _, c15, C16, p17, _, c19, C20, rfl, rfl, rfl, o12, rfl, o16, rfl, o20⟩, rfl⟩
 refine oE (stpU_alloc 9 tz29 rfl) rfl ?_
 rintro _ _ ⟨b21, rfl, rfl⟩
 obtain ⟨x22, e22, H0⟩ := bS H0
 refine oC3 9 ts29 rfl rfl (nn (cw_seq ?_))
 obtain ⟨u23, p24, n25, c26, p27, n28, c29, hw23, hl23, hx23, rfl, hr23, rfl, hs23⟩ := ROD.get hr0_2 e22
 obtain ⟨x30, e30, H0⟩ := bS H0
 refine rdq g_mixed [1, 3, 5] [0, 1] { dst := dS [29, 30, 31, 32, 33, 34, 35, 36, 12], pre := gA [] [[], [0], [], [0, 1, 2], rn 0 4, rn 0 5, [], rn 0 7, rn 0 8], ids := fun _ => [], rs := rL [[(3, 0)], [(28, 1)], [(1, 0)], [(29, 2), (30, 3)], [(31, 4)], [(32, 5)], [(5, 0)], [(33, 6), (34, 7)], [(35, 8)]], rh := rL [[], [(0, 0)], [], [], [], [], [(1, 0)]], V := fun i g => gA undef [.pointer (some ⟨b1, 2, none⟩), .slice p0_2 ((a0.c).length) c0_2, .int .i64 a1, .pointer (some ⟨eB p0_2, eO p0_2 + Int.toNat a1 * Enc.sz CpS + 0, none⟩), .pointer (some ⟨eB p0_2, eO p0_2 + Int.toNat a1 * Enc.sz CpS + 0, none⟩), .slice p24 ((x22.n).length) c26, .agg #[.int .i64 a2.s, .int .i64 a2.p], .int .i64 x30, .int .i64 x30] i, U := fun _ _ => [], Φ := fun _ _ => True } ?_ ?_
 ·refine ⟨lc rfl rfl fun hs hh => stp_fieldAddr (j := 2) Tryd.underlying29 rfl ts27 rfl (sv hs 3 rfl) rfl, lc rfl rfl fun hs hh => stp_load1 ts27 (sv hs 28 rfl) (Cells.box (id := 0) (hh.get 0 _ rfl) 1 rfl), lM, lc rfl rfl fun hs hh => stp_indexAddr Tryd.underlying27 ts43 (by decide) (sv hs 29 rfl) hl23 (sv hs 30 rfl) (Rdb.ro hw23) hx23, lc rfl rfl fun hs hh => stp_fieldAddr (j := 0) Tryd.underlying43 rfl ts41 rfl (sv hs 31 rfl) rfl, lc rfl rfl fun hs hh => stp_load1 ts41 (sv hs 32 rfl) (Cells.el (Rdb.ro hw23) (by decide) hx23 0 1 rfl), lc rfl rfl fun hs hh => stp_loadN (us := [_, _]) ts36 (sv hs 5 rfl) (Cells.box (id := 1) (hh.get 1 _ rfl) 2 rfl), ?_, lS, trivial⟩
  refine le rfl rfl (fun g hΦ s h hs hh => (stpU_call (fun i => 10 + i) cf37 (fun w hw => c_s_l8Find fl w x22.n a2 rfl (RO.pass hr23 hw) x30 e30) (yB (sv hs 33 rfl) (sv hs 34 rfl)))) ?_
  rintro g _ _ ⟨_, ⟨rfl, rfl⟩, rfl⟩
  exact ⟨⟨[], [], []⟩, trivial, .inr rfl, rfl⟩
 intro g hΦ
 refine KW.sub (s' := [(1, .int .i64 a1), (3, .pointer (some ⟨b1, 0, none⟩)), (5, .pointer (some ⟨b2, 0, none⟩)), (6, .pointer (some ⟨b3, 0, none⟩)), (10, .pointer (some ⟨b21, 0, none⟩)), (11, .int .i64 x30)]) (h' := [(0, [(b1, .cells #[.slice p0_0 ((a0.t.b).length) c0_0, .slice p0_1 ((a0.t.f).length) c0_1, .slice p0_2 ((a0.c).length) c0_2] 29 (0, 0))]), (1, [(b2, .cells #[.int .i64 a2.s, .int .i64 a2.p] 36 (0, 0))]), (2, [(b3, .cells #[.slice none 0 0, .slice none 0 0, .slice none 0 0] 29 (0, 0))]), (6, C12), (7, C16), (8, C20), (9, [(b21, .cells #[.slice p9 ((x8.t.b).length) c11, .slice p13 ((x8.t.f).length) c15, .slice p17 ((x8.c).length) c19] 29 (0, 0))])]) ?_ ⟨rfl, rfl, rfl, rfl, rfl, rfl, trivial⟩ ⟨rfl, rfl, rfl, rfl, rfl, rfl, rfl, trivial⟩
 refine kw_nx (cw_seq (sr (oM rfl (oI rfl (nn (cw_cond rfl (fun h31 => ?_) (fun h31 => ?_)))))))
 ·have H0 := cond_t H0 h31
  obtain ⟨x32, e32, H0⟩ := bS H0
  refine cw_seq (rdq g_mixed [1, 3, 6, 10, 11] [0, 2, 9] { dst := dS [39, 40, 41, 42, 43, 44, 45, 46, 47, 48, 49, 0, 8, 9, 10], pre := gA [] [[], [], [1], [], [1, 2, 3], rn 1 4, rn 1 5, [], rn 1 7, rn 1 8, rn 1 9, [0], rn 0 12, rn 0 13, rn 0 14], ids := fun i => match i with | 11 => [2] | _ => [], rs := rL [[(10, 0)], [(3, 0)], [(39, 2)], [(1, 0)], [(40, 3), (41, 4)], [(42, 5)], [(43, 6)], [(11, 0)], [(44, 7), (45, 8)], [(46, 9)], [(47, 10)], [(6, 0), (38, 1)], [(48, 11)], [], []], rh := rL [[(9, 0)], [], [(0, 0)], [], [], [], [], [], [], [], [], [(2, 0)]], V := fun i g => gA undef [.agg #[.slice p9 ((x8.t.b).length) c11, .slice p13 ((x8.t.f).length) c15, .slice p17 ((x8.c).length) c19], .pointer (some ⟨b1, 2, none⟩), .slice p0_2 ((a0.c).length) c0_2, .int .i64 a1, .pointer (some ⟨eB p0_2, eO p0_2 + Int.toNat a1 * Enc.sz CpS + 0, none⟩), .pointer (some ⟨eB p0_2, eO p0_2 + Int.toNat a1 * Enc.sz CpS + 0, none⟩), .slice p24 ((x22.n).length) c26, .int .i64 x30, .pointer (some ⟨eB p24, eO p24 + Int.toNat x30 * Enc.sz Nt + 0, none⟩), .pointer (some ⟨eB p24, eO p24 + Int.toNat x30 * Enc.sz Nt + 2, none⟩), .int .i64 x32.fr, undef, .int .i64 x32.fr, .int .i64 1, .bool true] i, U := fun i g => match i with | 11 => [(2, [(b3, .cells #[.slice p9 ((x8.t.b).length) c11, .slice p13 ((x8.t.f).length) c15, .slice p17 ((x8.c).length) c19] 29 (0, 0))])] | _ => [], Φ := fun _ _ => True } ?_ ?_)
  ·refine ⟨lc rfl rfl fun hs hh => stp_loadN (us := [_, _, _]) ts29 (sv hs 10 rfl) (Cells.box (id := 9) (hh.get 9 _ rfl) 3 rfl), lc rfl rfl fun hs hh => stp_fieldAddr (j := 2) Tryd.underlying29 rfl ts27 rfl (sv hs 3 rfl) rfl, lc rfl rfl fun hs hh => stp_load1 ts27 (sv hs 39 rfl) (Cells.box (id := 0) (hh.get 0 _ rfl) 1 rfl), lM, lc rfl rfl fun hs hh => stp_indexAddr Tryd.underlying27 ts43 (by decide) (sv hs 40 rfl) hl23 (sv hs 41 rfl) (Rdb.ro hw23) hx23, lc rfl rfl fun hs hh => stp_fieldAddr (j := 0) Tryd.underlying43 rfl ts41 rfl (sv hs 42 rfl) rfl, lc rfl rfl fun hs hh => stp_load1 ts41 (sv hs 43 rfl) (Cells.el (Rdb.ro hw23) (by decide) hx23 0 1 rfl), lM, lc rfl rfl fun hs hh => stp_indexAddr Tryd.underlying41 ts53 (by decide) (sv hs 44 rfl) rfl (sv hs 45 rfl) (Rdb.ro hr23) e32, lc rfl rfl fun hs hh => stp_fieldAddr (j := 2) Tryd.underlying53 rfl ts3 rfl (sv hs 46 rfl) rfl, lc rfl rfl fun hs hh => stp_load1 ts3 (sv hs 47 rfl) (Cells.el (Rdb.ro hr23) (by decide) e32 2 1 rfl), ?_, lS, lc rfl rfl fun hs hh => stp_assign rfl, lc rfl rfl fun hs hh => stp_assign rfl, trivial⟩
   refine le rfl rfl (fun g hΦ s h hs hh => (stpU_store (id := 2) (cs' := [.slice p9 ((x8.t.b).length) c11, .slice p13 ((x8.t.f).length) c15, .slice p17 ((x8.c).length) c19]) ts29 (sv hs 6 rfl) (sv hs 38 rfl) (hh.get 2 _ rfl) rfl rfl rfl rfl)) ?_
   rintro g _ _ rfl
   exact ⟨⟨[], [], []⟩, trivial, .inl rfl, rfl⟩
  intro g hΦ
  refine KW.sub (s' := [(6, .pointer (some ⟨b3, 0, none⟩)), (7, .int .i64 x32.fr), (8, .int .i64 1), (9, .bool true)]) (h' := [(2, [(b3, .cells #[.slice p9 ((x8.t.b).length) c11, .slice p13 ((x8.t.f).length) c15, .slice p17 ((x8.c).length) c19] 29 (0, 0))]), (6, C12), (7, C16), (8, C20)]) ?_ ⟨rfl, rfl, rfl, rfl, trivial⟩ ⟨rfl, rfl, rfl, rfl, trivial⟩
  refine kw_nx (cw_ret (kw_nx_ret ?_))
  obtain rfl := sI H0
  exact kr Tryd.results11 (.cons (.cellN (us := [_, _, _]) ts29 rfl (Cells.box (id := 2) rfl 3 rfl)) (.cons (.tmp rfl) (.cons (.tmp rfl) (rT rfl)))) [6, 7, 8] ⟨_, _, _, _, _, _, _, _, _, _, _, _, rfl, rfl, rfl, o12, rfl, o16, rfl, o20⟩
 have H0 := cond_f H0 h31
 obtain ⟨x33, e33, H0⟩ := bS H0
 refine cw_skip (kw_nx (sr (oA 0 Tryd.underlying29 rfl ts26 rfl (oB2 0 ts26 rfl (oB2 1 ts36 rfl (oE (stpU_call (fun i => 10 + i) cf38 (fun w hw => c_s_l3Find fl w a0.t a2 rfl (RO.pass hr0_0 hw) rfl (RO.pass hr0_1 hw) x33 e33) (yB rfl rfl)) rfl ?_))))))
 rintro _ _ ⟨_, ⟨rfl, rfl⟩, rfl⟩
 refine oM rfl (oT rfl (oT rfl (oS rfl (oS rfl (nn (cw_seq (sr (oM rfl (oW rfl (nn (cw_cond rfl (fun h34 => ?_) (fun h34 => ?_))))))))))))
 ·have H0 := cond_t H0 h34
  refine sr (oB3 9 ts29 rfl (oC3 2 ts29 rfl rfl (oS rfl (oS rfl (oS rfl (nn (cw_ret (kw_nx_ret ?_))))))))
  obtain rfl := sI H0
  exact kr Tryd.results11 (.cons (.cellN (us := [_, _, _]) ts29 rfl (Cells.box (id := 2) rfl 3 rfl)) (.cons (.tmp rfl) (.cons (.tmp rfl) (rT rfl)))) [6, 7, 8] ⟨_, _, _, _, _, _, _, _, _, _, _, _, rfl, rfl, rfl, o12, rfl, o16, rfl, o20⟩
 have H0 := cond_f H0 h34
 obtain ⟨x35, e35, H0⟩ := bS H0
 refine cw_skip (kw_nx (sr (oA 2 Tryd.underlying29 rfl ts27 rfl (oL 9 ts27 rfl (oM rfl (ow_open 8 10 11 12 rfl o20 e35 ?_))))))
 rintro u36 p37 n38 c39 p40 n41 c42 C43 C44 C45 C46 o43 hb44 hx36 rfl o45 rfl o46
 refine oD (stp_indexAddr Tryd.underlying27 ts43 (by decide) rfl (Bun.len hb44) rfl (Rdb.own (id := 8) rfl o43) hx36) rfl (oD (stp_loadN (us := [_, _]) ts43 rfl (Cells.el (Rdb.own (id := 8) rfl o43) (by decide) hx36 0 2 rfl)) rfl (oE (stpU_alloc 13 tz43 rfl) rfl ?_))
 rintro _ _ ⟨b47, rfl, rfl⟩
 refine oC2 13 ts43 rfl rfl (nn (cw_seq (sr (oA 0 Tryd.underlying43 rfl ts41 rfl (oL 13 ts41 rfl (oD (stp_len Tryd.underlying41 rfl) rfl (oQ rfl (nn (cw_cond rfl (fun h48 => ?_) (fun h48 => ?_))))))))))
 ·have H0 := cond_t H0 h48
  obtain ⟨x49, e49, H0⟩ := bS H0
  refine sr (oA 0 Tryd.underlying43 rfl ts41 rfl (oL 13 ts41 rfl (oD (stp_indexAddr Tryd.underlying41 ts53 (by decide) rfl rfl rfl (Rdb.own (id := 11) rfl o45) e49) rfl (oA 0 Tryd.underlying53 rfl ts36 rfl (oD (stp_loadN (us := [_, _]) ts36 rfl (Cells.el (Rdb.own (id := 11) rfl o45) (by decide) e49 0 2 rfl)) rfl (oE (stpU_alloc 14 tz36 rfl) rfl ?_))))))
  rintro _ _ ⟨b50, rfl, rfl⟩
  obtain ⟨x51, e51, H0⟩ := bS H0
  refine oC2 14 ts36 rfl rfl (nn (sr (oA 0 Tryd.underlying43 rfl ts41 rfl (oL 13 ts41 rfl (oB2 14 ts36 rfl (oE (stpU_call (fun i => 15 + i) cf39 (fun w hw => c_s_l8Without fl w x35.n x49.k rfl (OwnC.pass (id := 11) rfl o45 hw) x51 e51) (yB rfl rfl)) rfl ?_))))))
  rintro _ _ ⟨_, ⟨p52, _, c54, C55, rfl, rfl, rfl, o55⟩, rfl⟩
  obtain ⟨x56, e56, H0⟩ := bS H0
  refine oA 0 Tryd.underlying43 rfl ts41 rfl (oC2 13 ts41 rfl rfl (nn (cw_region (oA 1 Tryd.underlying43 rfl ts41 rfl (oL 13 ts41 rfl (oB2 14 ts36 rfl (oE (stpU_call (fun i => 16 + i) cf39 (fun w hw => c_s_l8Without fl w x35.w x49.k rfl (OwnC.pass (id := 12) rfl o46 hw) x56 e56) (yB rfl rfl)) rfl ?_)))))))
  rintro _ _ ⟨_, ⟨p57, _, c59, C60, rfl, rfl, rfl, o60⟩, rfl⟩
  refine oA 1 Tryd.underlying43 rfl ts41 rfl (oC2 13 ts41 rfl rfl (nn (sr (oA 0 Tryd.underlying43 rfl ts41 rfl (oL 13 ts41 rfl (oB2 1 ts36 rfl (oM rfl (oD (stp_build (cs := #[.int .i64 a2.s, .int .i64 a2.p, .int .i64 x33.1]) (sevp_cons rfl (sevp_cons rfl sevp_nil)) bt53_9) rfl (oE (stpU_lit (sz := 3) (l := [(⟨a2, x33.1⟩ : Nt)]) [.agg #[.int .i64 a2.s, .int .i64 a2.p, .int .i64 x33.1]] sl41 17 (sevp_cons rfl sevp_nil) rfl rfl rfl rfl rfl rfl rfl rfl rfl) rfl ?_)))))))))
  rintro _ _ ⟨p61, C62, rfl, rfl, o62⟩
  obtain ⟨x63, e63, H0⟩ := bS H0
  refine oE (stpU_append sl41 rfl (id := 15) rfl rfl rfl (by simp) rfl o55 (Rdb.own (id := 17) rfl o62) e63) rfl ?_
  rintro _ _ ⟨p64, c65, C66, rfl, rfl, o66⟩
  refine oA 0 Tryd.underlying43 rfl ts41 rfl (oC2 13 ts41 rfl rfl (nn (sr (oA 2 Tryd.underlying29 rfl ts27 rfl (oL 9 ts27 rfl (oM rfl (oB2 13 ts43 rfl (oD (stp_indexAddr Tryd.underlying27 ts43 (by decide) rfl (Bun.len hb44) rfl (Rdb.own (id := 8) rfl o43) hx36) rfl (oF (stpU_storeEl (id := 8) (i := 0) (⟨p64, (x63).length, c65, p57, (x56).length, c59⟩ : CpS) (by decide) ts43 rfl rfl rfl o43 hx36 rfl rfl rfl rfl) ?_)))))))))
  rintro _ _ ⟨C67, rfl, o67⟩
  refine nn (sr (oB3 9 ts29 rfl (oM rfl (oC3 2 ts29 rfl rfl (oS rfl (oS rfl (oS rfl (nn (cw_ret (kw_shut 8 10 15 16 o67 (Bun.setL (Bun.set hb44 _) _) (idx_some (idx_set hx36)).2.2 (idx_setD e35 (⟨x63, x56⟩ : Cp)) rfl o66 rfl o60 ?_))))))))))
  rintro C68 o68
  obtain rfl := sI H0
  exact kr Tryd.results11 (.cons (.cellN (us := [_, _, _]) ts29 rfl (Cells.box (id := 2) rfl 3 rfl)) (.cons (.tmp rfl) (.cons (.tmp rfl) (rT rfl)))) [6, 7, 8] ⟨_, _, _, _, _, _, _, _, _, _, _, _, rfl, rfl, rfl, o12, rfl, o16, (by simp), o68⟩
 have H0 := cond_f H0 h48
 refine cw_skip (kw_nx (sr (oA 0 Tryd.underlying43 rfl ts41 rfl (oL 13 ts41 rfl (oB2 1 ts36 rfl (oM rfl (oD (stp_build (cs := #[.int .i64 a2.s, .int .i64 a2.p, .int .i64 x33.1]) (sevp_cons rfl (sevp_cons rfl sevp_nil)) bt53_9) rfl (oE (stpU_lit (sz := 3) (l := [(⟨a2, x33.1⟩ : Nt)]) [.agg #[.int .i64 a2.s, .int .i64 a2.p, .int .i64 x33.1]] sl41 18 (sevp_cons rfl sevp_nil) rfl rfl rfl rfl rfl rfl rfl rfl rfl) rfl ?_))))))))
 rintro _ _ ⟨p69, C70, rfl, rfl, o70⟩
 obtain ⟨x71, e71, H0⟩ := bS H0
 refine oE (stpU_append sl41 rfl (id := 11) rfl rfl rfl (by simp) rfl o45 (Rdb.own (id := 18) rfl o70) e71) rfl ?_
 rintro _ _ ⟨p72, c73, C74, rfl, rfl, o74⟩
 refine oA 0 Tryd.underlying43 rfl ts41 rfl (oC2 13 ts41 rfl rfl (nn (sr (oA 2 Tryd.underlying29 rfl ts27 rfl (oL 9 ts27 rfl (oM rfl (oB2 13 ts43 rfl (oD (stp_indexAddr Tryd.underlying27 ts43 (by decide) rfl (Bun.len hb44) rfl (Rdb.own (id := 8) rfl o43) hx36) rfl (oF (stpU_storeEl (id := 8) (i := 0) (⟨p72, (x71).length, c73, p40, (x35.w).length, c42⟩ : CpS) (by decide) ts43 rfl rfl rfl o43 hx36 rfl rfl rfl rfl) ?_)))))))))
 rintro _ _ ⟨C75, rfl, o75⟩
 refine nn (sr (oB3 9 ts29 rfl (oM rfl (oC3 2 ts29 rfl rfl (oS rfl (oS rfl (oS rfl (nn (cw_ret (kw_shut 8 10 11 12 o75 (Bun.setL (Bun.set hb44 _) _) (idx_some (idx_set hx36)).2.2 (idx_setD e35 (⟨x71, x35.w⟩ : Cp)) rfl o74 rfl o46 ?_))))))))))
 rintro C76 o76
 obtain rfl := sI H0
 exact kr Tryd.results11 (.cons (.cellN (us := [_, _, _]) ts29 rfl (Cells.box (id := 2) rfl 3 rfl)) (.cons (.tmp rfl) (.cons (.tmp rfl) (rT rfl)))) [6, 7, 8] ⟨_, _, _, _, _, _, _, _, _, _, _, _, rfl, rfl, rfl, o12, rfl, o16, (by simp), o76⟩

theorem c_s_FindPage (fl : Nat) (w : World) (a0 : T) (a1 : K) (hn0_0 : n0_0 = (a0.b).length) (hr0_0 : RO w (hkeys []) (RdL p0_0 c0_0 a0.b)) (hn0_1 : n0_1 = (a0.f).length) (hr0_1 : RO w (hkeys []) (RdL p0_1 c0_1 a0.f)) (r : Int × Int × Bool) (H0 : s_FindPage fl a0 a1 = some r) :
  Ct Tryd.prog 84 [.agg #[.slice p0_0 n0_0 c0_0, .slice p0_1 n0_1 c0_1], .agg #[.int .i64 a1.s, .int .i64 a1.p]] w [] (fun rv h' => rv = .tuple #[.int .i64 r.1, .int .i64 r.2.1, .bool r.2.2] ∧ h' = []) := by
 subst hn0_0 hn0_1
 unfold s_FindPage at H0
 refine ct_of_cw Tryd.func84 rfl Tryd.ntmps84 rfl (Sat.refl _ _) ?_
 refine sr (oE (stpU_box 0 rfl rfl) rfl ?_)
 rintro _ _ ⟨b1, rfl, rfl⟩
 refine oE (stpU_box 1 rfl rfl) rfl ?_
 rintro _ _ ⟨b2, rfl, rfl⟩
 obtain ⟨x3, e3, H0⟩ := bS H0
 refine oS rfl (oS rfl (oS rfl (nn (cw_seq (sr (oB2 0 ts26 rfl (oE (stpU_call (fun i => 2 + i) cf71 (fun w hw => c_s_TableValid fl w a0 rfl (RO.pass hr0_0 hw) rfl (RO.pass hr0_1 hw) x3 e3) (yA rfl)) rfl ?_)))))))
 rintro _ _ ⟨_, ⟨rfl, rfl⟩, rfl⟩
 obtain ⟨y4, ey4, H0⟩ := bS H0
 refine oK rfl (oM rfl (ow_cutY 4 16 y4 ?_ ?_))
 ·rcases Bool.eq_false_or_eq_true (!x3) with hy4 | hy4
  ·have ey4 := cond_t ey4 hy4
   refine oO rfl hy4 rfl (oO rfl hy4 rfl (oO rfl hy4 rfl (oD (stp_pick_t rfl hy4 rfl) rfl ?_)))
   obtain rfl := sI ey4
   exact ow_nil (jy 4 0)
  have ey4 := cond_f ey4 hy4
  obtain ⟨x5, e5, ey4⟩ := bS ey4
  refine oG rfl hy4 (stp_loadN (us := [_, _]) ts36 rfl (Cells.box (id := 1) rfl 2 rfl)) rfl (ow_eff (.some rfl hy4) (stpU_call (fun i => 2 + i) cf35 (fun w hw => c_s_KeyValid fl w a1 x5 e5) (yA rfl)) rfl ?_)
  rintro _ _ ⟨_, ⟨rfl, rfl⟩, rfl⟩
  refine oG rfl hy4 (stp_not rfl) rfl (oD (stp_pick_f rfl hy4 rfl) rfl ?_)
  obtain rfl := sI ey4
  exact ow_nil (jy 4 0)
 refine ow_nil (kw_nx (cw_cond rfl (fun h6 => ?_) (fun h6 => ?_)))
 ·have H0 := cond_t H0 h6
  refine sr (oS rfl (oS rfl (oS rfl (nn (cw_ret (kw_nx_ret ?_))))))
  obtain rfl := sI H0
  exact kr Tryd.results84 (.cons (.tmp rfl) (.cons (.tmp rfl) (rT rfl))) [] ⟨rfl, rfl⟩
 have H0 := cond_f H0 h6
 obtain ⟨x7, e7, H0⟩ := bS H0
 refine cw_skip (kw_nx (sr (oB2 0 ts26 rfl (oB2 1 ts36 rfl (oE (stpU_call (fun i => 2 + i) cf38 (fun w hw => c_s_l3Find fl w a0 a1 rfl (RO.pass hr0_0 hw) rfl (RO.pass hr0_1 hw) x7 e7) (yB rfl rfl)) rfl ?_)))))
 rintro _ _ ⟨_, ⟨rfl, rfl⟩, rfl⟩
 refine oM rfl (oT rfl (oT rfl (oS rfl (oS rfl (nn (cw_seq (sr (oM rfl (oW rfl (nn (cw_cond rfl (fun h8 => ?_) (fun h8 => ?_))))))))))))
 ·have H0 := cond_t H0 h8
  refine sr (oM rfl (oS rfl (oS rfl (oS rfl (nn (cw_ret (kw_nx_ret ?_)))))))
  obtain rfl := sI H0
  exact kr Tryd.results84 (.cons (.tmp rfl) (.cons (.tmp rfl) (rT rfl))) [] ⟨rfl, rfl⟩
 have H0 := cond_f H0 h8
 refine cw_skip (kw_nx (sr (oM rfl (oM rfl (oS rfl (oS rfl (oS rfl (nn (cw_ret ?_)))))))))
 obtain rfl := sI H0
 exact kr Tryd.results84 (.cons (.tmp rfl) (.cons (.tmp rfl) (rT rfl))) [] ⟨rfl, rfl⟩

theorem c_s_l3Unmap (fl : Nat) (w : World) (a0 : T) (a1 : Int) (hn0_0 : n0_0 = (a0.b).length) (hr0_0 : RO w (hkeys []) (RdL p0_0 c0_0 a0.b)) (hn0_1 : n0_1 = (a0.f).length) (hr0_1 : RO w (hkeys []) (RdL p0_1 c0_1 a0.f)) (r : T) (H0 : s_l3Unmap fl a0 a1 = some r) :
  Ct Tryd.prog 85 [.agg #[.slice p0_0 n0_0 c0_0, .slice p0_1 n0_1 c0_1], .int .i64 a1] w [] (fun rv h' => ∃ (x0 : Option Addr) (y0 z0 : Nat) (C0 : Res) (x1 : Option Addr) (y1 z1 : Nat) (C1 : Res), rv = .agg #[.slice x0 y0 z0, .slice x1 y1 z1] ∧ h' = [(0, C0), (1, C1)] ∧ y0 = (r.b).length ∧ OwnC 3 x0 z0 r.b C0 ∧ y1 = (r.f).length ∧ OwnC 61 x1 z1 r.f C1) := by
 subst hn0_0 hn0_1
 unfold s_l3Unmap at H0
 refine ct_of_cw Tryd.func85 rfl Tryd.ntmps85 rfl (Sat.refl _ _) ?_
 refine sr (oE (stpU_box 0 rfl rfl) rfl ?_)
 rintro _ _ ⟨b1, rfl, rfl⟩
 refine oE (stpU_alloc 1 tz26 rfl) rfl ?_
 rintro _ _ ⟨b2, rfl, rfl⟩
 obtain ⟨x3, e3, H0⟩ := bS H0
 refine nn (sr (oB2 0 ts26 rfl (oE (stpU_call (fun i => 2 + i) cf65 (fun w hw => c_s_l3Copy fl w a0 rfl (RO.pass hr0_0 hw) rfl (RO.pass hr0_1 hw) x3 e3) (yA rfl)) rfl ?_)))
 rintro _ _ ⟨_, ⟨p4, _, c6, C7, p8, _, c10, C11, rfl, rfl, rfl, o7, rfl, o11⟩, rfl⟩
 refine oE (stpU_alloc 4 tz26 rfl) rfl ?_
 rintro _ _ ⟨b12, rfl, rfl⟩
 obtain ⟨x13, e13, H0⟩ := bS H0
 obtain ⟨x14, e14, H0⟩ := bS H0
 refine oC2 4 ts26 rfl rfl (nn (cw_seq (rdq g_mixed [1, 2] [0] { dst := dS [12, 13, 14, 15, 16, 17, 18, 19, 20, 21, 7], pre := gA [] [[], [0], [], [0, 1, 2], rn 0 4, rn 0 5, [], [6], [6, 7], rn 0 9, rn 0 10], ids := fun _ => [], rs := rL [[(2, 0)], [(11, 1)], [(1, 0)], [(12, 2), (13, 3)], [(14, 4)], [(15, 5)], [(2, 0)], [(17, 7)], [(18, 8)], [(16, 6), (19, 9)], [(20, 10)]], rh := rL [[], [(0, 0)], [], [], [], [], [], [(0, 0)]], V := fun i g => gA undef [.pointer (some ⟨b1, 1, none⟩), .slice p0_1 ((a0.f).length) c0_1, .int .i64 a1, .pointer (some ⟨eB p0_1, eO p0_1 + Int.toNat a1 * Enc.sz F + 0, none⟩), .pointer (some ⟨eB p0_1, eO p0_1 + Int.toNat a1 * Enc.sz F + 1, none⟩), .agg #[.int .i64 x13.k.s, .int .i64 x13.k.p], .pointer (some ⟨b1, 0, none⟩), .slice p0_0 ((a0.b).length) c0_0, .int .i64 ((a0.b).length : Int), .int .i64 x14, .int .i64 x14] i, U := fun _ _ => [], Φ := fun _ _ => True } ?_ ?_)))
 ·refine ⟨lc rfl rfl fun hs hh => stp_fieldAddr (j := 1) Tryd.underlying26 rfl ts24 rfl (sv hs 2 rfl) rfl, lc rfl rfl fun hs hh => stp_load1 ts24 (sv hs 11 rfl) (Cells.box (id := 0) (hh.get 0 _ rfl) 1 rfl), lM, lc rfl rfl fun hs hh => stp_indexAddr Tryd.underlying24 ts61 (by decide) (sv hs 12 rfl) rfl (sv hs 13 rfl) (Rdb.ro hr0_1) e13, lc rfl rfl fun hs hh => stp_fieldAddr (j := 1) Tryd.underlying61 rfl ts36 rfl (sv hs 14 rfl) rfl, lc rfl rfl fun hs hh => stp_loadN (us := [_, _]) ts36 (sv hs 15 rfl) (Cells.el (Rdb.ro hr0_1) (by decide) e13 1 2 rfl), lc rfl rfl fun hs hh => stp_fieldAddr (j := 0) Tryd.underlying26 rfl ts23 rfl (sv hs 2 rfl) rfl, lc rfl rfl fun hs hh => stp_load1 ts23 (sv hs 17 rfl) (Cells.box (id := 0) (hh.get 0 _ rfl) 1 rfl), lc rfl rfl fun hs hh => stp_len Tryd.underlying23 (sv hs 18 rfl), ?_, lS, trivial⟩
  refine le rfl rfl (fun g hΦ s h hs hh => (stpU_call (fun i => 5 + i) cf67 (fun w hw => c_s_l2Hash fl w x13.k ((a0.b).length : Int) x14 e14) (yB (sv hs 16 rfl) (sv hs 19 rfl)))) ?_
  rintro g _ _ ⟨_, ⟨rfl, rfl⟩, rfl⟩
  exact ⟨⟨[], [], []⟩, trivial, .inr rfl, rfl⟩
 intro g hΦ
 refine KW.sub (s' := [(1, .int .i64 a1), (2, .pointer (some ⟨b1, 0, none⟩)), (4, .pointer (some ⟨b2, 0, none⟩)), (5, .pointer (some ⟨b12, 0, none⟩)), (6, .int .i64 x14)]) (h' := [(0, [(b1, .cells #[.slice p0_0 ((a0.b).length) c0_0, .slice p0_1 ((a0.f).length) c0_1] 26 (0, 0))]), (1, [(b2, .cells #[.slice none 0 0, .slice none 0 0] 26 (0, 0))]), (2, C7), (3, C11), (4, [(b12, .cells #[.slice p4 ((x3.b).length) c6, .slice p8 ((x3.f).length) c10] 26 (0, 0))])]) ?_ ⟨rfl, rfl, rfl, rfl, rfl, trivial⟩ ⟨rfl, rfl, rfl, rfl, rfl, trivial⟩
 refine kw_nx (sr (oA 1 Tryd.underlying26 rfl ts24 rfl (oL 0 ts24 rfl (oM rfl (oD (stp_indexAddr Tryd.underlying24 ts61 (by decide) rfl rfl rfl (Rdb.ro hr0_1) e13) rfl (oA 4 Tryd.underlying61 rfl ts3 rfl (oD (stp_load1 ts3 rfl (Cells.el (Rdb.ro hr0_1) (by decide) e13 4 1 rfl)) rfl (oS rfl (nn (sr (oA 1 Tryd.underlying26 rfl ts24 rfl (oL 4 ts24 rfl (oM rfl ?_)))))))))))))
 obtain ⟨x15, e15, H0⟩ := bS H0
 refine oD (stp_build (cs := #[.bool false, .int .i64 0, .int .i64 0, .int .i64 0, .int .i64 (-1)]) (sevp_cons rfl sevp_nil) bt61_1) rfl (oD (stp_indexAddr Tryd.underlying24 ts61 (by decide) rfl rfl rfl (Rdb.own (id := 3) rfl o11) e15) rfl (oF (stpU_storeEl (id := 3) (i := 0) (⟨false, (⟨0, 0⟩ : K), 0, (-1)⟩ : F) (by decide) ts61 rfl rfl rfl o11 e15 rfl rfl rfl rfl) ?_))
 rintro _ _ ⟨C16, rfl, o16⟩
 obtain ⟨x17, e17, H0⟩ := bS H0
 refine nn (cw_seq (sr (oA 0 Tryd.underlying26 rfl ts23 rfl (oL 0 ts23 rfl (oM rfl (oD (stp_indexAddr Tryd.underlying23 ts3 (by decide) rfl rfl rfl (Rdb.ro hr0_0) e17) rfl (oD (stp_load1 ts3 rfl (Cells.el (Rdb.ro hr0_0) (by decide) e17 0 1 rfl)) rfl (oM rfl (oQ rfl (nn (cw_cond rfl (fun h18 => ?_) (fun h18 => ?_))))))))))))
 ·have H0 := cond_t H0 h18
  obtain ⟨x19, e19, H0⟩ := bS H0
  refine sr (oA 0 Tryd.underlying26 rfl ts23 rfl (oL 4 ts23 rfl (oM rfl (oM rfl (oD (stp_indexAddr Tryd.underlying23 ts3 (by decide) rfl rfl rfl (Rdb.own (id := 2) rfl o7) e19) rfl (oF (stpU_storeEl (id := 2) (i := 0) x13.nx (by decide) ts3 rfl rfl rfl o7 e19 rfl rfl rfl rfl) ?_))))))
  rintro _ _ ⟨C20, rfl, o20⟩
  refine nn (sr (oB2 4 ts26 rfl (oC2 1 ts26 rfl rfl (nn (cw_ret (kw_nx_ret ?_))))))
  obtain rfl := sI H0
  exact kr Tryd.results85 (rC2 1 ts26 rfl rfl) [2, 3] ⟨_, _, _, _, _, _, _, _, rfl, rfl, (by simp), o20, (by simp), o16⟩
 have H0 := cond_f H0 h18
 obtain ⟨o0_0, eo0_0, H0⟩ := bS H0
 refine cw_skip (kw_nx (cw_seq (sr (oS rfl (nn (cw_join (ι := (List F) × Int × Res) (fun | (v21, v23, C22) => o0_0 = .out (v21, v23) ∧ (x3.f).length = (v21).length ∧ OwnC 61 p8 c10 v21 C22) (fun | (v21, v23, C22) => [(1, .int .i64 a1), (2, .pointer (some ⟨b1, 0, none⟩)), (4, .pointer (some ⟨b2, 0, none⟩)), (5, .pointer (some ⟨b12, 0, none⟩)), (7, .int .i64 x13.nx), (8, .int .i64 v23)]) (fun | (v21, v23, C22) => [(0, [(b1, .cells #[.slice p0_0 ((a0.b).length) c0_0, .slice p0_1 ((a0.f).length) c0_1] 26 (0, 0))]), (1, [(b2, .cells #[.slice none 0 0, .slice none 0 0] 26 (0, 0))]), (2, C7), (3, C22), (4, [(b12, .cells #[.slice p4 ((x3.b).length) c6, .slice p8 ((x3.f).length) c10] 26 (0, 0))])]) ?_ ?_))))))
 ·refine cw_block (cw_loopS (ι := Nat × (List F) × Int × Res) (js := [0, 1, 2, 3, 4]) (fun x => x.1) (fun | (fuel, v21, v23, C22) => s_l3Unmap_L0 fl a0 a1 x13 fuel v21 v23 = some o0_0 ∧ (x3.f).length = (v21).length ∧ OwnC 61 p8 c10 v21 C22) (fun | (_, v21, v23, C22) => [(1, .int .i64 a1), (2, .pointer (some ⟨b1, 0, none⟩)), (4, .pointer (some ⟨b2, 0, none⟩)), (5, .pointer (some ⟨b12, 0, none⟩)), (7, .int .i64 x13.nx), (8, .int .i64 v23)]) (fun | (_, v21, v23, C22) => [(0, [(b1, .cells #[.slice p0_0 ((a0.b).length) c0_0, .slice p0_1 ((a0.f).length) c0_1] 26 (0, 0))]), (1, [(b2, .cells #[.slice none 0 0, .slice none 0 0] 26 (0, 0))]), (2, C7), (3, C22), (4, [(b12, .cells #[.slice p4 ((x3.b).length) c6, .slice p8 ((x3.f).length) c10] 26 (0, 0))])]) (fl, (x3.f.set (Int.toNat a1) (⟨false, (⟨0, 0⟩ : K), 0, (-1)⟩ : F)), 0, C16) ⟨eo0_0, (by simp), o16⟩ ⟨rfl, rfl, rfl, rfl, rfl, rfl, trivial⟩ ⟨0, [1, 2, 3, 4], rfl, rfl, 1, [2, 3, 4], rfl, rfl, 2, [3, 4], rfl, rfl, 3, [4], rfl, rfl, 4, [], rfl, rfl, trivial⟩ (by decide) ?_)
  rintro ⟨fuel, v21, v23, C22⟩ ⟨H1, hl22, o22⟩
  have H1 : s_l3Unmap_L0 fl a0 a1 x13 fuel v21 v23 = some o0_0 := H1
  rcases fuel with _ | fuel
  ·rw [s_l3Unmap_L0.eq_1] at H1; cases H1
  rw [s_l3Unmap_L0.eq_2] at H1
  dsimp only
  refine cw_seq (sr (oM rfl (oA 1 Tryd.underlying26 rfl ts24 rfl (oL 0 ts24 rfl (oD (stp_len Tryd.underlying24 rfl) rfl (oW rfl (nn (cw_cond rfl (fun h24 => ?_) (fun h24 => ?_)))))))))
  ·have H1 := cond_t H1 h24
   obtain ⟨x25, e25, H1⟩ := bS H1
   obtain ⟨y26, ey26, H1⟩ := bS H1
   refine cw_skip (kw_nx (cw_seq (cw_block (sr (oA 1 Tryd.underlying26 rfl ts24 rfl (oL 0 ts24 rfl (oM rfl (oD (stp_indexAddr Tryd.underlying24 ts61 (by decide) rfl rfl rfl (Rdb.ro hr0_1) e25) rfl (oA 0 Tryd.underlying61 rfl ts4 rfl (oD (stp_load1 ts4 rfl (Cells.el (Rdb.ro hr0_1) (by decide) e25 0 1 rfl)) rfl (oM rfl (ow_cutY 9 67 y26 ?_ ?_))))))))))))
   ·rcases Bool.eq_false_or_eq_true x25.u with hy26 | hy26
    ·have ey26 := cond_t ey26 hy26
     refine oG rfl hy26 (fA 1 Tryd.underlying26 rfl ts24 rfl rfl rfl) rfl (oG rfl hy26 (lB 0 ts24 rfl rfl rfl) rfl (oG rfl hy26 (mv rfl) rfl (oG rfl hy26 (stp_indexAddr Tryd.underlying24 ts61 (by decide) rfl rfl rfl (Rdb.ro hr0_1) e25) rfl (oG rfl hy26 (fA 4 Tryd.underlying61 rfl ts3 rfl rfl rfl) rfl (oG rfl hy26 (stp_load1 ts3 rfl (Cells.el (Rdb.ro hr0_1) (by decide) e25 4 1 rfl)) rfl (oG rfl hy26 (mv rfl) rfl (oG rfl hy26 (stp_eql rfl rfl) rfl (oD (stp_pick_t rfl hy26 rfl) rfl ?_))))))))
     obtain rfl := sI ey26
     exact ow_nil (jy 9 0)
    have ey26 := cond_f ey26 hy26
    refine oO rfl hy26 rfl (oO rfl hy26 rfl (oO rfl hy26 rfl (oO rfl hy26 rfl (oO rfl hy26 rfl (oO rfl hy26 rfl (oO rfl hy26 rfl (oO rfl hy26 rfl (oD (stp_pick_f rfl hy26 rfl) rfl ?_))))))))
    obtain rfl := sI ey26
    exact ow_nil (jy 9 0)
   refine ow_nil (kw_nx (cw_cond rfl (fun h27 => ?_) (fun h27 => ?_)))
   ·have H1 := cond_t H1 h27
    obtain ⟨x28, e28, H1⟩ := bS H1
    refine cw_region (oA 1 Tryd.underlying26 rfl ts24 rfl (oL 4 ts24 rfl (oM rfl (oM rfl (oD (stp_indexAddr Tryd.underlying24 ts61 (by decide) rfl (by simp [hl22]) rfl (Rdb.own (id := 3) rfl o22) e28) rfl (oA 4 Tryd.underlying61 rfl ts3 rfl (oF (stpU_storeEl (id := 3) (i := 4) (⟨x28.u, x28.k, x28.r, x13.nx⟩ : F) (by decide) ts3 rfl rfl rfl o22 e28 rfl rfl rfl rfl) ?_)))))))
    rintro _ _ ⟨C29, rfl, o29⟩
    obtain ⟨x30, e30, H1⟩ := bS H1
    exact ow_nil (kw_bl_normal (kw_nx (cw_region (oM rfl (oP e30 rfl (oS rfl (ow_nil (kw_lqS (js := [0, 1, 2, 3, 4]) (fuel, (v21.set (Int.toNat v23) (⟨x28.u, x28.k, x28.r, x13.nx⟩ : F)), x30, C29) ⟨H1, (by simp [hl22]), o29⟩ (Nat.lt_succ_self _) ⟨rfl, rfl, rfl, rfl, rfl, rfl, trivial⟩ ⟨0, [1, 2, 3, 4], rfl, rfl, 1, [2, 3, 4], rfl, rfl, 2, [3, 4], rfl, rfl, 3, [4], rfl, rfl, 4, [], rfl, rfl, trivial⟩ (by decide)))))))))
   have H1 := cond_f H1 h27
   obtain ⟨x31, e31, H1⟩ := bS H1
   exact cw_skip (kw_bl_normal (kw_nx (cw_region (oM rfl (oP e31 rfl (oS rfl (ow_nil (kw_lqS (js := [0, 1, 2, 3, 4]) (fuel, v21, x31, C22) ⟨H1, (by simp [hl22]), o22⟩ (Nat.lt_succ_self _) ⟨rfl, rfl, rfl, rfl, rfl, rfl, trivial⟩ ⟨0, [1, 2, 3, 4], rfl, rfl, 1, [2, 3, 4], rfl, rfl, 2, [3, 4], rfl, rfl, 3, [4], rfl, rfl, 4, [], rfl, rfl, trivial⟩ (by decide)))))))))
  have H1 := cond_f H1 h24
  refine cw_exit (kw_nx_exit (kw_lq_exit (kw_bl ?_)))
  obtain rfl := sI H1
  exact kw_joinS (js := [0, 1, 2, 3, 4]) (v21, v23, C22) ⟨rfl, (by simp [hl22]), o22⟩ ⟨rfl, rfl, rfl, rfl, rfl, rfl, trivial⟩ ⟨0, [1, 2, 3, 4], rfl, rfl, 1, [2, 3, 4], rfl, rfl, 2, [3, 4], rfl, rfl, 3, [4], rfl, rfl, 4, [], rfl, rfl, trivial⟩ (by decide)
 rintro ⟨v21, v23, C22⟩ ⟨rfl, hl22, o22⟩
 dsimp only
 refine kw_nx (sr (oB2 4 ts26 rfl (oC2 1 ts26 rfl rfl (nn (cw_ret ?_)))))
 obtain rfl := sI H0
 exact kr Tryd.results85 (rC2 1 ts26 rfl rfl) [2, 3] ⟨_, _, _, _, _, _, _, _, rfl, rfl, rfl, o7, (by simp [hl22]), o22⟩

theorem c_s_UnmapPage (fl : Nat) (w : World) (a0 : T) (a1 : K) (hn0_0 : n0_0 = (a0.b).length) (hr0_0 : RO w (hkeys []) (RdL p0_0 c0_0 a0.b)) (hn0_1 : n0_1 = (a0.f).length) (hr0_1 : RO w (hkeys []) (RdL p0_1 c0_1 a0.f)) (r : T × Bool) (H0 : s_UnmapPage fl a0 a1 = some r) :
  Ct Tryd.prog 73 [.agg #[.slice p0_0 n0_0 c0_0, .slice p0_1 n0_1 c0_1], .agg #[.int .i64 a1.s, .int .i64 a1.p]] w [] (fun rv h' => ∃ (x0 : Option Addr) (y0 z0 : Nat) (C0 : Res) (x1 : Option Addr) (y1 z1 : Nat) (C1 : Res), rv = .tuple #[.agg #[.slice x0 y0 z0, .slice x1 y1 z1], .bool r.2] ∧ h' = [(0, C0), (1, C1)] ∧ y0 = (r.1.b).length ∧ OwnC 3 x0 z0 r.1.b C0 ∧ y1 = (r.1.f).length ∧ OwnC 61 x1 z1 r.1.f C1) := by
 subst hn0_0 hn0_1
 unfold s_UnmapPage at H0
 refine ct_of_cw Tryd.func73 rfl Tryd.ntmps73 rfl (Sat.refl _ _) ?_
 refine sr (oE (stpU_box 0 rfl rfl) rfl ?_)
 rintro _ _ ⟨b1, rfl, rfl⟩
 refine oE (stpU_box 1 rfl rfl) rfl ?_
 rintro _ _ ⟨b2, rfl, rfl⟩
 refine oE (stpU_alloc 2 tz26 rfl) rfl ?_
 rintro _ _ ⟨b3, rfl, rfl⟩
 obtain ⟨x4, e4, H0⟩ := bS H0
 refine oS rfl (nn (sr (oB2 0 ts26 rfl (oB2 1 ts36 rfl (oE (stpU_call (fun i => 3 + i) cf84 (fun w hw => c_s_FindPage fl w a0 a1 rfl (RO.pass hr0_0 hw) rfl (RO.pass hr0_1 hw) x4 e4) (yB rfl rfl)) rfl ?_)))))
 rintro _ _ ⟨_, ⟨rfl, rfl⟩, rfl⟩
 refine oM rfl (oT rfl (oT rfl (oT rfl (oS rfl (oS rfl (oS rfl (nn (cw_seq (sr (oM rfl (oK rfl (nn (cw_cond rfl (fun h5 => ?_) (fun h5 => ?_))))))))))))))
 ·have H0 := cond_t H0 h5
  refine sr (oD (stp_build (cs := #[.slice none 0 0, .slice none 0 0]) sevp_nil bt26_0) rfl (oC2 2 ts26 rfl rfl (oS rfl (nn (cw_ret (kw_nx_ret (kw_addNil 3 (kw_addNil 4 ?_))))))))
  obtain rfl := sI H0
  exact kr Tryd.results73 (.cons (.cellN (us := [_, _]) ts26 rfl (Cells.box (id := 2) rfl 2 rfl)) (rT rfl)) [3, 4] ⟨_, _, _, _, _, _, _, _, rfl, rfl, rfl, (OwnC.nil _ _), rfl, (OwnC.nil _ _)⟩
 have H0 := cond_f H0 h5
 obtain ⟨x6, e6, H0⟩ := bS H0
 refine cw_skip (kw_nx (sr (oB2 0 ts26 rfl (oM rfl (oE (stpU_call (fun i => 5 + i) cf85 (fun w hw => c_s_l3Unmap fl w a0 x4.1 rfl (RO.pass hr0_0 hw) rfl (RO.pass hr0_1 hw) x6 e6) (yB rfl rfl)) rfl ?_)))))
 rintro _ _ ⟨_, ⟨p7, _, c9, C10, p11, _, c13, C14, rfl, rfl, rfl, o10, rfl, o14⟩, rfl⟩
 refine oC2 2 ts26 rfl rfl (oS rfl (nn (cw_ret ?_)))
 obtain rfl := sI H0
 exact kr Tryd.results73 (.cons (.cellN (us := [_, _]) ts26 rfl (Cells.box (id := 2) rfl 2 rfl)) (rT rfl)) [5, 6] ⟨_, _, _, _, _, _, _, _, rfl, rfl, rfl, o10, rfl, o14⟩

theorem c_s_UnmapSystem (fl : Nat) (w : World) (a0 : Sy) (a1 : Int) (a2 : K) (hn0_0 : n0_0 = (a0.t.b).length) (hr0_0 : RO w (hkeys []) (RdL p0_0 c0_0 a0.t.b)) (hn0_1 : n0_1 = (a0.t.f).length) (hr0_1 : RO w (hkeys []) (RdL p0_1 c0_1 a0.t.f)) (hn0_2 : n0_2 = (a0.c).length) (hr0_2 : ROD w (hkeys []) p0_2 c0_2 a0.c) (r : Sy × Int × Bool) (H0 : s_UnmapSystem fl a0 a1 a2 = some r) :
  Ct Tryd.prog 45 [.agg #[.slice p0_0 n0_0 c0_0, .slice p0_1 n0_1 c0_1, .slice p0_2 n0_2 c0_2], .int .i64 a1, .agg #[.int .i64 a2.s, .int .i64 a2.p]] w [] (fun rv h' => ∃ (x0 : Option Addr) (y0 z0 : Nat) (C0 : Res) (x1 : Option Addr) (y1 z1 : Nat) (C1 : Res) (x2 : Option Addr) (y2 z2 : Nat) (C2 : Res), rv = .tuple #[.agg #[.slice x0 y0 z0, .slice x1 y1 z1, .slice x2 y2 z2], .int .i64 r.2.1, .bool r.2.2] ∧ h' = [(0, C0), (1, C1), (2, C2)] ∧ y0 = (r.1.t.b).length ∧ OwnC 3 x0 z0 r.1.t.b C0 ∧ y1 = (r.1.t.f).length ∧ OwnC 61 x1 z1 r.1.t.f C1 ∧ y2 = (r.1.c).length ∧ OwnD 43 53 x2 z2 r.1.c C2) := by
 subst hn0_0 hn0_1 hn0_2
 unfold s_UnmapSystem at H0
 refine ct_of_cw Tryd.func45 rfl Tryd.ntmps45 rfl (Sat.refl _ _) ?_
 refine sr (oE (stpU_box 0 rfl rfl) rfl ?_)
 rintro _ _ ⟨b1, rfl, rfl⟩
 refine oE (stpU_box 1 rfl rfl) rfl ?_
 rintro _ _ ⟨b2, rfl, rfl⟩
 refine oE (stpU_alloc 2 tz29 rfl) rfl ?_
 rintro _ _ ⟨b3, rfl, rfl⟩
 obtain ⟨x4, e4, H0⟩ := bS H0
 refine oS rfl (oS rfl (nn (cw_seq (sr (oB3 0 ts29 rfl (oM rfl (oE (stpU_call (fun i => 3 + i) cf34 (fun w hw => c_s_l8Right fl w a0 a1 rfl (RO.pass hr0_0 hw) rfl (RO.pass hr0_1 hw) rfl (ROD.pass hr0_2 hw) x4 e4) (yB rfl rfl)) rfl ?_)))))))
 rintro _ _ ⟨_, ⟨rfl, rfl⟩, rfl⟩
 refine oK rfl (nn (cw_cond rfl (fun h5 => ?_) (fun h5 => ?_)))
 ·have H0 := cond_t H0 h5
  refine sr (oD (stp_build (cs := #[.slice none 0 0, .slice none 0 0, .slice none 0 0]) sevp_nil bt29_2) rfl (oC3 2 ts29 rfl rfl (oS rfl (oS rfl (nn (cw_ret (kw_nx_ret (kw_addNil 3 (kw_addNil 4 (kw_addNil 5 ?_))))))))))
  obtain rfl := sI H0
  exact kr Tryd.results45 (.cons (.cellN (us := [_, _, _]) ts29 rfl (Cells.box (id := 2) rfl 3 rfl)) (.cons (.tmp rfl) (rT rfl))) [3, 4, 5] ⟨_, _, _, _, _, _, _, _, _, _, _, _, rfl, rfl, rfl, (OwnC.nil _ _), rfl, (OwnC.nil _ _), rfl, (OwnD.nil _ _ _)⟩
 have H0 := cond_f H0 h5
 obtain ⟨x6, e6, H0⟩ := bS H0
 refine cw_skip (kw_nx (sr (oA 0 Tryd.underlying29 rfl ts26 rfl (oB2 0 ts26 rfl (oB2 1 ts36 rfl (oE (stpU_call (fun i => 6 + i) cf73 (fun w hw => c_s_UnmapPage fl w a0.t a2 rfl (RO.pass hr0_0 hw) rfl (RO.pass hr0_1 hw) x6 e6) (yB rfl rfl)) rfl ?_))))))
 rintro _ _ ⟨_, ⟨p7, _, c9, C10, p11, _, c13, C14, rfl, rfl, rfl, o10, rfl, o14⟩, rfl⟩
 refine oM rfl (oT rfl (oT rfl (oE (stpU_alloc 8 tz26 rfl) rfl ?_)))
 rintro _ _ ⟨b15, rfl, rfl⟩
 refine oC2 8 ts26 rfl rfl (oS rfl (nn (cw_seq (sr (oM rfl (oK rfl (nn (cw_cond rfl (fun h16 => ?_) (fun h16 => ?_)))))))))
 ·have H0 := cond_t H0 h16
  refine sr (oD (stp_build (cs := #[.slice none 0 0, .slice none 0 0, .slice none 0 0]) sevp_nil bt29_2) rfl (oC3 2 ts29 rfl rfl (oS rfl (oS rfl (nn (cw_ret (kw_nx_ret (kw_addNil 9 (kw_addNil 10 (kw_addNil 11 ?_))))))))))
  obtain rfl := sI H0
  exact kr Tryd.results45 (.cons (.cellN (us := [_, _, _]) ts29 rfl (Cells.box (id := 2) rfl 3 rfl)) (.cons (.tmp rfl) (rT rfl))) [9, 10, 11] ⟨_, _, _, _, _, _, _, _, _, _, _, _, rfl, rfl, rfl, (OwnC.nil _ _), rfl, (OwnC.nil _ _), rfl, (OwnD.nil _ _ _)⟩
 have H0 := cond_f H0 h16
 obtain ⟨x17, e17, H0⟩ := bS H0
 refine cw_skip (kw_nx (sr (oB3 0 ts29 rfl (oE (stpU_call (fun i => 12 + i) cf36 (fun w hw => c_s_l8Copy fl w a0 rfl (RO.pass hr0_0 hw) rfl (RO.pass hr0_1 hw) rfl (ROD.pass hr0_2 hw) x17 e17) (yA rfl)) rfl ?_))))
 rintro _ _ ⟨_, ⟨p18, _, c20, C21, p22, _, c24, C25, p26, _, c28, C29, rfl, rfl, rfl, o21, rfl, o25, rfl, o29⟩, rfl⟩
 refine oE (stpU_alloc 15 tz29 rfl) rfl ?_
 rintro _ _ ⟨b30, rfl, rfl⟩
 refine oC3 15 ts29 rfl rfl (nn (sr (oB2 8 ts26 rfl (oA 0 Tryd.underlying29 rfl ts26 rfl (oC3 15 ts26 rfl rfl (nn (sr (oS rfl (nn (cw_seq (sr (oS rfl (nn ?_)))))))))))))
 obtain ⟨o0_0, eo0_0, H0⟩ := bS H0
 refine cw_join (ι := (List Cp) × Int × Int × Res) (fun | (v31, v33, v34, C32) => o0_0 = .out (v31, v33, v34) ∧ (x17.c).length = (v31).length ∧ OwnD 43 53 p26 c28 v31 C32) (fun | (v31, v33, v34, C32) => [(1, .int .i64 a1), (5, .pointer (some ⟨b2, 0, none⟩)), (6, .pointer (some ⟨b3, 0, none⟩)), (11, .pointer (some ⟨b30, 0, none⟩)), (12, .int .i64 v33), (13, .int .i64 v34)]) (fun | (v31, v33, v34, C32) => [(1, [(b2, .cells #[.int .i64 a2.s, .int .i64 a2.p] 36 (0, 0))]), (2, [(b3, .cells #[.slice none 0 0, .slice none 0 0, .slice none 0 0] 29 (0, 0))]), (6, C10), (7, C14), (14, C32), (15, [(b30, .cells #[.slice p7 ((x6.1.b).length) c9, .slice p11 ((x6.1.f).length) c13, .slice p26 ((x17.c).length) c28] 29 (0, 0))])]) ?_ ?_
 ·refine cw_block (cw_loopS (ι := Nat × (List Cp) × Int × Int × Res) (js := [1, 2, 6, 7, 14, 15]) (fun x => x.1) (fun | (fuel, v31, v33, v34, C32) => s_UnmapSystem_L0 fl a1 a2 x17 fuel v31 v33 v34 = some o0_0 ∧ (x17.c).length = (v31).length ∧ OwnD 43 53 p26 c28 v31 C32) (fun | (_, v31, v33, v34, C32) => [(1, .int .i64 a1), (5, .pointer (some ⟨b2, 0, none⟩)), (6, .pointer (some ⟨b3, 0, none⟩)), (11, .pointer (some ⟨b30, 0, none⟩)), (12, .int .i64 v33), (13, .int .i64 v34)]) (fun | (_, v31, v33, v34, C32) => [(1, [(b2, .cells #[.int .i64 a2.s, .int .i64 a2.p] 36 (0, 0))]), (2, [(b3, .cells #[.slice none 0 0, .slice none 0 0, .slice none 0 0] 29 (0, 0))]), (6, C10), (7, C14), (14, C32), (15, [(b30, .cells #[.slice p7 ((x6.1.b).length) c9, .slice p11 ((x6.1.f).length) c13, .slice p26 ((x17.c).length) c28] 29 (0, 0))])]) (fl, x17.c, 0, 0, C29) ⟨eo0_0, rfl, o29⟩ ⟨rfl, rfl, rfl, rfl, rfl, rfl, trivial⟩ ⟨1, [2, 6, 7, 14, 15], rfl, rfl, 2, [6, 7, 14, 15], rfl, rfl, 6, [7, 14, 15], rfl, rfl, 7, [14, 15], rfl, rfl, 14, [15], rfl, rfl, 15, [], rfl, rfl, trivial⟩ (by decide) ?_)
  rintro ⟨fuel, v31, v33, v34, C32⟩ ⟨H1, hl32, o32⟩
  have H1 : s_UnmapSystem_L0 fl a1 a2 x17 fuel v31 v33 v34 = some o0_0 := H1
  rcases fuel with _ | fuel
  ·rw [s_UnmapSystem_L0.eq_1] at H1; cases H1
  rw [s_UnmapSystem_L0.eq_2] at H1
  dsimp only
  refine cw_seq (sr (oM rfl (oA 2 Tryd.underlying29 rfl ts27 rfl (oL 15 ts27 rfl (oD (stp_len Tryd.underlying27 rfl) rfl (oW rfl (nn (cw_cond rfl (fun h35 => ?_) (fun h35 => ?_)))))))))
  ·have H1 := cond_t H1 h35
   obtain ⟨x36, e36, H1⟩ := bS H1
   refine cw_skip (kw_nx (cw_seq (cw_block (sr (oA 2 Tryd.underlying29 rfl ts27 rfl (oL 15 ts27 rfl (oM rfl (ow_open 14 16 17 18 rfl o32 e36 ?_))))))))
   rintro u37 p38 n39 c40 p41 n42 c43 C44 C45 C46 C47 o44 hb45 hx37 rfl o46 rfl o47
   refine oD (stp_indexAddr Tryd.underlying27 ts43 (by decide) rfl (Eq.trans (a := (x17.c).length) (b := (v31).length) (by simp [hl32]) (Bun.len hb45)) rfl (Rdb.own (id := 14) rfl o44) hx37) rfl (oD (stp_loadN (us := [_, _]) ts43 rfl (Cells.el (Rdb.own (id := 14) rfl o44) (by decide) hx37 0 2 rfl)) rfl (oE (stpU_alloc 19 tz43 rfl) rfl ?_))
   rintro _ _ ⟨b48, rfl, rfl⟩
   obtain ⟨x49, e49, H1⟩ := bS H1
   refine oC2 19 ts43 rfl rfl (nn (sr (oA 0 Tryd.underlying43 rfl ts41 rfl (oL 19 ts41 rfl (oB2 1 ts36 rfl (oE (stpU_call (fun i => 20 + i) cf37 (fun w hw => c_s_l8Find fl w x36.n a2 rfl (OwnC.pass (id := 17) rfl o46 hw) x49 e49) (yB rfl rfl)) rfl ?_))))))
   rintro _ _ ⟨_, ⟨rfl, rfl⟩, rfl⟩
   refine oS rfl (nn (cw_seq (sr (oM rfl (oW rfl (nn (cw_cond rfl (fun h50 => ?_) (fun h50 => ?_))))))))
   ·have H1 := cond_t H1 h50
    obtain ⟨x51, e51, H1⟩ := bS H1
    refine cw_exit (kw_nx_exit (kw_bl (kw_nx (cw_region (oM rfl (oP e51 rfl (oS rfl (ow_nil (kw_shut 14 16 17 18 o44 hb45 (idx_some hx37).2.2 (idx_some e36).2.2 rfl o46 rfl o47 ?_)))))))))
    rintro C52 o52
    exact kw_lqS (js := [1, 2, 6, 7, 14, 15]) (fuel, v31, v33, x51, C52) ⟨H1, (by simp [hl32]), o52⟩ (Nat.lt_succ_self _) ⟨rfl, rfl, rfl, rfl, rfl, rfl, trivial⟩ ⟨1, [2, 6, 7, 14, 15], rfl, rfl, 2, [6, 7, 14, 15], rfl, rfl, 6, [7, 14, 15], rfl, rfl, 7, [14, 15], rfl, rfl, 14, [15], rfl, rfl, 15, [], rfl, rfl, trivial⟩ (by decide)
   have H1 := cond_f H1 h50
   refine cw_skip (kw_nx (cw_seq (sr (oM rfl (oM rfl (oQ rfl (nn (cw_cond rfl (fun h53 => ?_) (fun h53 => ?_)))))))))
   ·have H1 := cond_t H1 h53
    obtain ⟨x54, e54, H1⟩ := bS H1
    refine cw_region (oA 0 Tryd.underlying43 rfl ts41 rfl (oL 19 ts41 rfl (oB2 1 ts36 rfl (oE (stpU_call (fun i => 20 + i) cf39 (fun w hw => c_s_l8Without fl w x36.n a2 rfl (OwnC.pass (id := 17) rfl o46 hw) x54 e54) (yB rfl rfl)) rfl ?_))))
    rintro _ _ ⟨_, ⟨p55, _, c57, C58, rfl, rfl, rfl, o58⟩, rfl⟩
    refine oA 0 Tryd.underlying43 rfl ts41 rfl (oC2 19 ts41 rfl rfl (nn (cw_region (oA 2 Tryd.underlying29 rfl ts27 rfl (oL 15 ts27 rfl (oM rfl (oB2 19 ts43 rfl (oD (stp_indexAddr Tryd.underlying27 ts43 (by decide) rfl (Eq.trans (a := (x17.c).length) (b := (v31).length) (by simp [hl32]) (Bun.len hb45)) rfl (Rdb.own (id := 14) rfl o44) hx37) rfl (oF (stpU_storeEl (id := 14) (i := 0) (⟨p55, (x54).length, c57, p41, (x36.w).length, c43⟩ : CpS) (by decide) ts43 rfl rfl rfl o44 hx37 rfl rfl rfl rfl) ?_)))))))))
    rintro _ _ ⟨C59, rfl, o59⟩
    obtain ⟨x60, e60, H1⟩ := bS H1
    refine ow_nil (kw_bl_normal (kw_nx (cw_region (oM rfl (oP e60 rfl (oS rfl (ow_nil (kw_shut 14 16 20 18 o59 (Bun.setL (Bun.set hb45 _) _) (idx_some (idx_set hx37)).2.2 (idx_setD e36 (⟨x54, x36.w⟩ : Cp)) rfl o58 rfl o47 ?_))))))))
    rintro C61 o61
    exact kw_lqS (js := [1, 2, 6, 7, 14, 15]) (fuel, (v31.set (Int.toNat v34) (⟨x54, x36.w⟩ : Cp)), v33, x60, C61) ⟨H1, (by simp [hl32]), o61⟩ (Nat.lt_succ_self _) ⟨rfl, rfl, rfl, rfl, rfl, rfl, trivial⟩ ⟨1, [2, 6, 7, 14, 15], rfl, rfl, 2, [6, 7, 14, 15], rfl, rfl, 6, [7, 14, 15], rfl, rfl, 7, [14, 15], rfl, rfl, 14, [15], rfl, rfl, 15, [], rfl, rfl, trivial⟩ (by decide)
   have H1 := cond_f H1 h53
   obtain ⟨x62, e62, H1⟩ := bS H1
   obtain ⟨x65, e65, H1⟩ := bS H1
   refine cw_seq (rdq g_mixed [14, 15] [17, 18, 19] { dst := dS [62, 63, 64, 65, 66, 67, 68, 69, 70, 71, 0], pre := gA [] [[], [0], [], [2], [], [2, 3, 4], rn 2 4, rn 2 5, rn 0 8, rn 0 9, rn 0 10], ids := gA [] [[], [], [], [], [], [], [], [21], [18], [], [19]], rs := rL [[(14, 0)], [(61, 1)], [(14, 0)], [(63, 3)], [(15, 0)], [(64, 4), (65, 5)], [(66, 6)], [(67, 7)], [(62, 2), (68, 8)], [(14, 0)], [(70, 10), (69, 9)]], rh := rL [[], [(19, 0)], [], [(19, 0)], [], [(17, 0)], [(17, 0)], [], [(18, 0), (21, 8)], [], [(19, 0)]], V := fun i g => gA undef [.pointer (some ⟨b48, 1, none⟩), .slice p41 ((x36.w).length) c43, .pointer (some ⟨b48, 0, none⟩), .slice p38 ((x36.n).length) c40, .int .i64 x49, .pointer (some ⟨eB p38, eO p38 + Int.toNat x49 * Enc.sz Nt + 0, none⟩), .agg #[.int .i64 x62.k.s, .int .i64 x62.k.p, .int .i64 x62.fr], .slice ((g 7).A 0) 1 1, .slice ((g 8).A 0) ((x65).length) ((g 8).C 0), .pointer (some ⟨b48, 1, none⟩)] i, U := fun i g => gA [] [[], [], [], [], [], [], [], [(21, ((g 7).R 0))], [(18, ((g 8).R 0))], [], [(19, [(b48, .cells #[.slice p38 ((x36.n).length) c40, .slice ((g 8).A 0) ((x65).length) ((g 8).C 0)] 43 (0, 0))])]] i, Φ := fun i x => match i with | 7 => OwnC (α := Nt) 53 (x.A 0) 1 ([x62]) (x.R 0) | 8 => OwnC 53 (x.A 0) (x.C 0) x65 (x.R 0) | _ => True } ?_ ?_)
   ·refine ⟨lc rfl rfl fun hs hh => stp_fieldAddr (j := 1) Tryd.underlying43 rfl ts41 rfl (sv hs 14 rfl) rfl, lc rfl rfl fun hs hh => stp_load1 ts41 (sv hs 61 rfl) (Cells.box (id := 19) (hh.get 19 _ rfl) 1 rfl), lc rfl rfl fun hs hh => stp_fieldAddr (j := 0) Tryd.underlying43 rfl ts41 rfl (sv hs 14 rfl) rfl, lc rfl rfl fun hs hh => stp_load1 ts41 (sv hs 63 rfl) (Cells.box (id := 19) (hh.get 19 _ rfl) 1 rfl), lM, lc rfl rfl fun hs hh => stp_indexAddr Tryd.underlying41 ts53 (by decide) (sv hs 64 rfl) rfl (sv hs 65 rfl) (Rdb.own (id := 17) (hh.get 17 _ rfl) o46) e62, lc rfl rfl fun hs hh => stp_loadN (us := [_, _, _]) ts53 (sv hs 66 rfl) (Cells.el (Rdb.own (id := 17) (hh.get 17 _ rfl) o46) (by decide) e62 0 3 rfl), ?_, ?_, lc rfl rfl fun hs hh => stp_fieldAddr (j := 1) Tryd.underlying43 rfl ts41 rfl (sv hs 14 rfl) rfl, ?_, trivial⟩
    ·refine le rfl rfl (fun g hΦ s h hs hh => (stpU_lit (sz := 3) (l := [x62]) [.agg #[.int .i64 x62.k.s, .int .i64 x62.k.p, .int .i64 x62.fr]] sl41 21 (sevp_cons (sv hs 67 rfl) sevp_nil) rfl rfl rfl rfl rfl rfl rfl rfl rfl)) ?_
     rintro g _ _ ⟨p63, C64, rfl, rfl, o64⟩
     exact ⟨⟨[p63], [], [C64]⟩, o64, .inr rfl, rfl⟩
    ·refine le rfl rfl (fun g hΦ s h hs hh => (stpU_append sl41 rfl (id := 18) (sv hs 62 rfl) rfl (sv hs 68 rfl) (by simp) (hh.get 18 _ rfl) o47 (Rdb.own (id := 21) (hh.get 21 _ rfl) (hΦ 7 rfl)) e65)) ?_
     rintro g _ _ ⟨p66, c67, C68, rfl, rfl, o68⟩
     exact ⟨⟨[p66], [c67], [C68]⟩, o68, .inr rfl, rfl⟩
    refine le rfl rfl (fun g hΦ s h hs hh => (stpU_store (id := 19) (cs' := [.slice p38 ((x36.n).length) c40, .slice ((g 8).A 0) ((x65).length) ((g 8).C 0)]) ts41 (sv hs 70 rfl) (sv hs 69 rfl) (hh.get 19 _ rfl) rfl rfl rfl rfl)) ?_
    rintro g _ _ rfl
    exact ⟨⟨[], [], []⟩, trivial, .inl rfl, rfl⟩
   intro g hΦ
   refine kw_gen (ι := Option Addr × Res × Option Addr × Nat × Res) (((g 7).A 0), ((g 7).R 0), ((g 8).A 0), ((g 8).C 0), ((g 8).R 0)) (fun | (p63, C64, p66, c67, C68) => OwnC (α := Nt) 53 p63 1 ([x62]) C64 ∧ OwnC 53 p66 c67 x65 C68) (fun | (p63, C64, p66, c67, C68) => [(1, .int .i64 a1), (5, .pointer (some ⟨b2, 0, none⟩)), (6, .pointer (some ⟨b3, 0, none⟩)), (11, .pointer (some ⟨b30, 0, none⟩)), (12, .int .i64 v33), (13, .int .i64 v34), (14, .pointer (some ⟨b48, 0, none⟩))]) (fun | (p63, C64, p66, c67, C68) => [(1, [(b2, .cells #[.int .i64 a2.s, .int .i64 a2.p] 36 (0, 0))]), (2, [(b3, .cells #[.slice none 0 0, .slice none 0 0, .slice none 0 0] 29 (0, 0))]), (6, C10), (7, C14), (14, C44), (15, [(b30, .cells #[.slice p7 ((x6.1.b).length) c9, .slice p11 ((x6.1.f).length) c13, .slice p26 ((x17.c).length) c28] 29 (0, 0))]), (16, C45), (17, C46), (18, C68), (19, [(b48, .cells #[.slice p38 ((x36.n).length) c40, .slice p66 ((x65).length) c67] 43 (0, 0))])]) ⟨(hΦ 7 (by decide)), (hΦ 8 (by decide))⟩ ⟨rfl, rfl, rfl, rfl, rfl, rfl, rfl, trivial⟩ ⟨rfl, rfl, rfl, rfl, rfl, rfl, rfl, rfl, rfl, rfl, trivial⟩ ?_
   rintro ⟨p63, C64, p66, c67, C68⟩ ⟨o64, o68⟩
   dsimp only
   obtain ⟨x69, e69, H1⟩ := bS H1
   refine kw_nx (cw_region (oM rfl (oP e69 rfl (oS rfl (nn (cw_region (oA 2 Tryd.underlying29 rfl ts27 rfl (oL 15 ts27 rfl (oM rfl (oB2 19 ts43 rfl (oD (stp_indexAddr Tryd.underlying27 ts43 (by decide) rfl (Eq.trans (a := (x17.c).length) (b := (v31).length) (by simp [hl32]) (Bun.len hb45)) rfl (Rdb.own (id := 14) rfl o44) hx37) rfl (oF (stpU_storeEl (id := 14) (i := 0) (⟨p38, (x36.n).length, c40, p66, (x65).length, c67⟩ : CpS) (by decide) ts43 rfl rfl rfl o44 hx37 rfl rfl rfl rfl) ?_))))))))))))
   rintro _ _ ⟨C70, rfl, o70⟩
   obtain ⟨x71, e71, H1⟩ := bS H1
   refine ow_nil (kw_bl_normal (kw_nx (cw_region (oM rfl (oP e71 rfl (oS rfl (ow_nil (kw_shut 14 16 17 18 o70 (Bun.setL (Bun.set hb45 _) _) (idx_some (idx_set hx37)).2.2 (idx_setD e36 (⟨x36.n, x65⟩ : Cp)) rfl o46 rfl o68 ?_))))))))
   rintro C72 o72
   exact kw_lqS (js := [1, 2, 6, 7, 14, 15]) (fuel, (v31.set (Int.toNat v34) (⟨x36.n, x65⟩ : Cp)), x69, x71, C72) ⟨H1, (by simp [hl32]), o72⟩ (Nat.lt_succ_self _) ⟨rfl, rfl, rfl, rfl, rfl, rfl, trivial⟩ ⟨1, [2, 6, 7, 14, 15], rfl, rfl, 2, [6, 7, 14, 15], rfl, rfl, 6, [7, 14, 15], rfl, rfl, 7, [14, 15], rfl, rfl, 14, [15], rfl, rfl, 15, [], rfl, rfl, trivial⟩ (by decide)
  have H1 := cond_f H1 h35
  refine cw_exit (kw_nx_exit (kw_lq_exit (kw_bl ?_)))
  obtain rfl := sI H1
  exact kw_joinS (js := [1, 2, 6, 7, 14, 15]) (v31, v33, v34, C32) ⟨rfl, (by simp [hl32]), o32⟩ ⟨rfl, rfl, rfl, rfl, rfl, rfl, trivial⟩ ⟨1, [2, 6, 7, 14, 15], rfl, rfl, 2, [6, 7, 14, 15], rfl, rfl, 6, [7, 14, 15], rfl, rfl, 7, [14, 15], rfl, rfl, 14, [15], rfl, rfl, 15, [], rfl, rfl, trivial⟩ (by decide)
 rintro ⟨v31, v33, v34, C32⟩ ⟨rfl, hl32, o32⟩
 dsimp only
 refine kw_nx (sr (oB3 15 ts29 rfl (oM rfl (oC3 2 ts29 rfl rfl (oS rfl (oS rfl (nn (cw_ret ?_))))))))
 obtain rfl := sI H0
 exact kr Tryd.results45 (.cons (.cellN (us := [_, _, _]) ts29 rfl (Cells.box (id := 2) rfl 3 rfl)) (.cons (.tmp rfl) (rT rfl))) [6, 7, 14] ⟨_, _, _, _, _, _, _, _, _, _, _, _, rfl, rfl, rfl, o10, rfl, o14, (by simp [hl32]), o32⟩

theorem c_s_l8Ack (fl : Nat) (w : World) (a0 : Cp) (hn0_0 : n0_0 = (a0.n).length) (hr0_0 : RO w (hkeys []) (RdL p0_0 c0_0 a0.n)) (hn0_1 : n0_1 = (a0.w).length) (hr0_1 : RO w (hkeys []) (RdL p0_1 c0_1 a0.w)) (r : Cp) (H0 : s_l8Ack fl a0 = some r) :
  Ct Tryd.prog 74 [.agg #[.slice p0_0 n0_0 c0_0, .slice p0_1 n0_1 c0_1]] w [] (fun rv h' => ∃ (x0 : Option Addr) (y0 z0 : Nat) (C0 : Res) (x1 : Option Addr) (y1 z1 : Nat) (C1 : Res), rv = .agg #[.slice x0 y0 z0, .slice x1 y1 z1] ∧ h' = [(0, C0), (1, C1)] ∧ y0 = (r.n).length ∧ OwnC 53 x0 z0 r.n C0 ∧ y1 = (r.w).length ∧ OwnC 53 x1 z1 r.w C1) := by
 subst hn0_0 hn0_1
 unfold s_l8Ack at H0
 refine ct_of_cw Tryd.func74 rfl Tryd.ntmps74 rfl (Sat.refl _ _) ?_
 refine sr (oE (stpU_box 0 rfl rfl) rfl ?_)
 rintro _ _ ⟨b1, rfl, rfl⟩
 refine oE (stpU_alloc 1 tz43 rfl) rfl ?_
 rintro _ _ ⟨b2, rfl, rfl⟩
 refine nn (sr (oD (stp_build (cs := #[.slice none 0 0, .slice none 0 0]) sevp_nil bt43_10) rfl (oE (stpU_alloc 2 tz43 rfl) rfl ?_)))
 rintro _ _ ⟨b3, rfl, rfl⟩
 obtain ⟨o0_0, eo0_0, H0⟩ := bS H0
 refine oC2 2 ts43 rfl rfl (nn (cw_seq (sr (oS rfl (nn (cw_addNil 3 (cw_join (ι := (List Nt) × Int × Option Addr × Nat × Nat × Res) (fun | (v4, v9, p5, n6, c7, C8) => o0_0 = .out (v4, v9) ∧ n6 = (v4).length ∧ OwnC 53 p5 c7 v4 C8) (fun | (v4, v9, p5, n6, c7, C8) => [(1, .pointer (some ⟨b1, 0, none⟩)), (2, .pointer (some ⟨b2, 0, none⟩)), (3, .pointer (some ⟨b3, 0, none⟩)), (4, .int .i64 v9)]) (fun | (v4, v9, p5, n6, c7, C8) => [(0, [(b1, .cells #[.slice p0_0 ((a0.n).length) c0_0, .slice p0_1 ((a0.w).length) c0_1] 43 (0, 0))]), (1, [(b2, .cells #[.slice none 0 0, .slice none 0 0] 43 (0, 0))]), (2, [(b3, .cells #[.slice p5 n6 c7, .slice none 0 0] 43 (0, 0))]), (1001, C8)]) ?_ ?_)))))))
 ·refine cw_block (cw_loopS (ι := Nat × (List Nt) × Int × Option Addr × Nat × Nat × Res) (js := [0, 1, 2, 3]) (fun x => x.1) (fun | (fuel, v4, v9, p5, n6, c7, C8) => s_l8Ack_L0 fl a0 fuel v4 v9 = some o0_0 ∧ n6 = (v4).length ∧ OwnC 53 p5 c7 v4 C8) (fun | (_, v4, v9, p5, n6, c7, C8) => [(1, .pointer (some ⟨b1, 0, none⟩)), (2, .pointer (some ⟨b2, 0, none⟩)), (3, .pointer (some ⟨b3, 0, none⟩)), (4, .int .i64 v9)]) (fun | (_, v4, v9, p5, n6, c7, C8) => [(0, [(b1, .cells #[.slice p0_0 ((a0.n).length) c0_0, .slice p0_1 ((a0.w).length) c0_1] 43 (0, 0))]), (1, [(b2, .cells #[.slice none 0 0, .slice none 0 0] 43 (0, 0))]), (2, [(b3, .cells #[.slice p5 n6 c7, .slice none 0 0] 43 (0, 0))]), (1001, C8)]) (fl, [], 0, none, 0, 0, []) ⟨eo0_0, rfl, (OwnC.nil _ _)⟩ ⟨rfl, rfl, rfl, rfl, trivial⟩ ⟨0, [1, 2, 3], rfl, rfl, 1, [2, 3], rfl, rfl, 2, [3], rfl, rfl, 3, [], rfl, rfl, trivial⟩ (by decide) ?_)
  rintro ⟨fuel, v4, v9, p5, _, c7, C8⟩ ⟨H1, rfl, o8⟩
  have H1 : s_l8Ack_L0 fl a0 fuel v4 v9 = some o0_0 := H1
  rcases fuel with _ | fuel
  ·rw [s_l8Ack_L0.eq_1] at H1; cases H1
  rw [s_l8Ack_L0.eq_2] at H1
  dsimp only
  refine cw_seq (sr (oM rfl (oA 0 Tryd.underlying43 rfl ts41 rfl (oL 0 ts41 rfl (oD (stp_len Tryd.underlying41 rfl) rfl (oW rfl (nn (cw_cond rfl (fun h10 => ?_) (fun h10 => ?_)))))))))
  ·have H1 := cond_t H1 h10
   obtain ⟨x11, e11, H1⟩ := bS H1
   obtain ⟨x12, e12, H1⟩ := bS H1
   refine cw_skip (kw_nx (cw_seq (cw_block (cw_seq (rdq g_mixed [1, 4] [0] { dst := dS [14, 15, 16, 17, 18, 19, 20, 21, 22, 23], pre := gA [] [[], [0], [], [2], [], [2, 3, 4], rn 2 4, rn 2 5, rn 0 8, rn 0 9], ids := fun _ => [], rs := rL [[(1, 0)], [(13, 1)], [(1, 0)], [(15, 3)], [(4, 0)], [(16, 4), (17, 5)], [(18, 6)], [(19, 7)], [(14, 2), (20, 8)], [(21, 9)]], rh := rL [[], [(0, 0)], [], [(0, 0)]], V := fun i g => gA undef [.pointer (some ⟨b1, 1, none⟩), .slice p0_1 ((a0.w).length) c0_1, .pointer (some ⟨b1, 0, none⟩), .slice p0_0 ((a0.n).length) c0_0, .int .i64 v9, .pointer (some ⟨eB p0_0, eO p0_0 + Int.toNat v9 * Enc.sz Nt + 0, none⟩), .pointer (some ⟨eB p0_0, eO p0_0 + Int.toNat v9 * Enc.sz Nt + 0, none⟩), .agg #[.int .i64 x11.k.s, .int .i64 x11.k.p], .int .i64 x12, .bool (decide (x12 < 0))] i, U := fun _ _ => [], Φ := fun _ _ => True } ?_ ?_)))))
   ·refine ⟨lc rfl rfl fun hs hh => stp_fieldAddr (j := 1) Tryd.underlying43 rfl ts41 rfl (sv hs 1 rfl) rfl, lc rfl rfl fun hs hh => stp_load1 ts41 (sv hs 13 rfl) (Cells.box (id := 0) (hh.get 0 _ rfl) 1 rfl), lc rfl rfl fun hs hh => stp_fieldAddr (j := 0) Tryd.underlying43 rfl ts41 rfl (sv hs 1 rfl) rfl, lc rfl rfl fun hs hh => stp_load1 ts41 (sv hs 15 rfl) (Cells.box (id := 0) (hh.get 0 _ rfl) 1 rfl), lM, lc rfl rfl fun hs hh => stp_indexAddr Tryd.underlying41 ts53 (by decide) (sv hs 16 rfl) rfl (sv hs 17 rfl) (Rdb.ro hr0_0) e11, lc rfl rfl fun hs hh => stp_fieldAddr (j := 0) Tryd.underlying53 rfl ts36 rfl (sv hs 18 rfl) rfl, lc rfl rfl fun hs hh => stp_loadN (us := [_, _]) ts36 (sv hs 19 rfl) (Cells.el (Rdb.ro hr0_0) (by decide) e11 0 2 rfl), ?_, lc rfl rfl fun hs hh => stp_lss (sv hs 21 rfl) rfl, trivial⟩
    refine le rfl rfl (fun g hΦ s h hs hh => (stpU_call (fun i => 4 + i) cf37 (fun w hw => c_s_l8Find fl w a0.w x11.k rfl (RO.pass hr0_1 hw) x12 e12) (yB (sv hs 14 rfl) (sv hs 20 rfl)))) ?_
    rintro g _ _ ⟨_, ⟨rfl, rfl⟩, rfl⟩
    exact ⟨⟨[], [], []⟩, trivial, .inr rfl, rfl⟩
   intro g hΦ
   refine KW.sub (s' := [(1, .pointer (some ⟨b1, 0, none⟩)), (2, .pointer (some ⟨b2, 0, none⟩)), (3, .pointer (some ⟨b3, 0, none⟩)), (4, .int .i64 v9), (22, .bool (decide (x12 < 0)))]) (h' := [(0, [(b1, .cells #[.slice p0_0 ((a0.n).length) c0_0, .slice p0_1 ((a0.w).length) c0_1] 43 (0, 0))]), (1, [(b2, .cells #[.slice none 0 0, .slice none 0 0] 43 (0, 0))]), (2, [(b3, .cells #[.slice p5 ((v4).length) c7, .slice none 0 0] 43 (0, 0))]), (1001, C8)]) ?_ ⟨rfl, rfl, rfl, rfl, rfl, trivial⟩ ⟨rfl, rfl, rfl, rfl, trivial⟩
   refine kw_nx (cw_cond rfl (fun h13 => ?_) (fun h13 => ?_))
   ·have H1 := cond_t H1 h13
    obtain ⟨x16, e16, H1⟩ := bS H1
    refine rdq g_mixed [1, 3, 4] [0, 2, 1001] { dst := dS [24, 25, 26, 27, 28, 29, 30, 31, 32, 33, 0], pre := gA [] [[], [0], [], [2], [], [2, 3, 4], rn 2 4, rn 2 5, rn 0 8, rn 0 9, rn 0 10], ids := gA [] [[], [], [], [], [], [], [], [4], [1001], [], [2]], rs := rL [[(3, 0)], [(23, 1)], [(1, 0)], [(25, 3)], [(4, 0)], [(26, 4), (27, 5)], [(28, 6)], [(29, 7)], [(24, 2), (30, 8)], [(3, 0)], [(32, 10), (31, 9)]], rh := rL [[], [(2, 0)], [], [(0, 0)], [], [], [], [], [(4, 8), (1001, 0)], [], [(2, 0)]], V := fun i g => gA undef [.pointer (some ⟨b3, 0, none⟩), .slice p5 ((v4).length) c7, .pointer (some ⟨b1, 0, none⟩), .slice p0_0 ((a0.n).length) c0_0, .int .i64 v9, .pointer (some ⟨eB p0_0, eO p0_0 + Int.toNat v9 * Enc.sz Nt + 0, none⟩), .agg #[.int .i64 x11.k.s, .int .i64 x11.k.p, .int .i64 x11.fr], .slice ((g 7).A 0) 1 1, .slice ((g 8).A 0) ((x16).length) ((g 8).C 0), .pointer (some ⟨b3, 0, none⟩)] i, U := fun i g => gA [] [[], [], [], [], [], [], [], [(4, ((g 7).R 0))], [(1001, ((g 8).R 0))], [], [(2, [(b3, .cells #[.slice ((g 8).A 0) ((x16).length) ((g 8).C 0), .slice none 0 0] 43 (0, 0))])]] i, Φ := fun i x => match i with | 7 => OwnC (α := Nt) 53 (x.A 0) 1 ([x11]) (x.R 0) | 8 => OwnC 53 (x.A 0) (x.C 0) x16 (x.R 0) | _ => True } ?_ ?_
    ·refine ⟨lc rfl rfl fun hs hh => stp_fieldAddr (j := 0) Tryd.underlying43 rfl ts41 rfl (sv hs 3 rfl) rfl, lc rfl rfl fun hs hh => stp_load1 ts41 (sv hs 23 rfl) (Cells.box (id := 2) (hh.get 2 _ rfl) 1 rfl), lc rfl rfl fun hs hh => stp_fieldAddr (j := 0) Tryd.underlying43 rfl ts41 rfl (sv hs 1 rfl) rfl, lc rfl rfl fun hs hh => stp_load1 ts41 (sv hs 25 rfl) (Cells.box (id := 0) (hh.get 0 _ rfl) 1 rfl), lM, lc rfl rfl fun hs hh => stp_indexAddr Tryd.underlying41 ts53 (by decide) (sv hs 26 rfl) rfl (sv hs 27 rfl) (Rdb.ro hr0_0) e11, lc rfl rfl fun hs hh => stp_loadN (us := [_, _, _]) ts53 (sv hs 28 rfl) (Cells.el (Rdb.ro hr0_0) (by decide) e11 0 3 rfl), ?_, ?_, lc rfl rfl fun hs hh => stp_fieldAddr (j := 0) Tryd.underlying43 rfl ts41 rfl (sv hs 3 rfl) rfl, ?_, trivial⟩
     ·refine le rfl rfl (fun g hΦ s h hs hh => (stpU_lit (sz := 3) (l := [x11]) [.agg #[.int .i64 x11.k.s, .int .i64 x11.k.p, .int .i64 x11.fr]] sl41 4 (sevp_cons (sv hs 29 rfl) sevp_nil) rfl rfl rfl rfl rfl rfl rfl rfl rfl)) ?_
      rintro g _ _ ⟨p14, C15, rfl, rfl, o15⟩
      exact ⟨⟨[p14], [], [C15]⟩, o15, .inr rfl, rfl⟩
     ·refine le rfl rfl (fun g hΦ s h hs hh => (stpU_append sl41 rfl (id := 1001) (sv hs 24 rfl) rfl (sv hs 30 rfl) (by simp) (hh.get 1001 _ rfl) o8 (Rdb.own (id := 4) (hh.get 4 _ rfl) (hΦ 7 rfl)) e16)) ?_
      rintro g _ _ ⟨p17, c18, C19, rfl, rfl, o19⟩
      exact ⟨⟨[p17], [c18], [C19]⟩, o19, .inr rfl, rfl⟩
     refine le rfl rfl (fun g hΦ s h hs hh => (stpU_store (id := 2) (cs' := [.slice ((g 8).A 0) ((x16).length) ((g 8).C 0), .slice none 0 0]) ts41 (sv hs 32 rfl) (sv hs 31 rfl) (hh.get 2 _ rfl) rfl rfl rfl rfl)) ?_
     rintro g _ _ rfl
     exact ⟨⟨[], [], []⟩, trivial, .inl rfl, rfl⟩
    intro g hΦ
    refine kw_gen (ι := Option Addr × Res × Option Addr × Nat × Res) (((g 7).A 0), ((g 7).R 0), ((g 8).A 0), ((g 8).C 0), ((g 8).R 0)) (fun | (p14, C15, p17, c18, C19) => OwnC (α := Nt) 53 p14 1 ([x11]) C15 ∧ OwnC 53 p17 c18 x16 C19) (fun | (p14, C15, p17, c18, C19) => [(1, .pointer (some ⟨b1, 0, none⟩)), (2, .pointer (some ⟨b2, 0, none⟩)), (3, .pointer (some ⟨b3, 0, none⟩)), (4, .int .i64 v9)]) (fun | (p14, C15, p17, c18, C19) => [(0, [(b1, .cells #[.slice p0_0 ((a0.n).length) c0_0, .slice p0_1 ((a0.w).length) c0_1] 43 (0, 0))]), (1, [(b2, .cells #[.slice none 0 0, .slice none 0 0] 43 (0, 0))]), (2, [(b3, .cells #[.slice p17 ((x16).length) c18, .slice none 0 0] 43 (0, 0))]), (1001, C19)]) ⟨(hΦ 7 (by decide)), (hΦ 8 (by decide))⟩ ⟨rfl, rfl, rfl, rfl, trivial⟩ ⟨rfl, rfl, rfl, rfl, trivial⟩ ?_
    rintro ⟨p14, C15, p17, c18, C19⟩ ⟨o15, o19⟩
    dsimp only
    obtain ⟨x20, e20, H1⟩ := bS H1
    exact kw_bl_normal (kw_nx (cw_region (oM rfl (oP e20 rfl (oS rfl (ow_nil (kw_lqS (js := [0, 1, 2, 1001]) (fuel, x16, x20, p17, ((x16).length), c18, C19) ⟨H1, rfl, o19⟩ (Nat.lt_succ_self _) ⟨rfl, rfl, rfl, rfl, trivial⟩ ⟨0, [1, 2, 1001], rfl, rfl, 1, [2, 1001], rfl, rfl, 2, [1001], rfl, rfl, 1001, [], rfl, rfl, trivial⟩ (by decide))))))))
   have H1 := cond_f H1 h13
   obtain ⟨x21, e21, H1⟩ := bS H1
   exact cw_skip (kw_bl_normal (kw_nx (cw_region (oM rfl (oP e21 rfl (oS rfl (ow_nil (kw_lqS (js := [0, 1, 2, 1001]) (fuel, v4, x21, p5, ((v4).length), c7, C8) ⟨H1, rfl, o8⟩ (Nat.lt_succ_self _) ⟨rfl, rfl, rfl, rfl, trivial⟩ ⟨0, [1, 2, 1001], rfl, rfl, 1, [2, 1001], rfl, rfl, 2, [1001], rfl, rfl, 1001, [], rfl, rfl, trivial⟩ (by decide)))))))))
  have H1 := cond_f H1 h10
  refine cw_exit (kw_nx_exit (kw_lq_exit (kw_bl ?_)))
  obtain rfl := sI H1
  exact kw_joinS (js := [0, 1, 2, 1001]) (v4, v9, p5, ((v4).length), c7, C8) ⟨rfl, rfl, o8⟩ ⟨rfl, rfl, rfl, rfl, trivial⟩ ⟨0, [1, 2, 1001], rfl, rfl, 1, [2, 1001], rfl, rfl, 2, [1001], rfl, rfl, 1001, [], rfl, rfl, trivial⟩ (by decide)
 rintro ⟨v4, v9, p5, _, c7, C8⟩ ⟨rfl, rfl, o8⟩
 dsimp only
 refine kw_nx (sr (oB2 2 ts43 rfl (oC2 1 ts43 rfl rfl (nn (cw_ret (kw_addNil 5 ?_))))))
 obtain rfl := sI H0
 exact kr Tryd.results74 (rC2 1 ts43 rfl rfl) [1001, 5] ⟨_, _, _, _, _, _, _, _, rfl, rfl, rfl, o8, rfl, (OwnC.nil _ _)⟩

theorem c_s_AckCpu (fl : Nat) (w : World) (a0 : Sy) (a1 : Int) (hn0_0 : n0_0 = (a0.t.b).length) (hr0_0 : RO w (hkeys []) (RdL p0_0 c0_0 a0.t.b)) (hn0_1 : n0_1 = (a0.t.f).length) (hr0_1 : RO w (hkeys []) (RdL p0_1 c0_1 a0.t.f)) (hn0_2 : n0_2 = (a0.c).length) (hr0_2 : ROD w (hkeys []) p0_2 c0_2 a0.c) (r : Sy × Bool) (H0 : s_AckCpu fl a0 a1 = some r) :
  Ct Tryd.prog 46 [.agg #[.slice p0_0 n0_0 c0_0, .slice p0_1 n0_1 c0_1, .slice p0_2 n0_2 c0_2], .int .i64 a1] w [] (fun rv h' => ∃ (x0 : Option Addr) (y0 z0 : Nat) (C0 : Res) (x1 : Option Addr) (y1 z1 : Nat) (C1 : Res) (x2 : Option Addr) (y2 z2 : Nat) (C2 : Res), rv = .tuple #[.agg #[.slice x0 y0 z0, .slice x1 y1 z1, .slice x2 y2 z2], .bool r.2] ∧ h' = [(0, C0), (1, C1), (2, C2)] ∧ y0 = (r.1.t.b).length ∧ OwnC 3 x0 z0 r.1.t.b C0 ∧ y1 = (r.1.t.f).length ∧ OwnC 61 x1 z1 r.1.t.f C1 ∧ y2 = (r.1.c).length ∧ OwnD 43 53 x2 z2 r.1.c C2) := by
 subst hn0_0 hn0_1 hn0_2
 unfold s_AckCpu at H0
 refine ct_of_cw Tryd.func46 rfl Tryd.ntmps46 rfl (Sat.refl _ _) ?_
 refine sr (oE (stpU_box 0 rfl rfl) rfl ?_)
 rintro _ _ ⟨b1, rfl, rfl⟩
 refine oE (stpU_alloc 1 tz29 rfl) rfl ?_
 rintro _ _ ⟨b2, rfl, rfl⟩
 obtain ⟨x3, e3, H0⟩ := bS H0
 refine oS rfl (nn (cw_seq (sr (oB3 0 ts29 rfl (oM rfl (oE (stpU_call (fun i => 2 + i) cf34 (fun w hw => c_s_l8Right fl w a0 a1 rfl (RO.pass hr0_0 hw) rfl (RO.pass hr0_1 hw) rfl (ROD.pass hr0_2 hw) x3 e3) (yB rfl rfl)) rfl ?_))))))
 rintro _ _ ⟨_, ⟨rfl, rfl⟩, rfl⟩
 refine oK rfl (nn (cw_cond rfl (fun h4 => ?_) (fun h4 => ?_)))
 ·have H0 := cond_t H0 h4
  refine sr (oD (stp_build (cs := #[.slice none 0 0, .slice none 0 0, .slice none 0 0]) sevp_nil bt29_2) rfl (oC3 1 ts29 rfl rfl (oS rfl (nn (cw_ret (kw_nx_ret (kw_addNil 2 (kw_addNil 3 (kw_addNil 4 ?_)))))))))
  obtain rfl := sI H0
  exact kr Tryd.results46 (.cons (.cellN (us := [_, _, _]) ts29 rfl (Cells.box (id := 1) rfl 3 rfl)) (rT rfl)) [2, 3, 4] ⟨_, _, _, _, _, _, _, _, _, _, _, _, rfl, rfl, rfl, (OwnC.nil _ _), rfl, (OwnC.nil _ _), rfl, (OwnD.nil _ _ _)⟩
 have H0 := cond_f H0 h4
 obtain ⟨x5, e5, H0⟩ := bS H0
 refine cw_skip (kw_nx (sr (oB3 0 ts29 rfl (oE (stpU_call (fun i => 5 + i) cf36 (fun w hw => c_s_l8Copy fl w a0 rfl (RO.pass hr0_0 hw) rfl (RO.pass hr0_1 hw) rfl (ROD.pass hr0_2 hw) x5 e5) (yA rfl)) rfl ?_))))
 rintro _ _ ⟨_, ⟨p6, _, c8, C9, p10, _, c12, C13, p14, _, c16, C17, rfl, rfl, rfl, o9, rfl, o13, rfl, o17⟩, rfl⟩
 refine oE (stpU_alloc 8 tz29 rfl) rfl ?_
 rintro _ _ ⟨b18, rfl, rfl⟩
 obtain ⟨x19, e19, H0⟩ := bS H0
 refine oC3 8 ts29 rfl rfl (nn (cw_seq (cw_open 7 9 10 11 rfl o17 e19 ?_)))
 rintro u20 p21 n22 c23 p24 n25 c26 C27 C28 C29 C30 o27 hb28 hx20 rfl o29 rfl o30
 obtain ⟨x31, e31, H0⟩ := bS H0
 refine rdq g_mixed [1, 6] [7, 8, 10, 11] { dst := dS [15, 16, 17, 18, 19, 20, 21, 22, 23, 24, 0], pre := gA [] [[], [0], [], [], [3], [], [3, 4, 5], rn 3 4, rn 3 5, rn 0 9, rn 0 10], ids := gA [] [[], [], [], [], [], [], [], [], [12, 13], [], [7, 12, 13]], rs := rL [[(6, 0)], [(14, 1)], [(1, 0)], [(6, 0)], [(17, 4)], [(1, 0)], [(18, 5), (19, 6)], [(20, 7)], [(21, 8)], [(15, 2), (16, 3)], [(23, 10), (22, 9)]], rh := rL [[], [(8, 0)], [], [], [(8, 0)], [], [(7, 0)], [(7, 0)], [(10, 0), (11, 0)], [(7, 0)], [(7, 0), (12, 9), (13, 9)]], V := fun i g => gA undef [.pointer (some ⟨b18, 2, none⟩), .slice p14 ((x5.c).length) c16, .int .i64 a1, .pointer (some ⟨b18, 2, none⟩), .slice p14 ((x5.c).length) c16, .int .i64 a1, .pointer (some ⟨eB p14, eO p14 + Int.toNat a1 * Enc.sz CpS + 0, none⟩), .agg #[.slice p21 ((x19.n).length) c23, .slice p24 ((x19.w).length) c26], .agg #[.slice ((g 8).A 0) ((x31.n).length) ((g 8).C 0), .slice ((g 8).A 1) ((x31.w).length) ((g 8).C 1)], .pointer (some ⟨eB p14, eO p14 + Int.toNat a1 * Enc.sz CpS + 0, none⟩)] i, U := fun i g => match i with | 8 => [(12, ((g 8).R 0)), (13, ((g 8).R 1))] | 10 => [(7, ((g 10).R 0)), (12, ((g 10).R 1)), (13, ((g 10).R 2))] | _ => [], Φ := fun i x => match i with | 8 => OwnC 53 (x.A 0) (x.C 0) x31.n (x.R 0) ∧ OwnC 53 (x.A 1) (x.C 1) x31.w (x.R 1) | 10 => OwnC (α := CpS) 43 p14 c16 (u20.set (Int.toNat a1) (⟨(x.A 0), (x31.n).length, (x.C 0), (x.A 1), (x31.w).length, (x.C 1)⟩ : CpS)) (x.R 0) ∧ OwnC 53 (x.A 0) (x.C 0) x31.n (x.R 1) ∧ OwnC 53 (x.A 1) (x.C 1) x31.w (x.R 2) | _ => True } ?_ ?_
 ·refine ⟨lc rfl rfl fun hs hh => stp_fieldAddr (j := 2) Tryd.underlying29 rfl ts27 rfl (sv hs 6 rfl) rfl, lc rfl rfl fun hs hh => stp_load1 ts27 (sv hs 14 rfl) (Cells.box (id := 8) (hh.get 8 _ rfl) 1 rfl), lM, lc rfl rfl fun hs hh => stp_fieldAddr (j := 2) Tryd.underlying29 rfl ts27 rfl (sv hs 6 rfl) rfl, lc rfl rfl fun hs hh => stp_load1 ts27 (sv hs 17 rfl) (Cells.box (id := 8) (hh.get 8 _ rfl) 1 rfl), lM, lc rfl rfl fun hs hh => stp_indexAddr Tryd.underlying27 ts43 (by decide) (sv hs 18 rfl) (Bun.len hb28) (sv hs 19 rfl) (Rdb.own (id := 7) (hh.get 7 _ rfl) o27) hx20, lc rfl rfl fun hs hh => stp_loadN (us := [_, _]) ts43 (sv hs 20 rfl) (Cells.el (Rdb.own (id := 7) (hh.get 7 _ rfl) o27) (by decide) hx20 0 2 rfl), ?_, lc rfl rfl fun hs hh => stp_indexAddr Tryd.underlying27 ts43 (by decide) (sv hs 15 rfl) (Bun.len hb28) (sv hs 16 rfl) (Rdb.own (id := 7) (hh.get 7 _ rfl) o27) hx20, ?_, trivial⟩
  ·refine le rfl rfl (fun g hΦ s h hs hh => (stpU_call (fun i => 12 + i) cf74 (fun w hw => c_s_l8Ack fl w x19 rfl (OwnC.pass (id := 10) (hh.get 10 _ rfl) o29 hw) rfl (OwnC.pass (id := 11) (hh.get 11 _ rfl) o30 hw) x31 e31) (yA (sv hs 21 rfl)))) ?_
   rintro g _ _ ⟨_, ⟨p32, _, c34, C35, p36, _, c38, C39, rfl, rfl, rfl, o35, rfl, o39⟩, rfl⟩
   exact ⟨⟨[p32, p36], [c34, c38], [C35, C39]⟩, ⟨o35, o39⟩, .inr rfl, rfl⟩
  refine le rfl rfl (fun g hΦ s h hs hh => (stpU_keep (hh.get 13 _ rfl) (stpU_keep (hh.get 12 _ rfl) (stpU_storeEl (id := 7) (i := 0) (⟨((g 8).A 0), (x31.n).length, ((g 8).C 0), ((g 8).A 1), (x31.w).length, ((g 8).C 1)⟩ : CpS) (by decide) ts43 (sv hs 23 rfl) (sv hs 22 rfl) (hh.get 7 _ rfl) o27 hx20 rfl rfl rfl rfl) (by rintro _ _ ⟨_, rfl, _⟩; rfl) (hΦ 8 rfl).1) (by rintro _ _ ⟨_, ⟨_, rfl, _⟩, rfl, _⟩; rfl) (hΦ 8 rfl).2)) ?_
  rintro g _ _ ⟨_, ⟨_, ⟨C40, rfl, o40⟩, rfl, o43⟩, rfl, o46⟩
  exact ⟨⟨[((g 8).A 0), ((g 8).A 1)], [((g 8).C 0), ((g 8).C 1)], [C40, ((g 8).R 0), ((g 8).R 1)]⟩, ⟨o40, o43, o46⟩, .inl rfl, rfl⟩
 intro g hΦ
 refine kw_gen (ι := Option Addr × Option Addr × Nat × Nat × Res × Res × Option Addr × Option Addr × Nat × Nat × Res × Res × Res) (((g 8).A 0), ((g 8).A 1), ((g 8).C 0), ((g 8).C 1), ((g 8).R 0), ((g 8).R 1), ((g 10).A 0), ((g 10).A 1), ((g 10).C 0), ((g 10).C 1), ((g 10).R 0), ((g 10).R 1), ((g 10).R 2)) (fun | (p32, p36, c34, c38, C35, C39, p41, p44, c42, c45, C40, C43, C46) => OwnC 53 p32 c34 x31.n C35 ∧ OwnC 53 p36 c38 x31.w C39 ∧ OwnC (α := CpS) 43 p14 c16 (u20.set (Int.toNat a1) (⟨p41, (x31.n).length, c42, p44, (x31.w).length, c45⟩ : CpS)) C40 ∧ OwnC 53 p41 c42 x31.n C43 ∧ OwnC 53 p44 c45 x31.w C46) (fun | (p32, p36, c34, c38, C35, C39, p41, p44, c42, c45, C40, C43, C46) => [(4, .pointer (some ⟨b2, 0, none⟩)), (6, .pointer (some ⟨b18, 0, none⟩))]) (fun | (p32, p36, c34, c38, C35, C39, p41, p44, c42, c45, C40, C43, C46) => [(1, [(b2, .cells #[.slice none 0 0, .slice none 0 0, .slice none 0 0] 29 (0, 0))]), (5, C9), (6, C13), (7, C40), (8, [(b18, .cells #[.slice p6 ((x5.t.b).length) c8, .slice p10 ((x5.t.f).length) c12, .slice p14 ((x5.c).length) c16] 29 (0, 0))]), (9, C28), (12, C43), (13, C46)]) ⟨(hΦ 8 (by decide)).1, (hΦ 8 (by decide)).2, (hΦ 10 (by decide)).1, (hΦ 10 (by decide)).2.1, (hΦ 10 (by decide)).2.2⟩ ⟨rfl, rfl, trivial⟩ ⟨rfl, rfl, rfl, rfl, rfl, rfl, rfl, rfl, trivial⟩ ?_
 rintro ⟨p32, p36, c34, c38, C35, C39, p41, p44, c42, c45, C40, C43, C46⟩ ⟨o35, o39, o40, o43, o46⟩
 dsimp only
 refine kw_nx (sr (oB3 8 ts29 rfl (oC3 1 ts29 rfl rfl (oS rfl (nn (cw_ret (kw_shut 7 9 12 13 o40 (Bun.setL (Bun.set hb28 _) _) (idx_some (idx_set hx20)).2.2 (idx_setD e19 (⟨x31.n, x31.w⟩ : Cp)) rfl o43 rfl o46 ?_)))))))
 rintro C47 o47
 obtain rfl := sI H0
 exact kr Tryd.results46 (.cons (.cellN (us := [_, _, _]) ts29 rfl (Cells.box (id := 1) rfl 3 rfl)) (rT rfl)) [5, 6, 7] ⟨_, _, _, _, _, _, _, _, _, _, _, _, rfl, rfl, rfl, o9, rfl, o13, (by simp), o47⟩

theorem c_s_l8StepS (fl : Nat) (w : World) (m0 : Nat) (a0_0 : (List UInt8)) (a0_1 : Int) (a1 : Sy) (hn0_0_0 : n0_0_0 = (a0_0).length) (hr0_0_0 : RO w (hkeys [(0, [(m0, .cells #[.slice p0_0_0 n0_0_0 c0_0_0, .int .i64 a0_1] 72 (0, 0))])]) (RdL p0_0_0 c0_0_0 a0_0)) (hn1_0 : n1_0 = (a1.t.b).length) (hr1_0 : RO w (hkeys [(0, [(m0, .cells #[.slice p0_0_0 n0_0_0 c0_0_0, .int .i64 a0_1] 72 (0, 0))])]) (RdL p1_0 c1_0 a1.t.b)) (hn1_1 : n1_1 = (a1.t.f).length) (hr1_1 : RO w (hkeys [(0, [(m0, .cells #[.slice p0_0_0 n0_0_0 c0_0_0, .int .i64 a0_1] 72 (0, 0))])]) (RdL p1_1 c1_1 a1.t.f)) (hn1_2 : n1_2 = (a1.c).length) (hr1_2 : ROD w (hkeys [(0, [(m0, .cells #[.slice p0_0_0 n0_0_0 c0_0_0, .int .i64 a0_1] 72 (0, 0))])]) p1_2 c1_2 a1.c) (hM : Sat w (hkeys [(0, [(m0, .cells #[.slice p0_0_0 n0_0_0 c0_0_0, .int .i64 a0_1] 72 (0, 0))])]) w [(0, [(m0, .cells #[.slice p0_0_0 n0_0_0 c0_0_0, .int .i64 a0_1] 72 (0, 0))])]) (r : Sy × Int) (H0 : s_l8Step fl a0_0 a0_1 a1 = some r) :
  Ct Tryd.prog 15 [.pointer (some ⟨m0, 0, none⟩), .agg #[.slice p1_0 n1_0 c1_0, .slice p1_1 n1_1 c1_1, .slice p1_2 n1_2 c1_2]] w [(0, [(m0, .cells #[.slice p0_0_0 n0_0_0 c0_0_0, .int .i64 a0_1] 72 (0, 0))])] (fun rv h' => ∃ (x1 : Option Addr) (y1 z1 : Nat) (C1 : Res) (x2 : Option Addr) (y2 z2 : Nat) (C2 : Res) (x3 : Option Addr) (y3 z3 : Nat) (C3 : Res), rv = .agg #[.slice x1 y1 z1, .slice x2 y2 z2, .slice x3 y3 z3] ∧ h' = [(0, [(m0, .cells #[.slice p0_0_0 n0_0_0 c0_0_0, .int .i64 r.2] 72 (0, 0))]), (1, C1), (2, C2), (3, C3)] ∧ y1 = (r.1.t.b).length ∧ y2 = (r.1.t.f).length ∧ y3 = (r.1.c).length ∧ ShS 3 61 43 53 x1 z1 x2 z2 x3 z3 r.1 C1 C2 C3 p1_0 c1_0 p1_1 c1_1 p1_2 c1_2 a1) := by
 subst hn0_0_0 hn1_0 hn1_1 hn1_2
 unfold s_l8Step at H0
 refine ct_of_cw Tryd.func15 rfl Tryd.ntmps15 rfl hM ?_
 refine sr (oE (stpU_box 1 rfl rfl) rfl ?_)
 rintro _ _ ⟨b1, rfl, rfl⟩
 refine oE (stpU_alloc 2 tz29 rfl) rfl ?_
 rintro _ _ ⟨b2, rfl, rfl⟩
 refine nn (sr (oB3 1 ts29 rfl (oE (stpU_alloc 3 tz29 rfl) rfl ?_)))
 rintro _ _ ⟨b3, rfl, rfl⟩
 obtain ⟨x4, e4, H0⟩ := bS H0
 refine oC3 3 ts29 rfl rfl (nn (sr (oS rfl (nn (sr (oM rfl (oA 2 Tryd.underlying29 rfl ts27 rfl (oL 1 ts27 rfl (oD (stp_len Tryd.underlying27 rfl) rfl (oE (stpU_callM (fun i => bif Nat.beq i 0 then 0 else 4 + i) cf14 (fun w hw hb => c_s_l12Rd_pick fl w m0 a0_0 a0_1 ((a1.c).length : Int) rfl (RO.passM hr0_0_0 hw hb) (hw.pass (js := [0]) ⟨0, [], rfl, rfl, trivial⟩ (by decide)) x4 e4) (yB rfl rfl) ⟨rfl, (fun _ _ hp => by obtain ⟨_, rfl⟩ := hp; exact ⟨_, rfl⟩), trivial⟩) rfl ?_))))))))))
 rintro _ _ ⟨_, ⟨rfl, rfl⟩, rfl⟩
 obtain ⟨x5, e5, H0⟩ := bS H0
 refine oS rfl (nn (cw_seq (sr (oM rfl (oE (stpU_callM (fun i => bif Nat.beq i 0 then 0 else 5 + i) cf14 (fun w hw hb => c_s_l12Rd_pick fl w m0 a0_0 x4.2 6 rfl (RO.passM hr0_0_0 hw hb) (hw.pass (js := [0]) ⟨0, [], rfl, rfl, trivial⟩ (by decide)) x5 e5) (yB rfl rfl) ⟨rfl, (fun _ _ hp => by obtain ⟨_, rfl⟩ := hp; exact ⟨_, rfl⟩), trivial⟩) rfl ?_)))))
 rintro _ _ ⟨_, ⟨rfl, rfl⟩, rfl⟩
 obtain ⟨y7, ey7, H0⟩ := bS H0
 refine nn (cw_block (cw_seq (sr (oQ rfl (oS rfl (nn (cw_join (ι := Unit) (fun _ => True) (fun _ => [(0, .pointer (some ⟨m0, 0, none⟩)), (3, .pointer (some ⟨b1, 0, none⟩)), (4, .pointer (some ⟨b2, 0, none⟩)), (5, .pointer (some ⟨b3, 0, none⟩)), (6, .bool false), (7, .int .i64 x4.1), (17, .int .i64 x5.1), (18, .bool y7)]) (fun _ => [(0, [(m0, .cells #[.slice p0_0_0 ((a0_0).length) c0_0_0, .int .i64 x5.2] 72 (0, 0))]), (1, [(b1, .cells #[.slice p1_0 ((a1.t.b).length) c1_0, .slice p1_1 ((a1.t.f).length) c1_1, .slice p1_2 ((a1.c).length) c1_2] 29 (0, 0))]), (2, [(b2, .cells #[.slice none 0 0, .slice none 0 0, .slice none 0 0] 29 (0, 0))]), (3, [(b3, .cells #[.slice p1_0 ((a1.t.b).length) c1_0, .slice p1_1 ((a1.t.f).length) c1_1, .slice p1_2 ((a1.c).length) c1_2] 29 (0, 0))])]) ?_ (fun _ _ => ?_))))))))
 ·refine cw_cond rfl (fun h8 => ?_) (fun h8 => ?_)
  ·have ey7 := cond_t ey7 h8
   refine cw_skip ?_
   obtain rfl := sI ey7
   exact kw_join () trivial ⟨rfl, rfl, rfl, rfl, rfl, rfl, rfl, rfl, trivial⟩ ⟨rfl, rfl, rfl, rfl, trivial⟩
  have ey7 := cond_f ey7 h8
  refine cw_region (oQ rfl (oS rfl (ow_nil ?_)))
  obtain rfl := sI ey7
  exact kw_join () trivial ⟨rfl, rfl, rfl, rfl, rfl, rfl, rfl, rfl, trivial⟩ ⟨rfl, rfl, rfl, rfl, trivial⟩
 refine kw_nx (cw_cond rfl (fun h9 => ?_) (fun h9 => ?_))
 ·have H0 := cond_t H0 h9
  obtain ⟨x10, e10, H0⟩ := bS H0
  obtain ⟨x11, e11, H0⟩ := bS H0
  obtain ⟨x14, e14, H0⟩ := bS H0
  obtain ⟨x15, e15, H0⟩ := bS H0
  refine rdq g_mixed [0, 3, 5] [0, 1, 3] { dst := dS [23, 24, 25, 26, 27, 28, 29, 30, 31, 32, 33, 34, 35, 22, 36, 37, 0, 7], pre := gA [] [[], [], [1], [], [], [4], [4, 5], [4, 5, 6], rn 1 7, [], [], rn 1 10, rn 0 12, rn 0 13, rn 0 14, rn 0 14, rn 0 15, rn 0 17], ids := gA [] [[], [], [0], [], [], [], [], [], [0], [], [8], [0], [10, 11, 12], [], [], [], [3]], rs := rL [[(3, 0)], [(0, 0)], [(23, 2)], [(0, 0)], [(3, 0)], [(26, 5)], [(27, 6)], [(28, 7)], [(25, 4), (29, 8)], [(0, 0)], [], [(31, 10), (32, 11)], [(22, 1), (24, 3), (30, 9), (33, 12)], [(34, 13)], [(21, 14)], [(21, 14)], [(5, 0), (35, 15)], [(36, 16)]], rh := rL [[(1, 0)], [], [(0, 0)], [], [], [], [(1, 0)], [], [(0, 3)], [], [], [(0, 9), (8, 11)], [], [], [], [], [(3, 0)]], V := fun i g => gA undef [.agg #[.slice p1_0 ((a1.t.b).length) c1_0, .slice p1_1 ((a1.t.f).length) c1_1, .slice p1_2 ((a1.c).length) c1_2], .pointer (some ⟨m0, 0, none⟩), .agg #[.int .i64 x10.1.s, .int .i64 x10.1.p], .pointer (some ⟨m0, 0, none⟩), .pointer (some ⟨b1, 0, none⟩), .pointer (some ⟨b1, 1, none⟩), .slice p1_1 ((a1.t.f).length) c1_1, .int .i64 ((a1.t.f).length : Int), .int .i64 x11.1, .pointer (some ⟨m0, 0, none⟩), .slice ((g 10).A 0) 2 2, .int .i64 x14.1, .tuple #[.agg #[.slice ((g 12).A 0) ((x15.1.t.b).length) ((g 12).C 0), .slice ((g 12).A 1) ((x15.1.t.f).length) ((g 12).C 1), .slice ((g 12).A 2) ((x15.1.c).length) ((g 12).C 2)], .bool x15.2], .tuple #[.agg #[.slice ((g 12).A 0) ((x15.1.t.b).length) ((g 12).C 0), .slice ((g 12).A 1) ((x15.1.t.f).length) ((g 12).C 1), .slice ((g 12).A 2) ((x15.1.c).length) ((g 12).C 2)], .bool x15.2], .agg #[.slice ((g 12).A 0) ((x15.1.t.b).length) ((g 12).C 0), .slice ((g 12).A 1) ((x15.1.t.f).length) ((g 12).C 1), .slice ((g 12).A 2) ((x15.1.c).length) ((g 12).C 2)], .bool x15.2, undef, .bool x15.2] i, U := fun i g => gA [] [[], [], [(0, [(m0, .cells #[.slice p0_0_0 ((a0_0).length) c0_0_0, .int .i64 x10.2] 72 (0, 0))])], [], [], [], [], [], [(0, [(m0, .cells #[.slice p0_0_0 ((a0_0).length) c0_0_0, .int .i64 x11.2] 72 (0, 0))])], [], [(8, ((g 10).R 0))], [(0, [(m0, .cells #[.slice p0_0_0 ((a0_0).length) c0_0_0, .int .i64 x14.2] 72 (0, 0))])], [(10, ((g 12).R 0)), (11, ((g 12).R 1)), (12, ((g 12).R 2))], [], [], [], [(3, [(b3, .cells #[.slice ((g 12).A 0) ((x15.1.t.b).length) ((g 12).C 0), .slice ((g 12).A 1) ((x15.1.t.f).length) ((g 12).C 1), .slice ((g 12).A 2) ((x15.1.c).length) ((g 12).C 2)] 29 (0, 0))])]] i, Φ := fun i x => match i with | 10 => OwnC (α := Int) 3 (x.A 0) 2 ([3, 1]) (x.R 0) | 12 => OwnC 3 (x.A 0) (x.C 0) x15.1.t.b (x.R 0) ∧ OwnC 61 (x.A 1) (x.C 1) x15.1.t.f (x.R 1) ∧ OwnD 43 53 (x.A 2) (x.C 2) x15.1.c (x.R 2) | _ => True } ?_ ?_
  ·refine ⟨lc rfl rfl fun hs hh => stp_loadN (us := [_, _, _]) ts29 (sv hs 3 rfl) (Cells.box (id := 1) (hh.get 1 _ rfl) 3 rfl), lM, ?_, lM, lc rfl rfl fun hs hh => stp_fieldAddr (j := 0) Tryd.underlying29 rfl ts26 rfl (sv hs 3 rfl) rfl, lc rfl rfl fun hs hh => stp_fieldAddr (j := 1) Tryd.underlying26 rfl ts24 rfl (sv hs 26 rfl) rfl, lc rfl rfl fun hs hh => stp_load1 ts24 (sv hs 27 rfl) (Cells.box (id := 1) (hh.get 1 _ rfl) 1 rfl), lc rfl rfl fun hs hh => stp_len Tryd.underlying24 (sv hs 28 rfl), ?_, lM, ?_, ?_, ?_, lM, lT, lT, ?_, lS, trivial⟩
   ·refine le rfl rfl (fun g hΦ s h hs hh => (stpU_callM (fun i => bif Nat.beq i 0 then 0 else 6 + i) cf43 (fun w hw hb => c_s_l2Draw fl w m0 a0_0 x5.2 rfl (RO.passM hr0_0_0 hw hb) (hw.pass (js := [0]) ⟨0, [], rfl, (hh.get 0 _ rfl), trivial⟩ (by decide)) x10 e10) (yA (sv hs 23 rfl)) ⟨(hh.get 0 _ rfl), (fun _ _ hp => by obtain ⟨_, rfl⟩ := hp; exact ⟨_, rfl⟩), trivial⟩)) ?_
    rintro g _ _ ⟨_, ⟨rfl, rfl⟩, rfl⟩
    exact ⟨⟨[], [], []⟩, trivial, .inr rfl, rfl⟩
   ·refine le rfl rfl (fun g hΦ s h hs hh => (stpU_callM (fun i => bif Nat.beq i 0 then 0 else 7 + i) cf14 (fun w hw hb => c_s_l12Rd_pick fl w m0 a0_0 x10.2 ((a1.t.f).length : Int) rfl (RO.passM hr0_0_0 hw hb) (hw.pass (js := [0]) ⟨0, [], rfl, (hh.get 0 _ rfl), trivial⟩ (by decide)) x11 e11) (yB (sv hs 25 rfl) (sv hs 29 rfl)) ⟨(hh.get 0 _ rfl), (fun _ _ hp => by obtain ⟨_, rfl⟩ := hp; exact ⟨_, rfl⟩), trivial⟩)) ?_
    rintro g _ _ ⟨_, ⟨rfl, rfl⟩, rfl⟩
    exact ⟨⟨[], [], []⟩, trivial, .inr rfl, rfl⟩
   ·refine le rfl rfl (fun g hΦ s h hs hh => (stpU_lit (sz := 1) (l := [3, 1]) [.int .i64 3, .int .i64 1] sl23 8 (sevp_cons rfl (sevp_cons rfl sevp_nil)) rfl rfl rfl rfl rfl rfl rfl rfl rfl)) ?_
    rintro g _ _ ⟨p12, C13, rfl, rfl, o13⟩
    exact ⟨⟨[p12], [], [C13]⟩, o13, .inr rfl, rfl⟩
   ·refine le rfl rfl (fun g hΦ s h hs hh => (stpU_callM (fun i => bif Nat.beq i 0 then 0 else 9 + i) cf41 (fun w hw hb => c_s_l12Rd_num fl w m0 a0_0 x11.2 ([3, 1]) rfl (RO.passM hr0_0_0 hw hb) (by simp) (OwnC.passM (id := 8) (hh.get 8 _ rfl) (hΦ 10 rfl) hw hb ⟨rfl, trivial⟩) (hw.pass (js := [0]) ⟨0, [], rfl, (hh.get 0 _ rfl), trivial⟩ (by decide)) x14 e14) (yB (sv hs 31 rfl) (sv hs 32 rfl)) ⟨(hh.get 0 _ rfl), (fun _ _ hp => by obtain ⟨_, rfl⟩ := hp; exact ⟨_, rfl⟩), trivial⟩)) ?_
    rintro g _ _ ⟨_, ⟨rfl, rfl⟩, rfl⟩
    exact ⟨⟨[], [], []⟩, trivial, .inr rfl, rfl⟩
   ·refine le rfl rfl (fun g hΦ s h hs hh => (stpU_call (fun i => 10 + i) cf42 (fun w hw => c_s_MapSystem fl w a1 x10.1 x11.1 x14.1 rfl (RO.pass hr1_0 hw) rfl (RO.pass hr1_1 hw) rfl (ROD.pass hr1_2 hw) x15 e15) (yD (sv hs 22 rfl) (sv hs 24 rfl) (sv hs 30 rfl) (sv hs 33 rfl)))) ?_
    rintro g _ _ ⟨_, ⟨p16, _, c18, C19, p20, _, c22, C23, p24, _, c26, C27, rfl, rfl, rfl, o19, rfl, o23, rfl, o27⟩, rfl⟩
    exact ⟨⟨[p16, p20, p24], [c18, c22, c26], [C19, C23, C27]⟩, ⟨o19, o23, o27⟩, .inr rfl, rfl⟩
   refine le rfl rfl (fun g hΦ s h hs hh => (stpU_store (id := 3) (cs' := [.slice ((g 12).A 0) ((x15.1.t.b).length) ((g 12).C 0), .slice ((g 12).A 1) ((x15.1.t.f).length) ((g 12).C 1), .slice ((g 12).A 2) ((x15.1.c).length) ((g 12).C 2)]) ts29 (sv hs 5 rfl) (sv hs 35 rfl) (hh.get 3 _ rfl) rfl rfl rfl rfl)) ?_
   rintro g _ _ rfl
   exact ⟨⟨[], [], []⟩, trivial, .inl rfl, rfl⟩
  intro g hΦ
  refine kw_gen (ι := Option Addr × Res × Option Addr × Option Addr × Option Addr × Nat × Nat × Nat × Res × Res × Res) (((g 10).A 0), ((g 10).R 0), ((g 12).A 0), ((g 12).A 1), ((g 12).A 2), ((g 12).C 0), ((g 12).C 1), ((g 12).C 2), ((g 12).R 0), ((g 12).R 1), ((g 12).R 2)) (fun | (p12, C13, p16, p20, p24, c18, c22, c26, C19, C23, C27) => OwnC (α := Int) 3 p12 2 ([3, 1]) C13 ∧ OwnC 3 p16 c18 x15.1.t.b C19 ∧ OwnC 61 p20 c22 x15.1.t.f C23 ∧ OwnD 43 53 p24 c26 x15.1.c C27) (fun | (p12, C13, p16, p20, p24, c18, c22, c26, C19, C23, C27) => [(3, .pointer (some ⟨b1, 0, none⟩)), (4, .pointer (some ⟨b2, 0, none⟩)), (5, .pointer (some ⟨b3, 0, none⟩)), (6, .bool x15.2)]) (fun | (p12, C13, p16, p20, p24, c18, c22, c26, C19, C23, C27) => [(0, [(m0, .cells #[.slice p0_0_0 ((a0_0).length) c0_0_0, .int .i64 x14.2] 72 (0, 0))]), (1, [(b1, .cells #[.slice p1_0 ((a1.t.b).length) c1_0, .slice p1_1 ((a1.t.f).length) c1_1, .slice p1_2 ((a1.c).length) c1_2] 29 (0, 0))]), (2, [(b2, .cells #[.slice none 0 0, .slice none 0 0, .slice none 0 0] 29 (0, 0))]), (3, [(b3, .cells #[.slice p16 ((x15.1.t.b).length) c18, .slice p20 ((x15.1.t.f).length) c22, .slice p24 ((x15.1.c).length) c26] 29 (0, 0))]), (10, C19), (11, C23), (12, C27)]) ⟨(hΦ 10 (by decide)), (hΦ 12 (by decide)).1, (hΦ 12 (by decide)).2.1, (hΦ 12 (by decide)).2.2⟩ ⟨rfl, rfl, rfl, rfl, trivial⟩ ⟨rfl, rfl, rfl, rfl, rfl, rfl, rfl, trivial⟩ ?_
  rintro ⟨p12, C13, p16, p20, p24, c18, c22, c26, C19, C23, C27⟩ ⟨o13, o19, o23, o27⟩
  dsimp only
  refine kw_bl_normal (kw_nx (cw_seq (sr (oM rfl (oK rfl (nn (cw_cond rfl (fun h28 => ?_) (fun h28 => ?_))))))))
  ·have H0 := cond_t H0 h28
   refine sr (oB3 1 ts29 rfl (oC3 2 ts29 rfl rfl (nn (cw_ret (kw_nx_ret (kw_addNil 13 (kw_addNil 14 (kw_addNil 15 ?_))))))))
   obtain rfl := sI H0
   exact kr Tryd.results15 (rC3 2 ts29 rfl rfl) [0, 13, 14, 15] ⟨_, _, _, _, _, _, _, _, _, _, _, _, rfl, rfl, rfl, rfl, rfl, .inr ⟨rfl, rfl, rfl, rfl, rfl, rfl, rfl⟩⟩
  have H0 := cond_f H0 h28
  refine cw_skip (kw_nx (sr (oB3 3 ts29 rfl (oC3 2 ts29 rfl rfl (nn (cw_ret ?_))))))
  obtain rfl := sI H0
  exact kr Tryd.results15 (rC3 2 ts29 rfl rfl) [0, 10, 11, 12] ⟨_, _, _, _, _, _, _, _, _, _, _, _, rfl, rfl, rfl, rfl, rfl, .inl ⟨o19, o23, o27⟩⟩
 have H0 := cond_f H0 h9
 obtain ⟨y30, ey30, H0⟩ := bS H0
 refine cw_seq (sr (oQ rfl (oS rfl (nn (cw_join (ι := Unit) (fun _ => True) (fun _ => [(0, .pointer (some ⟨m0, 0, none⟩)), (3, .pointer (some ⟨b1, 0, none⟩)), (4, .pointer (some ⟨b2, 0, none⟩)), (5, .pointer (some ⟨b3, 0, none⟩)), (6, .bool false), (7, .int .i64 x4.1), (17, .int .i64 x5.1), (37, .bool y30)]) (fun _ => [(0, [(m0, .cells #[.slice p0_0_0 ((a0_0).length) c0_0_0, .int .i64 x5.2] 72 (0, 0))]), (1, [(b1, .cells #[.slice p1_0 ((a1.t.b).length) c1_0, .slice p1_1 ((a1.t.f).length) c1_1, .slice p1_2 ((a1.c).length) c1_2] 29 (0, 0))]), (2, [(b2, .cells #[.slice none 0 0, .slice none 0 0, .slice none 0 0] 29 (0, 0))]), (3, [(b3, .cells #[.slice p1_0 ((a1.t.b).length) c1_0, .slice p1_1 ((a1.t.f).length) c1_1, .slice p1_2 ((a1.c).length) c1_2] 29 (0, 0))])]) ?_ (fun _ _ => ?_))))))
 ·refine cw_cond rfl (fun h31 => ?_) (fun h31 => ?_)
  ·have ey30 := cond_t ey30 h31
   refine cw_skip ?_
   obtain rfl := sI ey30
   exact kw_join () trivial ⟨rfl, rfl, rfl, rfl, rfl, rfl, rfl, rfl, trivial⟩ ⟨rfl, rfl, rfl, rfl, trivial⟩
  have ey30 := cond_f ey30 h31
  refine cw_region (oQ rfl (oS rfl (ow_nil ?_)))
  obtain rfl := sI ey30
  exact kw_join () trivial ⟨rfl, rfl, rfl, rfl, rfl, rfl, rfl, rfl, trivial⟩ ⟨rfl, rfl, rfl, rfl, trivial⟩
 refine kw_nx (cw_cond rfl (fun h32 => ?_) (fun h32 => ?_))
 ·have H0 := cond_t H0 h32
  obtain ⟨x33, e33, H0⟩ := bS H0
  refine sr (oA 0 Tryd.underlying29 rfl ts26 rfl (oB2 1 ts26 rfl (oE (stpU_call (fun i => 16 + i) cf44 (fun w hw => c_s_KeysOf fl w a1.t rfl (RO.pass hr1_0 hw) rfl (RO.pass hr1_1 hw) x33 e33) (yA rfl)) rfl ?_)))
  rintro _ _ ⟨_, ⟨p34, _, c36, C37, rfl, rfl, rfl, o37⟩, rfl⟩
  refine oS rfl (nn (sr (oM rfl (oD (stp_len Tryd.underlying78 rfl) rfl (oJ rfl (nn (cw_cond rfl (fun h38 => ?_) (fun h38 => ?_))))))))
  ·have H0 := cond_t H0 h38
   obtain ⟨x39, e39, H0⟩ := bS H0
   obtain ⟨x40, e40, H0⟩ := bS H0
   obtain ⟨x41, e41, H0⟩ := bS H0
   refine rdq g_mixed [0, 3, 5, 7, 8] [0, 1, 3, 16] { dst := dS [48, 49, 50, 51, 52, 53, 54, 55, 56, 57, 47, 58, 59, 60, 61, 0, 7], pre := gA [] [[], [], [], [], [], [4], [3, 4, 5], rn 2 5, rn 2 6, rn 0 9, rn 0 10, rn 0 11, rn 0 11, rn 0 11, rn 0 11, rn 0 12, rn 0 16], ids := fun i => match i with | 6 => [0] | 9 => [18, 19, 20] | 15 => [3] | _ => [], rs := rL [[(3, 0)], [(7, 0)], [(8, 0)], [(0, 0)], [(8, 0)], [(51, 5)], [(50, 4), (52, 6)], [(49, 3), (53, 7)], [(54, 8)], [(47, 1), (48, 2), (55, 9)], [(56, 10)], [(46, 11)], [(46, 11)], [(46, 11)], [(46, 11)], [(5, 0), (57, 12)], [(60, 15)]], rh := rL [[(1, 0)], [], [], [], [], [], [(0, 0)], [(16, 0)], [(16, 0)], [], [], [], [], [], [], [(3, 0)]], V := fun i g => gA undef [.agg #[.slice p1_0 ((a1.t.b).length) c1_0, .slice p1_1 ((a1.t.f).length) c1_1, .slice p1_2 ((a1.c).length) c1_2], .int .i64 x4.1, .slice p34 ((x33).length) c36, .pointer (some ⟨m0, 0, none⟩), .slice p34 ((x33).length) c36, .int .i64 ((x33).length : Int), .int .i64 x39.1, .pointer (some ⟨eB p34, eO p34 + Int.toNat x39.1 * Enc.sz K + 0, none⟩), .agg #[.int .i64 x40.s, .int .i64 x40.p], .tuple #[.agg #[.slice ((g 9).A 0) ((x41.1.t.b).length) ((g 9).C 0), .slice ((g 9).A 1) ((x41.1.t.f).length) ((g 9).C 1), .slice ((g 9).A 2) ((x41.1.c).length) ((g 9).C 2)], .int .i64 x41.2.1, .int .i64 x41.2.2.1, .bool x41.2.2.2], .tuple #[.agg #[.slice ((g 9).A 0) ((x41.1.t.b).length) ((g 9).C 0), .slice ((g 9).A 1) ((x41.1.t.f).length) ((g 9).C 1), .slice ((g 9).A 2) ((x41.1.c).length) ((g 9).C 2)], .int .i64 x41.2.1, .int .i64 x41.2.2.1, .bool x41.2.2.2], .agg #[.slice ((g 9).A 0) ((x41.1.t.b).length) ((g 9).C 0), .slice ((g 9).A 1) ((x41.1.t.f).length) ((g 9).C 1), .slice ((g 9).A 2) ((x41.1.c).length) ((g 9).C 2)], .int .i64 x41.2.1, .int .i64 x41.2.2.1, .bool x41.2.2.2, undef, .bool x41.2.2.2] i, U := fun i g => match i with | 6 => [(0, [(m0, .cells #[.slice p0_0_0 ((a0_0).length) c0_0_0, .int .i64 x39.2] 72 (0, 0))])] | 9 => [(18, ((g 9).R 0)), (19, ((g 9).R 1)), (20, ((g 9).R 2))] | 15 => [(3, [(b3, .cells #[.slice ((g 9).A 0) ((x41.1.t.b).length) ((g 9).C 0), .slice ((g 9).A 1) ((x41.1.t.f).length) ((g 9).C 1), .slice ((g 9).A 2) ((x41.1.c).length) ((g 9).C 2)] 29 (0, 0))])] | _ => [], Φ := fun i x => match i with | 9 => OwnC 3 (x.A 0) (x.C 0) x41.1.t.b (x.R 0) ∧ OwnC 61 (x.A 1) (x.C 1) x41.1.t.f (x.R 1) ∧ OwnD 43 53 (x.A 2) (x.C 2) x41.1.c (x.R 2) | _ => True } ?_ ?_
   ·refine ⟨lc rfl rfl fun hs hh => stp_loadN (us := [_, _, _]) ts29 (sv hs 3 rfl) (Cells.box (id := 1) (hh.get 1 _ rfl) 3 rfl), lM, lM, lM, lM, lc rfl rfl fun hs hh => stp_len Tryd.underlying78 (sv hs 51 rfl), ?_, lc rfl rfl fun hs hh => stp_indexAddr Tryd.underlying78 ts36 (by decide) (sv hs 49 rfl) rfl (sv hs 53 rfl) (Rdb.own (id := 16) (hh.get 16 _ rfl) o37) e40, lc rfl rfl fun hs hh => stp_loadN (us := [_, _]) ts36 (sv hs 54 rfl) (Cells.el (Rdb.own (id := 16) (hh.get 16 _ rfl) o37) (by decide) e40 0 2 rfl), ?_, lM, lT, lT, lT, lT, ?_, lS, trivial⟩
    ·refine le rfl rfl (fun g hΦ s h hs hh => (stpU_callM (fun i => bif Nat.beq i 0 then 0 else 17 + i) cf14 (fun w hw hb => c_s_l12Rd_pick fl w m0 a0_0 x5.2 ((x33).length : Int) rfl (RO.passM hr0_0_0 hw hb) (hw.pass (js := [0]) ⟨0, [], rfl, (hh.get 0 _ rfl), trivial⟩ (by decide)) x39 e39) (yB (sv hs 50 rfl) (sv hs 52 rfl)) ⟨(hh.get 0 _ rfl), (fun _ _ hp => by obtain ⟨_, rfl⟩ := hp; exact ⟨_, rfl⟩), trivial⟩)) ?_
     rintro g _ _ ⟨_, ⟨rfl, rfl⟩, rfl⟩
     exact ⟨⟨[], [], []⟩, trivial, .inr rfl, rfl⟩
    ·refine le rfl rfl (fun g hΦ s h hs hh => (stpU_call (fun i => 18 + i) cf11 (fun w hw => c_s_LookCpu fl w a1 x4.1 x40 rfl (RO.pass hr1_0 hw) rfl (RO.pass hr1_1 hw) rfl (ROD.pass hr1_2 hw) x41 e41) (yC (sv hs 47 rfl) (sv hs 48 rfl) (sv hs 55 rfl)))) ?_
     rintro g _ _ ⟨_, ⟨p42, _, c44, C45, p46, _, c48, C49, p50, _, c52, C53, rfl, rfl, rfl, o45, rfl, o49, rfl, o53⟩, rfl⟩
     exact ⟨⟨[p42, p46, p50], [c44, c48, c52], [C45, C49, C53]⟩, ⟨o45, o49, o53⟩, .inr rfl, rfl⟩
    refine le rfl rfl (fun g hΦ s h hs hh => (stpU_store (id := 3) (cs' := [.slice ((g 9).A 0) ((x41.1.t.b).length) ((g 9).C 0), .slice ((g 9).A 1) ((x41.1.t.f).length) ((g 9).C 1), .slice ((g 9).A 2) ((x41.1.c).length) ((g 9).C 2)]) ts29 (sv hs 5 rfl) (sv hs 57 rfl) (hh.get 3 _ rfl) rfl rfl rfl rfl)) ?_
    rintro g _ _ rfl
    exact ⟨⟨[], [], []⟩, trivial, .inl rfl, rfl⟩
   intro g hΦ
   refine kw_gen (ι := Option Addr × Option Addr × Option Addr × Nat × Nat × Nat × Res × Res × Res) (((g 9).A 0), ((g 9).A 1), ((g 9).A 2), ((g 9).C 0), ((g 9).C 1), ((g 9).C 2), ((g 9).R 0), ((g 9).R 1), ((g 9).R 2)) (fun | (p42, p46, p50, c44, c48, c52, C45, C49, C53) => OwnC 3 p42 c44 x41.1.t.b C45 ∧ OwnC 61 p46 c48 x41.1.t.f C49 ∧ OwnD 43 53 p50 c52 x41.1.c C53) (fun | (p42, p46, p50, c44, c48, c52, C45, C49, C53) => [(3, .pointer (some ⟨b1, 0, none⟩)), (4, .pointer (some ⟨b2, 0, none⟩)), (5, .pointer (some ⟨b3, 0, none⟩)), (6, .bool x41.2.2.2)]) (fun | (p42, p46, p50, c44, c48, c52, C45, C49, C53) => [(0, [(m0, .cells #[.slice p0_0_0 ((a0_0).length) c0_0_0, .int .i64 x39.2] 72 (0, 0))]), (1, [(b1, .cells #[.slice p1_0 ((a1.t.b).length) c1_0, .slice p1_1 ((a1.t.f).length) c1_1, .slice p1_2 ((a1.c).length) c1_2] 29 (0, 0))]), (2, [(b2, .cells #[.slice none 0 0, .slice none 0 0, .slice none 0 0] 29 (0, 0))]), (3, [(b3, .cells #[.slice p42 ((x41.1.t.b).length) c44, .slice p46 ((x41.1.t.f).length) c48, .slice p50 ((x41.1.c).length) c52] 29 (0, 0))]), (18, C45), (19, C49), (20, C53)]) ⟨(hΦ 9 (by decide)).1, (hΦ 9 (by decide)).2.1, (hΦ 9 (by decide)).2.2⟩ ⟨rfl, rfl, rfl, rfl, trivial⟩ ⟨rfl, rfl, rfl, rfl, rfl, rfl, rfl, trivial⟩ ?_
   rintro ⟨p42, p46, p50, c44, c48, c52, C45, C49, C53⟩ ⟨o45, o49, o53⟩
   dsimp only
   refine kw_bl_normal (kw_nx (cw_seq (sr (oM rfl (oK rfl (nn (cw_cond rfl (fun h54 => ?_) (fun h54 => ?_))))))))
   ·have H0 := cond_t H0 h54
    refine sr (oB3 1 ts29 rfl (oC3 2 ts29 rfl rfl (nn (cw_ret (kw_nx_ret (kw_addNil 21 (kw_addNil 22 (kw_addNil 23 ?_))))))))
    obtain rfl := sI H0
    exact kr Tryd.results15 (rC3 2 ts29 rfl rfl) [0, 21, 22, 23] ⟨_, _, _, _, _, _, _, _, _, _, _, _, rfl, rfl, rfl, rfl, rfl, .inr ⟨rfl, rfl, rfl, rfl, rfl, rfl, rfl⟩⟩
   have H0 := cond_f H0 h54
   refine cw_skip (kw_nx (sr (oB3 3 ts29 rfl (oC3 2 ts29 rfl rfl (nn (cw_ret ?_))))))
   obtain rfl := sI H0
   exact kr Tryd.results15 (rC3 2 ts29 rfl rfl) [0, 18, 19, 20] ⟨_, _, _, _, _, _, _, _, _, _, _, _, rfl, rfl, rfl, rfl, rfl, .inl ⟨o45, o49, o53⟩⟩
  have H0 := cond_f H0 h38
  refine cw_skip (kw_bl_normal (kw_nx (cw_seq (sr (oM rfl (oK rfl (nn (cw_cond rfl (fun h55 => ?_) (fun h55 => ?_)))))))))
  ·have H0 := cond_t H0 h55
   refine sr (oB3 1 ts29 rfl (oC3 2 ts29 rfl rfl (nn (cw_ret (kw_nx_ret (kw_addNil 24 (kw_addNil 25 (kw_addNil 26 ?_))))))))
   obtain rfl := sI H0
   exact kr Tryd.results15 (rC3 2 ts29 rfl rfl) [0, 24, 25, 26] ⟨_, _, _, _, _, _, _, _, _, _, _, _, rfl, rfl, rfl, rfl, rfl, .inr ⟨rfl, rfl, rfl, rfl, rfl, rfl, rfl⟩⟩
  have H0 := cond_f H0 h55
  refine cw_skip (kw_nx (sr (oB3 3 ts29 rfl (oC3 2 ts29 rfl rfl (nn (cw_ret (kw_addNil 27 (kw_addNil 28 (kw_addNil 29 ?_)))))))))
  obtain rfl := sI H0
  exact kr Tryd.results15 (rC3 2 ts29 rfl rfl) [0, 27, 28, 29] ⟨_, _, _, _, _, _, _, _, _, _, _, _, rfl, rfl, rfl, rfl, rfl, .inr ⟨rfl, rfl, rfl, rfl, rfl, rfl, rfl⟩⟩
 have H0 := cond_f H0 h32
 refine sr (oQ rfl (oS rfl (nn (cw_cond rfl (fun h56 => ?_) (fun h56 => ?_)))))
 ·have H0 := cond_t H0 h56
  obtain ⟨x57, e57, H0⟩ := bS H0
  refine sr (oA 0 Tryd.underlying29 rfl ts26 rfl (oB2 1 ts26 rfl (oE (stpU_call (fun i => 30 + i) cf44 (fun w hw => c_s_KeysOf fl w a1.t rfl (RO.pass hr1_0 hw) rfl (RO.pass hr1_1 hw) x57 e57) (yA rfl)) rfl ?_)))
  rintro _ _ ⟨_, ⟨p58, _, c60, C61, rfl, rfl, rfl, o61⟩, rfl⟩
  refine oS rfl (nn (sr (oM rfl (oD (stp_len Tryd.underlying78 rfl) rfl (oJ rfl (nn (cw_cond rfl (fun h62 => ?_) (fun h62 => ?_))))))))
  ·have H0 := cond_t H0 h62
   obtain ⟨x63, e63, H0⟩ := bS H0
   obtain ⟨x64, e64, H0⟩ := bS H0
   obtain ⟨x65, e65, H0⟩ := bS H0
   refine rdq g_mixed [0, 3, 5, 7, 9] [0, 1, 3, 30] { dst := dS [71, 72, 73, 74, 75, 76, 77, 78, 79, 80, 70, 81, 82, 83, 0, 7], pre := gA [] [[], [], [], [], [], [4], [3, 4, 5], rn 2 5, rn 2 6, rn 0 9, rn 0 10, rn 0 11, rn 0 11, rn 0 11, rn 0 12, rn 0 15], ids := fun i => match i with | 6 => [0] | 9 => [32, 33, 34] | 14 => [3] | _ => [], rs := rL [[(3, 0)], [(7, 0)], [(9, 0)], [(0, 0)], [(9, 0)], [(74, 5)], [(73, 4), (75, 6)], [(72, 3), (76, 7)], [(77, 8)], [(70, 1), (71, 2), (78, 9)], [(79, 10)], [(69, 11)], [(69, 11)], [(69, 11)], [(5, 0), (80, 12)], [(82, 14)]], rh := rL [[(1, 0)], [], [], [], [], [], [(0, 0)], [(30, 0)], [(30, 0)], [], [], [], [], [], [(3, 0)]], V := fun i g => gA undef [.agg #[.slice p1_0 ((a1.t.b).length) c1_0, .slice p1_1 ((a1.t.f).length) c1_1, .slice p1_2 ((a1.c).length) c1_2], .int .i64 x4.1, .slice p58 ((x57).length) c60, .pointer (some ⟨m0, 0, none⟩), .slice p58 ((x57).length) c60, .int .i64 ((x57).length : Int), .int .i64 x63.1, .pointer (some ⟨eB p58, eO p58 + Int.toNat x63.1 * Enc.sz K + 0, none⟩), .agg #[.int .i64 x64.s, .int .i64 x64.p], .tuple #[.agg #[.slice ((g 9).A 0) ((x65.1.t.b).length) ((g 9).C 0), .slice ((g 9).A 1) ((x65.1.t.f).length) ((g 9).C 1), .slice ((g 9).A 2) ((x65.1.c).length) ((g 9).C 2)], .int .i64 x65.2.1, .bool x65.2.2], .tuple #[.agg #[.slice ((g 9).A 0) ((x65.1.t.b).length) ((g 9).C 0), .slice ((g 9).A 1) ((x65.1.t.f).length) ((g 9).C 1), .slice ((g 9).A 2) ((x65.1.c).length) ((g 9).C 2)], .int .i64 x65.2.1, .bool x65.2.2], .agg #[.slice ((g 9).A 0) ((x65.1.t.b).length) ((g 9).C 0), .slice ((g 9).A 1) ((x65.1.t.f).length) ((g 9).C 1), .slice ((g 9).A 2) ((x65.1.c).length) ((g 9).C 2)], .int .i64 x65.2.1, .bool x65.2.2, undef, .bool x65.2.2] i, U := fun i g => match i with | 6 => [(0, [(m0, .cells #[.slice p0_0_0 ((a0_0).length) c0_0_0, .int .i64 x63.2] 72 (0, 0))])] | 9 => [(32, ((g 9).R 0)), (33, ((g 9).R 1)), (34, ((g 9).R 2))] | 14 => [(3, [(b3, .cells #[.slice ((g 9).A 0) ((x65.1.t.b).length) ((g 9).C 0), .slice ((g 9).A 1) ((x65.1.t.f).length) ((g 9).C 1), .slice ((g 9).A 2) ((x65.1.c).length) ((g 9).C 2)] 29 (0, 0))])] | _ => [], Φ := fun i x => match i with | 9 => OwnC 3 (x.A 0) (x.C 0) x65.1.t.b (x.R 0) ∧ OwnC 61 (x.A 1) (x.C 1) x65.1.t.f (x.R 1) ∧ OwnD 43 53 (x.A 2) (x.C 2) x65.1.c (x.R 2) | _ => True } ?_ ?_
   ·refine ⟨lc rfl rfl fun hs hh => stp_loadN (us := [_, _, _]) ts29 (sv hs 3 rfl) (Cells.box (id := 1) (hh.get 1 _ rfl) 3 rfl), lM, lM, lM, lM, lc rfl rfl fun hs hh => stp_len Tryd.underlying78 (sv hs 74 rfl), ?_, lc rfl rfl fun hs hh => stp_indexAddr Tryd.underlying78 ts36 (by decide) (sv hs 72 rfl) rfl (sv hs 76 rfl) (Rdb.own (id := 30) (hh.get 30 _ rfl) o61) e64, lc rfl rfl fun hs hh => stp_loadN (us := [_, _]) ts36 (sv hs 77 rfl) (Cells.el (Rdb.own (id := 30) (hh.get 30 _ rfl) o61) (by decide) e64 0 2 rfl), ?_, lM, lT, lT, lT, ?_, lS, trivial⟩
    ·refine le rfl rfl (fun g hΦ s h hs hh => (stpU_callM (fun i => bif Nat.beq i 0 then 0 else 31 + i) cf14 (fun w hw hb => c_s_l12Rd_pick fl w m0 a0_0 x5.2 ((x57).length : Int) rfl (RO.passM hr0_0_0 hw hb) (hw.pass (js := [0]) ⟨0, [], rfl, (hh.get 0 _ rfl), trivial⟩ (by decide)) x63 e63) (yB (sv hs 73 rfl) (sv hs 75 rfl)) ⟨(hh.get 0 _ rfl), (fun _ _ hp => by obtain ⟨_, rfl⟩ := hp; exact ⟨_, rfl⟩), trivial⟩)) ?_
     rintro g _ _ ⟨_, ⟨rfl, rfl⟩, rfl⟩
     exact ⟨⟨[], [], []⟩, trivial, .inr rfl, rfl⟩
    ·refine le rfl rfl (fun g hΦ s h hs hh => (stpU_call (fun i => 32 + i) cf45 (fun w hw => c_s_UnmapSystem fl w a1 x4.1 x64 rfl (RO.pass hr1_0 hw) rfl (RO.pass hr1_1 hw) rfl (ROD.pass hr1_2 hw) x65 e65) (yC (sv hs 70 rfl) (sv hs 71 rfl) (sv hs 78 rfl)))) ?_
     rintro g _ _ ⟨_, ⟨p66, _, c68, C69, p70, _, c72, C73, p74, _, c76, C77, rfl, rfl, rfl, o69, rfl, o73, rfl, o77⟩, rfl⟩
     exact ⟨⟨[p66, p70, p74], [c68, c72, c76], [C69, C73, C77]⟩, ⟨o69, o73, o77⟩, .inr rfl, rfl⟩
    refine le rfl rfl (fun g hΦ s h hs hh => (stpU_store (id := 3) (cs' := [.slice ((g 9).A 0) ((x65.1.t.b).length) ((g 9).C 0), .slice ((g 9).A 1) ((x65.1.t.f).length) ((g 9).C 1), .slice ((g 9).A 2) ((x65.1.c).length) ((g 9).C 2)]) ts29 (sv hs 5 rfl) (sv hs 80 rfl) (hh.get 3 _ rfl) rfl rfl rfl rfl)) ?_
    rintro g _ _ rfl
    exact ⟨⟨[], [], []⟩, trivial, .inl rfl, rfl⟩
   intro g hΦ
   refine kw_gen (ι := Option Addr × Option Addr × Option Addr × Nat × Nat × Nat × Res × Res × Res) (((g 9).A 0), ((g 9).A 1), ((g 9).A 2), ((g 9).C 0), ((g 9).C 1), ((g 9).C 2), ((g 9).R 0), ((g 9).R 1), ((g 9).R 2)) (fun | (p66, p70, p74, c68, c72, c76, C69, C73, C77) => OwnC 3 p66 c68 x65.1.t.b C69 ∧ OwnC 61 p70 c72 x65.1.t.f C73 ∧ OwnD 43 53 p74 c76 x65.1.c C77) (fun | (p66, p70, p74, c68, c72, c76, C69, C73, C77) => [(3, .pointer (some ⟨b1, 0, none⟩)), (4, .pointer (some ⟨b2, 0, none⟩)), (5, .pointer (some ⟨b3, 0, none⟩)), (6, .bool x65.2.2)]) (fun | (p66, p70, p74, c68, c72, c76, C69, C73, C77) => [(0, [(m0, .cells #[.slice p0_0_0 ((a0_0).length) c0_0_0, .int .i64 x63.2] 72 (0, 0))]), (1, [(b1, .cells #[.slice p1_0 ((a1.t.b).length) c1_0, .slice p1_1 ((a1.t.f).length) c1_1, .slice p1_2 ((a1.c).length) c1_2] 29 (0, 0))]), (2, [(b2, .cells #[.slice none 0 0, .slice none 0 0, .slice none 0 0] 29 (0, 0))]), (3, [(b3, .cells #[.slice p66 ((x65.1.t.b).length) c68, .slice p70 ((x65.1.t.f).length) c72, .slice p74 ((x65.1.c).length) c76] 29 (0, 0))]), (32, C69), (33, C73), (34, C77)]) ⟨(hΦ 9 (by decide)).1, (hΦ 9 (by decide)).2.1, (hΦ 9 (by decide)).2.2⟩ ⟨rfl, rfl, rfl, rfl, trivial⟩ ⟨rfl, rfl, rfl, rfl, rfl, rfl, rfl, trivial⟩ ?_
   rintro ⟨p66, p70, p74, c68, c72, c76, C69, C73, C77⟩ ⟨o69, o73, o77⟩
   dsimp only
   refine kw_bl_normal (kw_nx (cw_seq (sr (oM rfl (oK rfl (nn (cw_cond rfl (fun h78 => ?_) (fun h78 => ?_))))))))
   ·have H0 := cond_t H0 h78
    refine sr (oB3 1 ts29 rfl (oC3 2 ts29 rfl rfl (nn (cw_ret (kw_nx_ret (kw_addNil 35 (kw_addNil 36 (kw_addNil 37 ?_))))))))
    obtain rfl := sI H0
    exact kr Tryd.results15 (rC3 2 ts29 rfl rfl) [0, 35, 36, 37] ⟨_, _, _, _, _, _, _, _, _, _, _, _, rfl, rfl, rfl, rfl, rfl, .inr ⟨rfl, rfl, rfl, rfl, rfl, rfl, rfl⟩⟩
   have H0 := cond_f H0 h78
   refine cw_skip (kw_nx (sr (oB3 3 ts29 rfl (oC3 2 ts29 rfl rfl (nn (cw_ret ?_))))))
   obtain rfl := sI H0
   exact kr Tryd.results15 (rC3 2 ts29 rfl rfl) [0, 32, 33, 34] ⟨_, _, _, _, _, _, _, _, _, _, _, _, rfl, rfl, rfl, rfl, rfl, .inl ⟨o69, o73, o77⟩⟩
  have H0 := cond_f H0 h62
  refine cw_skip (kw_bl_normal (kw_nx (cw_seq (sr (oM rfl (oK rfl (nn (cw_cond rfl (fun h79 => ?_) (fun h79 => ?_)))))))))
  ·have H0 := cond_t H0 h79
   refine sr (oB3 1 ts29 rfl (oC3 2 ts29 rfl rfl (nn (cw_ret (kw_nx_ret (kw_addNil 38 (kw_addNil 39 (kw_addNil 40 ?_))))))))
   obtain rfl := sI H0
   exact kr Tryd.results15 (rC3 2 ts29 rfl rfl) [0, 38, 39, 40] ⟨_, _, _, _, _, _, _, _, _, _, _, _, rfl, rfl, rfl, rfl, rfl, .inr ⟨rfl, rfl, rfl, rfl, rfl, rfl, rfl⟩⟩
  have H0 := cond_f H0 h79
  refine cw_skip (kw_nx (sr (oB3 3 ts29 rfl (oC3 2 ts29 rfl rfl (nn (cw_ret (kw_addNil 41 (kw_addNil 42 (kw_addNil 43 ?_)))))))))
  obtain rfl := sI H0
  exact kr Tryd.results15 (rC3 2 ts29 rfl rfl) [0, 41, 42, 43] ⟨_, _, _, _, _, _, _, _, _, _, _, _, rfl, rfl, rfl, rfl, rfl, .inr ⟨rfl, rfl, rfl, rfl, rfl, rfl, rfl⟩⟩
 have H0 := cond_f H0 h56
 refine sr (oQ rfl (oS rfl (nn (cw_cond rfl (fun h80 => ?_) (fun h80 => ?_)))))
 ·have H0 := cond_t H0 h80
  obtain ⟨x81, e81, H0⟩ := bS H0
  refine sr (oM rfl (oE (stpU_callM (fun i => bif Nat.beq i 0 then 0 else 44 + i) cf14 (fun w hw hb => c_s_l12Rd_pick fl w m0 a0_0 x5.2 2 rfl (RO.passM hr0_0_0 hw hb) (hw.pass (js := [0]) ⟨0, [], rfl, rfl, trivial⟩ (by decide)) x81 e81) (yB rfl rfl) ⟨rfl, (fun _ _ hp => by obtain ⟨_, rfl⟩ := hp; exact ⟨_, rfl⟩), trivial⟩) rfl ?_))
  rintro _ _ ⟨_, ⟨rfl, rfl⟩, rfl⟩
  refine oQ rfl (nn (cw_cond rfl (fun h82 => ?_) (fun h82 => ?_)))
  ·have H0 := cond_t H0 h82
   obtain ⟨x83, e83, H0⟩ := bS H0
   refine cw_region (oB3 1 ts29 rfl (oM rfl (oE (stpU_call (fun i => 45 + i) cf46 (fun w hw => c_s_AckCpu fl w a1 x4.1 rfl (RO.pass hr1_0 hw) rfl (RO.pass hr1_1 hw) rfl (ROD.pass hr1_2 hw) x83 e83) (yB rfl rfl)) rfl ?_)))
   rintro _ _ ⟨_, ⟨p84, _, c86, C87, p88, _, c90, C91, p92, _, c94, C95, rfl, rfl, rfl, o87, rfl, o91, rfl, o95⟩, rfl⟩
   refine oM rfl (oT rfl (oT rfl (oC3 3 ts29 rfl rfl (oS rfl (ow_nil (kw_bl_normal (kw_nx (cw_seq (sr (oM rfl (oK rfl (nn (cw_cond rfl (fun h96 => ?_) (fun h96 => ?_))))))))))))))
   ·have H0 := cond_t H0 h96
    refine sr (oB3 1 ts29 rfl (oC3 2 ts29 rfl rfl (nn (cw_ret (kw_nx_ret (kw_addNil 48 (kw_addNil 49 (kw_addNil 50 ?_))))))))
    obtain rfl := sI H0
    exact kr Tryd.results15 (rC3 2 ts29 rfl rfl) [0, 48, 49, 50] ⟨_, _, _, _, _, _, _, _, _, _, _, _, rfl, rfl, rfl, rfl, rfl, .inr ⟨rfl, rfl, rfl, rfl, rfl, rfl, rfl⟩⟩
   have H0 := cond_f H0 h96
   refine cw_skip (kw_nx (sr (oB3 3 ts29 rfl (oC3 2 ts29 rfl rfl (nn (cw_ret ?_))))))
   obtain rfl := sI H0
   exact kr Tryd.results15 (rC3 2 ts29 rfl rfl) [0, 45, 46, 47] ⟨_, _, _, _, _, _, _, _, _, _, _, _, rfl, rfl, rfl, rfl, rfl, .inl ⟨o87, o91, o95⟩⟩
  have H0 := cond_f H0 h82
  refine cw_skip (kw_bl_normal (kw_nx (cw_seq (sr (oM rfl (oK rfl (nn (cw_cond rfl (fun h97 => ?_) (fun h97 => ?_)))))))))
  ·have H0 := cond_t H0 h97
   refine sr (oB3 1 ts29 rfl (oC3 2 ts29 rfl rfl (nn (cw_ret (kw_nx_ret (kw_addNil 51 (kw_addNil 52 (kw_addNil 53 ?_))))))))
   obtain rfl := sI H0
   exact kr Tryd.results15 (rC3 2 ts29 rfl rfl) [0, 51, 52, 53] ⟨_, _, _, _, _, _, _, _, _, _, _, _, rfl, rfl, rfl, rfl, rfl, .inr ⟨rfl, rfl, rfl, rfl, rfl, rfl, rfl⟩⟩
  have H0 := cond_f H0 h97
  refine cw_skip (kw_nx (sr (oB3 3 ts29 rfl (oC3 2 ts29 rfl rfl (nn (cw_ret (kw_addNil 54 (kw_addNil 55 (kw_addNil 56 ?_)))))))))
  obtain rfl := sI H0
  exact kr Tryd.results15 (rC3 2 ts29 rfl rfl) [0, 54, 55, 56] ⟨_, _, _, _, _, _, _, _, _, _, _, _, rfl, rfl, rfl, rfl, rfl, .inr ⟨rfl, rfl, rfl, rfl, rfl, rfl, rfl⟩⟩
 have H0 := cond_f H0 h80
 refine cw_skip (kw_bl_normal (kw_nx (cw_seq (sr (oM rfl (oK rfl (nn (cw_cond rfl (fun h98 => ?_) (fun h98 => ?_)))))))))
 ·have H0 := cond_t H0 h98
  refine sr (oB3 1 ts29 rfl (oC3 2 ts29 rfl rfl (nn (cw_ret (kw_nx_ret (kw_addNil 57 (kw_addNil 58 (kw_addNil 59 ?_))))))))
  obtain rfl := sI H0
  exact kr Tryd.results15 (rC3 2 ts29 rfl rfl) [0, 57, 58, 59] ⟨_, _, _, _, _, _, _, _, _, _, _, _, rfl, rfl, rfl, rfl, rfl, .inr ⟨rfl, rfl, rfl, rfl, rfl, rfl, rfl⟩⟩
 have H0 := cond_f H0 h98
 refine cw_skip (kw_nx (sr (oB3 3 ts29 rfl (oC3 2 ts29 rfl rfl (nn (cw_ret (kw_addNil 60 (kw_addNil 61 (kw_addNil 62 ?_)))))))))
 obtain rfl := sI H0
 exact kr Tryd.results15 (rC3 2 ts29 rfl rfl) [0, 60, 61, 62] ⟨_, _, _, _, _, _, _, _, _, _, _, _, rfl, rfl, rfl, rfl, rfl, .inr ⟨rfl, rfl, rfl, rfl, rfl, rfl, rfl⟩⟩

theorem c_s_l8Step (fl : Nat) (w : World) (m0 : Nat) (a0_0 : (List UInt8)) (a0_1 : Int) (a1 : Sy) (hn0_0_0 : n0_0_0 = (a0_0).length) (hr0_0_0 : RO w (hkeys [(0, [(m0, .cells #[.slice p0_0_0 n0_0_0 c0_0_0, .int .i64 a0_1] 72 (0, 0))]), (1, C1_0), (2, C1_1), (3, C1_2)]) (RdL p0_0_0 c0_0_0 a0_0)) (hn1_0 : n1_0 = (a1.t.b).length) (ho1_0 : OwnC 3 p1_0 c1_0 a1.t.b C1_0) (hn1_1 : n1_1 = (a1.t.f).length) (ho1_1 : OwnC 61 p1_1 c1_1 a1.t.f C1_1) (hn1_2 : n1_2 = (a1.c).length) (ho1_2 : OwnD 43 53 p1_2 c1_2 a1.c C1_2) (hM : Sat w (hkeys [(0, [(m0, .cells #[.slice p0_0_0 n0_0_0 c0_0_0, .int .i64 a0_1] 72 (0, 0))]), (1, C1_0), (2, C1_1), (3, C1_2)]) w [(0, [(m0, .cells #[.slice p0_0_0 n0_0_0 c0_0_0, .int .i64 a0_1] 72 (0, 0))]), (1, C1_0), (2, C1_1), (3, C1_2)]) (r : Sy × Int) (H0 : s_l8Step fl a0_0 a0_1 a1 = some r) :
  Ct Tryd.prog 15 [.pointer (some ⟨m0, 0, none⟩), .agg #[.slice p1_0 n1_0 c1_0, .slice p1_1 n1_1 c1_1, .slice p1_2 n1_2 c1_2]] w [(0, [(m0, .cells #[.slice p0_0_0 n0_0_0 c0_0_0, .int .i64 a0_1] 72 (0, 0))]), (1, C1_0), (2, C1_1), (3, C1_2)] (fun rv h' => ∃ (x4 : Option Addr) (y4 z4 : Nat) (C4 : Res) (x5 : Option Addr) (y5 z5 : Nat) (C5 : Res) (x6 : Option Addr) (y6 z6 : Nat) (C6 : Res), rv = .agg #[.slice x4 y4 z4, .slice x5 y5 z5, .slice x6 y6 z6] ∧ h' = [(0, [(m0, .cells #[.slice p0_0_0 n0_0_0 c0_0_0, .int .i64 r.2] 72 (0, 0))]), (1, []), (2, []), (3, []), (4, C4), (5, C5), (6, C6)] ∧ y4 = (r.1.t.b).length ∧ OwnC 3 x4 z4 r.1.t.b C4 ∧ y5 = (r.1.t.f).length ∧ OwnC 61 x5 z5 r.1.t.f C5 ∧ y6 = (r.1.c).length ∧ OwnD 43 53 x6 z6 r.1.c C6) := by
 subst hn0_0_0 hn1_0 hn1_1 hn1_2
 unfold s_l8Step at H0
 refine ct_of_cw Tryd.func15 rfl Tryd.ntmps15 rfl hM ?_
 refine sr (oE (stpU_box 4 rfl rfl) rfl ?_)
 rintro _ _ ⟨b1, rfl, rfl⟩
 refine oE (stpU_alloc 5 tz29 rfl) rfl ?_
 rintro _ _ ⟨b2, rfl, rfl⟩
 refine nn (sr (oB3 4 ts29 rfl (oE (stpU_alloc 6 tz29 rfl) rfl ?_)))
 rintro _ _ ⟨b3, rfl, rfl⟩
 obtain ⟨x4, e4, H0⟩ := bS H0
 refine oC3 6 ts29 rfl rfl (nn (sr (oS rfl (nn (sr (oM rfl (oA 2 Tryd.underlying29 rfl ts27 rfl (oL 4 ts27 rfl (oD (stp_len Tryd.underlying27 rfl) rfl (oE (stpU_callM (fun i => bif Nat.beq i 0 then 0 else 7 + i) cf14 (fun w hw hb => c_s_l12Rd_pick fl w m0 a0_0 a0_1 ((a1.c).length : Int) rfl (RO.passM hr0_0_0 hw hb) (hw.pass (js := [0]) ⟨0, [], rfl, rfl, trivial⟩ (by decide)) x4 e4) (yB rfl rfl) ⟨rfl, (fun _ _ hp => by obtain ⟨_, rfl⟩ := hp; exact ⟨_, rfl⟩), trivial⟩) rfl ?_))))))))))
 rintro _ _ ⟨_, ⟨rfl, rfl⟩, rfl⟩
 obtain ⟨x5, e5, H0⟩ := bS H0
 refine oS rfl (nn (cw_seq (sr (oM rfl (oE (stpU_callM (fun i => bif Nat.beq i 0 then 0 else 8 + i) cf14 (fun w hw hb => c_s_l12Rd_pick fl w m0 a0_0 x4.2 6 rfl (RO.passM hr0_0_0 hw hb) (hw.pass (js := [0]) ⟨0, [], rfl, rfl, trivial⟩ (by decide)) x5 e5) (yB rfl rfl) ⟨rfl, (fun _ _ hp => by obtain ⟨_, rfl⟩ := hp; exact ⟨_, rfl⟩), trivial⟩) rfl ?_)))))
 rintro _ _ ⟨_, ⟨rfl, rfl⟩, rfl⟩
 obtain ⟨y7, ey7, H0⟩ := bS H0
 refine nn (cw_block (cw_seq (sr (oQ rfl (oS rfl (nn (cw_join (ι := Unit) (fun _ => True) (fun _ => [(0, .pointer (some ⟨m0, 0, none⟩)), (3, .pointer (some ⟨b1, 0, none⟩)), (4, .pointer (some ⟨b2, 0, none⟩)), (5, .pointer (some ⟨b3, 0, none⟩)), (6, .bool false), (7, .int .i64 x4.1), (17, .int .i64 x5.1), (18, .bool y7)]) (fun _ => [(0, [(m0, .cells #[.slice p0_0_0 ((a0_0).length) c0_0_0, .int .i64 x5.2] 72 (0, 0))]), (1, C1_0), (2, C1_1), (3, C1_2), (4, [(b1, .cells #[.slice p1_0 ((a1.t.b).length) c1_0, .slice p1_1 ((a1.t.f).length) c1_1, .slice p1_2 ((a1.c).length) c1_2] 29 (0, 0))]), (5, [(b2, .cells #[.slice none 0 0, .slice none 0 0, .slice none 0 0] 29 (0, 0))]), (6, [(b3, .cells #[.slice p1_0 ((a1.t.b).length) c1_0, .slice p1_1 ((a1.t.f).length) c1_1, .slice p1_2 ((a1.c).length) c1_2] 29 (0, 0))])]) ?_ (fun _ _ => ?_))))))))
 ·refine cw_cond rfl (fun h8 => ?_) (fun h8 => ?_)
  ·have ey7 := cond_t ey7 h8
   refine cw_skip ?_
   obtain rfl := sI ey7
   exact kw_join () trivial ⟨rfl, rfl, rfl, rfl, rfl, rfl, rfl, rfl, trivial⟩ ⟨rfl, rfl, rfl, rfl, rfl, rfl, rfl, trivial⟩
  have ey7 := cond_f ey7 h8
  refine cw_region (oQ rfl (oS rfl (ow_nil ?_)))
  obtain rfl := sI ey7
  exact kw_join () trivial ⟨rfl, rfl, rfl, rfl, rfl, rfl, rfl, rfl, trivial⟩ ⟨rfl, rfl, rfl, rfl, rfl, rfl, rfl, trivial⟩
 refine kw_nx (cw_cond rfl (fun h9 => ?_) (fun h9 => ?_))
 ·have H0 := cond_t H0 h9
  obtain ⟨x10, e10, H0⟩ := bS H0
  obtain ⟨x11, e11, H0⟩ := bS H0
  obtain ⟨x14, e14, H0⟩ := bS H0
  obtain ⟨x15, e15, H0⟩ := bS H0
  refine rdq g_mixed [0, 3, 5] [0, 1, 2, 3, 4, 6] { dst := dS [23, 24, 25, 26, 27, 28, 29, 30, 31, 32, 33, 34, 35, 22, 36, 37, 0, 7], pre := gA [] [[], [], [1], [], [], [4], [4, 5], [4, 5, 6], rn 1 7, [], [], rn 1 10, rn 0 12, rn 0 13, rn 0 14, rn 0 14, rn 0 15, rn 0 17], ids := gA [] [[], [], [0], [], [], [], [], [], [0], [], [11], [0], [13, 14, 15], [], [], [], [6]], rs := rL [[(3, 0)], [(0, 0)], [(23, 2)], [(0, 0)], [(3, 0)], [(26, 5)], [(27, 6)], [(28, 7)], [(25, 4), (29, 8)], [(0, 0)], [], [(31, 10), (32, 11)], [(22, 1), (24, 3), (30, 9), (33, 12)], [(34, 13)], [(21, 14)], [(21, 14)], [(5, 0), (35, 15)], [(36, 16)]], rh := rL [[(4, 0)], [], [(0, 0)], [], [], [], [(4, 0)], [], [(0, 3)], [], [], [(0, 9), (11, 11)], [(1, 0), (2, 0), (3, 0)], [], [], [], [(6, 0)]], V := fun i g => gA undef [.agg #[.slice p1_0 ((a1.t.b).length) c1_0, .slice p1_1 ((a1.t.f).length) c1_1, .slice p1_2 ((a1.c).length) c1_2], .pointer (some ⟨m0, 0, none⟩), .agg #[.int .i64 x10.1.s, .int .i64 x10.1.p], .pointer (some ⟨m0, 0, none⟩), .pointer (some ⟨b1, 0, none⟩), .pointer (some ⟨b1, 1, none⟩), .slice p1_1 ((a1.t.f).length) c1_1, .int .i64 ((a1.t.f).length : Int), .int .i64 x11.1, .pointer (some ⟨m0, 0, none⟩), .slice ((g 10).A 0) 2 2, .int .i64 x14.1, .tuple #[.agg #[.slice ((g 12).A 0) ((x15.1.t.b).length) ((g 12).C 0), .slice ((g 12).A 1) ((x15.1.t.f).length) ((g 12).C 1), .slice ((g 12).A 2) ((x15.1.c).length) ((g 12).C 2)], .bool x15.2], .tuple #[.agg #[.slice ((g 12).A 0) ((x15.1.t.b).length) ((g 12).C 0), .slice ((g 12).A 1) ((x15.1.t.f).length) ((g 12).C 1), .slice ((g 12).A 2) ((x15.1.c).length) ((g 12).C 2)], .bool x15.2], .agg #[.slice ((g 12).A 0) ((x15.1.t.b).length) ((g 12).C 0), .slice ((g 12).A 1) ((x15.1.t.f).length) ((g 12).C 1), .slice ((g 12).A 2) ((x15.1.c).length) ((g 12).C 2)], .bool x15.2, undef, .bool x15.2] i, U := fun i g => gA [] [[], [], [(0, [(m0, .cells #[.slice p0_0_0 ((a0_0).length) c0_0_0, .int .i64 x10.2] 72 (0, 0))])], [], [], [], [], [], [(0, [(m0, .cells #[.slice p0_0_0 ((a0_0).length) c0_0_0, .int .i64 x11.2] 72 (0, 0))])], [], [(11, ((g 10).R 0))], [(0, [(m0, .cells #[.slice p0_0_0 ((a0_0).length) c0_0_0, .int .i64 x14.2] 72 (0, 0))])], [(13, ((g 12).R 0)), (14, ((g 12).R 1)), (15, ((g 12).R 2))], [], [], [], [(6, [(b3, .cells #[.slice ((g 12).A 0) ((x15.1.t.b).length) ((g 12).C 0), .slice ((g 12).A 1) ((x15.1.t.f).length) ((g 12).C 1), .slice ((g 12).A 2) ((x15.1.c).length) ((g 12).C 2)] 29 (0, 0))])]] i, Φ := fun i x => match i with | 10 => OwnC (α := Int) 3 (x.A 0) 2 ([3, 1]) (x.R 0) | 12 => OwnC 3 (x.A 0) (x.C 0) x15.1.t.b (x.R 0) ∧ OwnC 61 (x.A 1) (x.C 1) x15.1.t.f (x.R 1) ∧ OwnD 43 53 (x.A 2) (x.C 2) x15.1.c (x.R 2) | _ => True } ?_ ?_
  ·refine ⟨lc rfl rfl fun hs hh => stp_loadN (us := [_, _, _]) ts29 (sv hs 3 rfl) (Cells.box (id := 4) (hh.get 4 _ rfl) 3 rfl), lM, ?_, lM, lc rfl rfl fun hs hh => stp_fieldAddr (j := 0) Tryd.underlying29 rfl ts26 rfl (sv hs 3 rfl) rfl, lc rfl rfl fun hs hh => stp_fieldAddr (j := 1) Tryd.underlying26 rfl ts24 rfl (sv hs 26 rfl) rfl, lc rfl rfl fun hs hh => stp_load1 ts24 (sv hs 27 rfl) (Cells.box (id := 4) (hh.get 4 _ rfl) 1 rfl), lc rfl rfl fun hs hh => stp_len Tryd.underlying24 (sv hs 28 rfl), ?_, lM, ?_, ?_, ?_, lM, lT, lT, ?_, lS, trivial⟩
   ·refine le rfl rfl (fun g hΦ s h hs hh => (stpU_callM (fun i => bif Nat.beq i 0 then 0 else 9 + i) cf43 (fun w hw hb => c_s_l2Draw fl w m0 a0_0 x5.2 rfl (RO.passM hr0_0_0 hw hb) (hw.pass (js := [0]) ⟨0, [], rfl, (hh.get 0 _ rfl), trivial⟩ (by decide)) x10 e10) (yA (sv hs 23 rfl)) ⟨(hh.get 0 _ rfl), (fun _ _ hp => by obtain ⟨_, rfl⟩ := hp; exact ⟨_, rfl⟩), trivial⟩)) ?_
    rintro g _ _ ⟨_, ⟨rfl, rfl⟩, rfl⟩
    exact ⟨⟨[], [], []⟩, trivial, .inr rfl, rfl⟩
   ·refine le rfl rfl (fun g hΦ s h hs hh => (stpU_callM (fun i => bif Nat.beq i 0 then 0 else 10 + i) cf14 (fun w hw hb => c_s_l12Rd_pick fl w m0 a0_0 x10.2 ((a1.t.f).length : Int) rfl (RO.passM hr0_0_0 hw hb) (hw.pass (js := [0]) ⟨0, [], rfl, (hh.get 0 _ rfl), trivial⟩ (by decide)) x11 e11) (yB (sv hs 25 rfl) (sv hs 29 rfl)) ⟨(hh.get 0 _ rfl), (fun _ _ hp => by obtain ⟨_, rfl⟩ := hp; exact ⟨_, rfl⟩), trivial⟩)) ?_
    rintro g _ _ ⟨_, ⟨rfl, rfl⟩, rfl⟩
    exact ⟨⟨[], [], []⟩, trivial, .inr rfl, rfl⟩
   ·refine le rfl rfl (fun g hΦ s h hs hh => (stpU_lit (sz := 1) (l := [3, 1]) [.int .i64 3, .int .i64 1] sl23 11 (sevp_cons rfl (sevp_cons rfl sevp_nil)) rfl rfl rfl rfl rfl rfl rfl rfl rfl)) ?_
    rintro g _ _ ⟨p12, C13, rfl, rfl, o13⟩
    exact ⟨⟨[p12], [], [C13]⟩, o13, .inr rfl, rfl⟩
   ·refine le rfl rfl (fun g hΦ s h hs hh => (stpU_callM (fun i => bif Nat.beq i 0 then 0 else 12 + i) cf41 (fun w hw hb => c_s_l12Rd_num fl w m0 a0_0 x11.2 ([3, 1]) rfl (RO.passM hr0_0_0 hw hb) (by simp) (OwnC.passM (id := 11) (hh.get 11 _ rfl) (hΦ 10 rfl) hw hb ⟨rfl, trivial⟩) (hw.pass (js := [0]) ⟨0, [], rfl, (hh.get 0 _ rfl), trivial⟩ (by decide)) x14 e14) (yB (sv hs 31 rfl) (sv hs 32 rfl)) ⟨(hh.get 0 _ rfl), (fun _ _ hp => by obtain ⟨_, rfl⟩ := hp; exact ⟨_, rfl⟩), trivial⟩)) ?_
    rintro g _ _ ⟨_, ⟨rfl, rfl⟩, rfl⟩
    exact ⟨⟨[], [], []⟩, trivial, .inr rfl, rfl⟩
   ·refine le rfl rfl (fun g hΦ s h hs hh => (stpU_call (fun i => 13 + i) cf42 (fun w hw => c_s_MapSystem fl w a1 x10.1 x11.1 x14.1 rfl (OwnC.pass (id := 1) (hh.get 1 _ rfl) ho1_0 hw) rfl (OwnC.pass (id := 2) (hh.get 2 _ rfl) ho1_1 hw) rfl (OwnD.pass (id := 3) (hh.get 3 _ rfl) ho1_2 hw) x15 e15) (yD (sv hs 22 rfl) (sv hs 24 rfl) (sv hs 30 rfl) (sv hs 33 rfl)))) ?_
    rintro g _ _ ⟨_, ⟨p16, _, c18, C19, p20, _, c22, C23, p24, _, c26, C27, rfl, rfl, rfl, o19, rfl, o23, rfl, o27⟩, rfl⟩
    exact ⟨⟨[p16, p20, p24], [c18, c22, c26], [C19, C23, C27]⟩, ⟨o19, o23, o27⟩, .inr rfl, rfl⟩
   refine le rfl rfl (fun g hΦ s h hs hh => (stpU_store (id := 6) (cs' := [.slice ((g 12).A 0) ((x15.1.t.b).length) ((g 12).C 0), .slice ((g 12).A 1) ((x15.1.t.f).length) ((g 12).C 1), .slice ((g 12).A 2) ((x15.1.c).length) ((g 12).C 2)]) ts29 (sv hs 5 rfl) (sv hs 35 rfl) (hh.get 6 _ rfl) rfl rfl rfl rfl)) ?_
   rintro g _ _ rfl
   exact ⟨⟨[], [], []⟩, trivial, .inl rfl, rfl⟩
  intro g hΦ
  refine kw_gen (ι := Option Addr × Res × Option Addr × Option Addr × Option Addr × Nat × Nat × Nat × Res × Res × Res) (((g 10).A 0), ((g 10).R 0), ((g 12).A 0), ((g 12).A 1), ((g 12).A 2), ((g 12).C 0), ((g 12).C 1), ((g 12).C 2), ((g 12).R 0), ((g 12).R 1), ((g 12).R 2)) (fun | (p12, C13, p16, p20, p24, c18, c22, c26, C19, C23, C27) => OwnC (α := Int) 3 p12 2 ([3, 1]) C13 ∧ OwnC 3 p16 c18 x15.1.t.b C19 ∧ OwnC 61 p20 c22 x15.1.t.f C23 ∧ OwnD 43 53 p24 c26 x15.1.c C27) (fun | (p12, C13, p16, p20, p24, c18, c22, c26, C19, C23, C27) => [(3, .pointer (some ⟨b1, 0, none⟩)), (4, .pointer (some ⟨b2, 0, none⟩)), (5, .pointer (some ⟨b3, 0, none⟩)), (6, .bool x15.2)]) (fun | (p12, C13, p16, p20, p24, c18, c22, c26, C19, C23, C27) => [(0, [(m0, .cells #[.slice p0_0_0 ((a0_0).length) c0_0_0, .int .i64 x14.2] 72 (0, 0))]), (1, C1_0), (2, C1_1), (3, C1_2), (4, [(b1, .cells #[.slice p1_0 ((a1.t.b).length) c1_0, .slice p1_1 ((a1.t.f).length) c1_1, .slice p1_2 ((a1.c).length) c1_2] 29 (0, 0))]), (5, [(b2, .cells #[.slice none 0 0, .slice none 0 0, .slice none 0 0] 29 (0, 0))]), (6, [(b3, .cells #[.slice p16 ((x15.1.t.b).length) c18, .slice p20 ((x15.1.t.f).length) c22, .slice p24 ((x15.1.c).length) c26] 29 (0, 0))]), (13, C19), (14, C23), (15, C27)]) ⟨(hΦ 10 (by decide)), (hΦ 12 (by decide)).1, (hΦ 12 (by decide)).2.1, (hΦ 12 (by decide)).2.2⟩ ⟨rfl, rfl, rfl, rfl, trivial⟩ ⟨rfl, rfl, rfl, rfl, rfl, rfl, rfl, rfl, rfl, rfl, trivial⟩ ?_
  rintro ⟨p12, C13, p16, p20, p24, c18, c22, c26, C19, C23, C27⟩ ⟨o13, o19, o23, o27⟩
  dsimp only
  refine kw_bl_normal (kw_nx (cw_seq (sr (oM rfl (oK rfl (nn (cw_cond rfl (fun h28 => ?_) (fun h28 => ?_))))))))
  ·have H0 := cond_t H0 h28
   refine sr (oB3 4 ts29 rfl (oC3 5 ts29 rfl rfl (nn (cw_ret (kw_nx_ret (kw_addNil 16 (kw_addNil 17 (kw_addNil 18 ?_))))))))
   obtain rfl := sI H0
   exact kr Tryd.results15 (rC3 5 ts29 rfl rfl) [0, 16, 17, 18, 1, 2, 3] ⟨_, _, _, _, _, _, _, _, _, _, _, _, rfl, rfl, rfl, ho1_0, rfl, ho1_1, rfl, ho1_2⟩
  have H0 := cond_f H0 h28
  refine cw_skip (kw_nx (sr (oB3 6 ts29 rfl (oC3 5 ts29 rfl rfl (nn (cw_ret (kw_addNil 19 (kw_addNil 20 (kw_addNil 21 ?_)))))))))
  obtain rfl := sI H0
  exact kr Tryd.results15 (rC3 5 ts29 rfl rfl) [0, 19, 20, 21, 13, 14, 15] ⟨_, _, _, _, _, _, _, _, _, _, _, _, rfl, rfl, rfl, o19, rfl, o23, rfl, o27⟩
 have H0 := cond_f H0 h9
 obtain ⟨y30, ey30, H0⟩ := bS H0
 refine cw_seq (sr (oQ rfl (oS rfl (nn (cw_join (ι := Unit) (fun _ => True) (fun _ => [(0, .pointer (some ⟨m0, 0, none⟩)), (3, .pointer (some ⟨b1, 0, none⟩)), (4, .pointer (some ⟨b2, 0, none⟩)), (5, .pointer (some ⟨b3, 0, none⟩)), (6, .bool false), (7, .int .i64 x4.1), (17, .int .i64 x5.1), (37, .bool y30)]) (fun _ => [(0, [(m0, .cells #[.slice p0_0_0 ((a0_0).length) c0_0_0, .int .i64 x5.2] 72 (0, 0))]), (1, C1_0), (2, C1_1), (3, C1_2), (4, [(b1, .cells #[.slice p1_0 ((a1.t.b).length) c1_0, .slice p1_1 ((a1.t.f).length) c1_1, .slice p1_2 ((a1.c).length) c1_2] 29 (0, 0))]), (5, [(b2, .cells #[.slice none 0 0, .slice none 0 0, .slice none 0 0] 29 (0, 0))]), (6, [(b3, .cells #[.slice p1_0 ((a1.t.b).length) c1_0, .slice p1_1 ((a1.t.f).length) c1_1, .slice p1_2 ((a1.c).length) c1_2] 29 (0, 0))])]) ?_ (fun _ _ => ?_))))))
 ·refine cw_cond rfl (fun h31 => ?_) (fun h31 => ?_)
  ·have ey30 := cond_t ey30 h31
   refine cw_skip ?_
   obtain rfl := sI ey30
   exact kw_join () trivial ⟨rfl, rfl, rfl, rfl, rfl, rfl, rfl, rfl, trivial⟩ ⟨rfl, rfl, rfl, rfl, rfl, rfl, rfl, trivial⟩
  have ey30 := cond_f ey30 h31
  refine cw_region (oQ rfl (oS rfl (ow_nil ?_)))
  obtain rfl := sI ey30
  exact kw_join () trivial ⟨rfl, rfl, rfl, rfl, rfl, rfl, rfl, rfl, trivial⟩ ⟨rfl, rfl, rfl, rfl, rfl, rfl, rfl, trivial⟩
 refine kw_nx (cw_cond rfl (fun h32 => ?_) (fun h32 => ?_))
 ·have H0 := cond_t H0 h32
  obtain ⟨x33, e33, H0⟩ := bS H0
  refine sr (oA 0 Tryd.underlying29 rfl ts26 rfl (oB2 4 ts26 rfl (oE (stpU_call (fun i => 22 + i) cf44 (fun w hw => c_s_KeysOf fl w a1.t rfl (OwnC.pass (id := 1) rfl ho1_0 hw) rfl (OwnC.pass (id := 2) rfl ho1_1 hw) x33 e33) (yA rfl)) rfl ?_)))
  rintro _ _ ⟨_, ⟨p34, _, c36, C37, rfl, rfl, rfl, o37⟩, rfl⟩
  refine oS rfl (nn (sr (oM rfl (oD (stp_len Tryd.underlying78 rfl) rfl (oJ rfl (nn (cw_cond rfl (fun h38 => ?_) (fun h38 => ?_))))))))
  ·have H0 := cond_t H0 h38
   obtain ⟨x39, e39, H0⟩ := bS H0
   obtain ⟨x40, e40, H0⟩ := bS H0
   obtain ⟨x41, e41, H0⟩ := bS H0
   refine rdq g_mixed [0, 3, 5, 7, 8] [0, 1, 2, 3, 4, 6, 22] { dst := dS [48, 49, 50, 51, 52, 53, 54, 55, 56, 57, 47, 58, 59, 60, 61, 0, 7], pre := gA [] [[], [], [], [], [], [4], [3, 4, 5], rn 2 5, rn 2 6, rn 0 9, rn 0 10, rn 0 11, rn 0 11, rn 0 11, rn 0 11, rn 0 12, rn 0 16], ids := fun i => match i with | 6 => [0] | 9 => [24, 25, 26] | 15 => [6] | _ => [], rs := rL [[(3, 0)], [(7, 0)], [(8, 0)], [(0, 0)], [(8, 0)], [(51, 5)], [(50, 4), (52, 6)], [(49, 3), (53, 7)], [(54, 8)], [(47, 1), (48, 2), (55, 9)], [(56, 10)], [(46, 11)], [(46, 11)], [(46, 11)], [(46, 11)], [(5, 0), (57, 12)], [(60, 15)]], rh := rL [[(4, 0)], [], [], [], [], [], [(0, 0)], [(22, 0)], [(22, 0)], [(1, 0), (2, 0), (3, 0)], [], [], [], [], [], [(6, 0)]], V := fun i g => gA undef [.agg #[.slice p1_0 ((a1.t.b).length) c1_0, .slice p1_1 ((a1.t.f).length) c1_1, .slice p1_2 ((a1.c).length) c1_2], .int .i64 x4.1, .slice p34 ((x33).length) c36, .pointer (some ⟨m0, 0, none⟩), .slice p34 ((x33).length) c36, .int .i64 ((x33).length : Int), .int .i64 x39.1, .pointer (some ⟨eB p34, eO p34 + Int.toNat x39.1 * Enc.sz K + 0, none⟩), .agg #[.int .i64 x40.s, .int .i64 x40.p], .tuple #[.agg #[.slice ((g 9).A 0) ((x41.1.t.b).length) ((g 9).C 0), .slice ((g 9).A 1) ((x41.1.t.f).length) ((g 9).C 1), .slice ((g 9).A 2) ((x41.1.c).length) ((g 9).C 2)], .int .i64 x41.2.1, .int .i64 x41.2.2.1, .bool x41.2.2.2], .tuple #[.agg #[.slice ((g 9).A 0) ((x41.1.t.b).length) ((g 9).C 0), .slice ((g 9).A 1) ((x41.1.t.f).length) ((g 9).C 1), .slice ((g 9).A 2) ((x41.1.c).length) ((g 9).C 2)], .int .i64 x41.2.1, .int .i64 x41.2.2.1, .bool x41.2.2.2], .agg #[.slice ((g 9).A 0) ((x41.1.t.b).length) ((g 9).C 0), .slice ((g 9).A 1) ((x41.1.t.f).length) ((g 9).C 1), .slice ((g 9).A 2) ((x41.1.c).length) ((g 9).C 2)], .int .i64 x41.2.1, .int .i64 x41.2.2.1, .bool x41.2.2.2, undef, .bool x41.2.2.2] i, U := fun i g => match i with | 6 => [(0, [(m0, .cells #[.slice p0_0_0 ((a0_0).length) c0_0_0, .int .i64 x39.2] 72 (0, 0))])] | 9 => [(24, ((g 9).R 0)), (25, ((g 9).R 1)), (26, ((g 9).R 2))] | 15 => [(6, [(b3, .cells #[.slice ((g 9).A 0) ((x41.1.t.b).length) ((g 9).C 0), .slice ((g 9).A 1) ((x41.1.t.f).length) ((g 9).C 1), .slice ((g 9).A 2) ((x41.1.c).length) ((g 9).C 2)] 29 (0, 0))])] | _ => [], Φ := fun i x => match i with | 9 => OwnC 3 (x.A 0) (x.C 0) x41.1.t.b (x.R 0) ∧ OwnC 61 (x.A 1) (x.C 1) x41.1.t.f (x.R 1) ∧ OwnD 43 53 (x.A 2) (x.C 2) x41.1.c (x.R 2) | _ => True } ?_ ?_
   ·refine ⟨lc rfl rfl fun hs hh => stp_loadN (us := [_, _, _]) ts29 (sv hs 3 rfl) (Cells.box (id := 4) (hh.get 4 _ rfl) 3 rfl), lM, lM, lM, lM, lc rfl rfl fun hs hh => stp_len Tryd.underlying78 (sv hs 51 rfl), ?_, lc rfl rfl fun hs hh => stp_indexAddr Tryd.underlying78 ts36 (by decide) (sv hs 49 rfl) rfl (sv hs 53 rfl) (Rdb.own (id := 22) (hh.get 22 _ rfl) o37) e40, lc rfl rfl fun hs hh => stp_loadN (us := [_, _]) ts36 (sv hs 54 rfl) (Cells.el (Rdb.own (id := 22) (hh.get 22 _ rfl) o37) (by decide) e40 0 2 rfl), ?_, lM, lT, lT, lT, lT, ?_, lS, trivial⟩
    ·refine le rfl rfl (fun g hΦ s h hs hh => (stpU_callM (fun i => bif Nat.beq i 0 then 0 else 23 + i) cf14 (fun w hw hb => c_s_l12Rd_pick fl w m0 a0_0 x5.2 ((x33).length : Int) rfl (RO.passM hr0_0_0 hw hb) (hw.pass (js := [0]) ⟨0, [], rfl, (hh.get 0 _ rfl), trivial⟩ (by decide)) x39 e39) (yB (sv hs 50 rfl) (sv hs 52 rfl)) ⟨(hh.get 0 _ rfl), (fun _ _ hp => by obtain ⟨_, rfl⟩ := hp; exact ⟨_, rfl⟩), trivial⟩)) ?_
     rintro g _ _ ⟨_, ⟨rfl, rfl⟩, rfl⟩
     exact ⟨⟨[], [], []⟩, trivial, .inr rfl, rfl⟩
    ·refine le rfl rfl (fun g hΦ s h hs hh => (stpU_call (fun i => 24 + i) cf11 (fun w hw => c_s_LookCpu fl w a1 x4.1 x40 rfl (OwnC.pass (id := 1) (hh.get 1 _ rfl) ho1_0 hw) rfl (OwnC.pass (id := 2) (hh.get 2 _ rfl) ho1_1 hw) rfl (OwnD.pass (id := 3) (hh.get 3 _ rfl) ho1_2 hw) x41 e41) (yC (sv hs 47 rfl) (sv hs 48 rfl) (sv hs 55 rfl)))) ?_
     rintro g _ _ ⟨_, ⟨p42, _, c44, C45, p46, _, c48, C49, p50, _, c52, C53, rfl, rfl, rfl, o45, rfl, o49, rfl, o53⟩, rfl⟩
     exact ⟨⟨[p42, p46, p50], [c44, c48, c52], [C45, C49, C53]⟩, ⟨o45, o49, o53⟩, .inr rfl, rfl⟩
    refine le rfl rfl (fun g hΦ s h hs hh => (stpU_store (id := 6) (cs' := [.slice ((g 9).A 0) ((x41.1.t.b).length) ((g 9).C 0), .slice ((g 9).A 1) ((x41.1.t.f).length) ((g 9).C 1), .slice ((g 9).A 2) ((x41.1.c).length) ((g 9).C 2)]) ts29 (sv hs 5 rfl) (sv hs 57 rfl) (hh.get 6 _ rfl) rfl rfl rfl rfl)) ?_
    rintro g _ _ rfl
    exact ⟨⟨[], [], []⟩, trivial, .inl rfl, rfl⟩
   intro g hΦ
   refine kw_gen (ι := Option Addr × Option Addr × Option Addr × Nat × Nat × Nat × Res × Res × Res) (((g 9).A 0), ((g 9).A 1), ((g 9).A 2), ((g 9).C 0), ((g 9).C 1), ((g 9).C 2), ((g 9).R 0), ((g 9).R 1), ((g 9).R 2)) (fun | (p42, p46, p50, c44, c48, c52, C45, C49, C53) => OwnC 3 p42 c44 x41.1.t.b C45 ∧ OwnC 61 p46 c48 x41.1.t.f C49 ∧ OwnD 43 53 p50 c52 x41.1.c C53) (fun | (p42, p46, p50, c44, c48, c52, C45, C49, C53) => [(3, .pointer (some ⟨b1, 0, none⟩)), (4, .pointer (some ⟨b2, 0, none⟩)), (5, .pointer (some ⟨b3, 0, none⟩)), (6, .bool x41.2.2.2)]) (fun | (p42, p46, p50, c44, c48, c52, C45, C49, C53) => [(0, [(m0, .cells #[.slice p0_0_0 ((a0_0).length) c0_0_0, .int .i64 x39.2] 72 (0, 0))]), (1, C1_0), (2, C1_1), (3, C1_2), (4, [(b1, .cells #[.slice p1_0 ((a1.t.b).length) c1_0, .slice p1_1 ((a1.t.f).length) c1_1, .slice p1_2 ((a1.c).length) c1_2] 29 (0, 0))]), (5, [(b2, .cells #[.slice none 0 0, .slice none 0 0, .slice none 0 0] 29 (0, 0))]), (6, [(b3, .cells #[.slice p42 ((x41.1.t.b).length) c44, .slice p46 ((x41.1.t.f).length) c48, .slice p50 ((x41.1.c).length) c52] 29 (0, 0))]), (24, C45), (25, C49), (26, C53)]) ⟨(hΦ 9 (by decide)).1, (hΦ 9 (by decide)).2.1, (hΦ 9 (by decide)).2.2⟩ ⟨rfl, rfl, rfl, rfl, trivial⟩ ⟨rfl, rfl, rfl, rfl, rfl, rfl, rfl, rfl, rfl, rfl, trivial⟩ ?_
   rintro ⟨p42, p46, p50, c44, c48, c52, C45, C49, C53⟩ ⟨o45, o49, o53⟩
   dsimp only
   refine kw_bl_normal (kw_nx (cw_seq (sr (oM rfl (oK rfl (nn (cw_cond rfl (fun h54 => ?_) (fun h54 => ?_))))))))
   ·have H0 := cond_t H0 h54
    refine sr (oB3 4 ts29 rfl (oC3 5 ts29 rfl rfl (nn (cw_ret (kw_nx_ret (kw_addNil 27 (kw_addNil 28 (kw_addNil 29 ?_))))))))
    obtain rfl := sI H0
    exact kr Tryd.results15 (rC3 5 ts29 rfl rfl) [0, 27, 28, 29, 1, 2, 3] ⟨_, _, _, _, _, _, _, _, _, _, _, _, rfl, rfl, rfl, ho1_0, rfl, ho1_1, rfl, ho1_2⟩
   have H0 := cond_f H0 h54
   refine cw_skip (kw_nx (sr (oB3 6 ts29 rfl (oC3 5 ts29 rfl rfl (nn (cw_ret (kw_addNil 30 (kw_addNil 31 (kw_addNil 32 ?_)))))))))
   obtain rfl := sI H0
   exact kr Tryd.results15 (rC3 5 ts29 rfl rfl) [0, 30, 31, 32, 24, 25, 26] ⟨_, _, _, _, _, _, _, _, _, _, _, _, rfl, rfl, rfl, o45, rfl, o49, rfl, o53⟩
  have H0 := cond_f H0 h38
  refine cw_skip (kw_bl_normal (kw_nx (cw_seq (sr (oM rfl (oK rfl (nn (cw_cond rfl (fun h55 => ?_) (fun h55 => ?_)))))))))
  ·have H0 := cond_t H0 h55
   refine sr (oB3 4 ts29 rfl (oC3 5 ts29 rfl rfl (nn (cw_ret (kw_nx_ret (kw_addNil 33 (kw_addNil 34 (kw_addNil 35 ?_))))))))
   obtain rfl := sI H0
   exact kr Tryd.results15 (rC3 5 ts29 rfl rfl) [0, 33, 34, 35, 1, 2, 3] ⟨_, _, _, _, _, _, _, _, _, _, _, _, rfl, rfl, rfl, ho1_0, rfl, ho1_1, rfl, ho1_2⟩
  have H0 := cond_f H0 h55
  refine cw_skip (kw_nx (sr (oB3 6 ts29 rfl (oC3 5 ts29 rfl rfl (nn (cw_ret (kw_addNil 36 (kw_addNil 37 (kw_addNil 38 ?_)))))))))
  obtain rfl := sI H0
  exact kr Tryd.results15 (rC3 5 ts29 rfl rfl) [0, 36, 37, 38, 1, 2, 3] ⟨_, _, _, _, _, _, _, _, _, _, _, _, rfl, rfl, rfl, ho1_0, rfl, ho1_1, rfl, ho1_2⟩
 have H0 := cond_f H0 h32
 refine sr (oQ rfl (oS rfl (nn (cw_cond rfl (fun h56 => ?_) (fun h56 => ?_)))))
 ·have H0 := cond_t H0 h56
  obtain ⟨x57, e57, H0⟩ := bS H0
  refine sr (oA 0 Tryd.underlying29 rfl ts26 rfl (oB2 4 ts26 rfl (oE (stpU_call (fun i => 39 + i) cf44 (fun w hw => c_s_KeysOf fl w a1.t rfl (OwnC.pass (id := 1) rfl ho1_0 hw) rfl (OwnC.pass (id := 2) rfl ho1_1 hw) x57 e57) (yA rfl)) rfl ?_)))
  rintro _ _ ⟨_, ⟨p58, _, c60, C61, rfl, rfl, rfl, o61⟩, rfl⟩
  refine oS rfl (nn (sr (oM rfl (oD (stp_len Tryd.underlying78 rfl) rfl (oJ rfl (nn (cw_cond rfl (fun h62 => ?_) (fun h62 => ?_))))))))
  ·have H0 := cond_t H0 h62
   obtain ⟨x63, e63, H0⟩ := bS H0
   obtain ⟨x64, e64, H0⟩ := bS H0
   obtain ⟨x65, e65, H0⟩ := bS H0
   refine rdq g_mixed [0, 3, 5, 7, 9] [0, 1, 2, 3, 4, 6, 39] { dst := dS [71, 72, 73, 74, 75, 76, 77, 78, 79, 80, 70, 81, 82, 83, 0, 7], pre := gA [] [[], [], [], [], [], [4], [3, 4, 5], rn 2 5, rn 2 6, rn 0 9, rn 0 10, rn 0 11, rn 0 11, rn 0 11, rn 0 12, rn 0 15], ids := fun i => match i with | 6 => [0] | 9 => [41, 42, 43] | 14 => [6] | _ => [], rs := rL [[(3, 0)], [(7, 0)], [(9, 0)], [(0, 0)], [(9, 0)], [(74, 5)], [(73, 4), (75, 6)], [(72, 3), (76, 7)], [(77, 8)], [(70, 1), (71, 2), (78, 9)], [(79, 10)], [(69, 11)], [(69, 11)], [(69, 11)], [(5, 0), (80, 12)], [(82, 14)]], rh := rL [[(4, 0)], [], [], [], [], [], [(0, 0)], [(39, 0)], [(39, 0)], [(1, 0), (2, 0), (3, 0)], [], [], [], [], [(6, 0)]], V := fun i g => gA undef [.agg #[.slice p1_0 ((a1.t.b).length) c1_0, .slice p1_1 ((a1.t.f).length) c1_1, .slice p1_2 ((a1.c).length) c1_2], .int .i64 x4.1, .slice p58 ((x57).length) c60, .pointer (some ⟨m0, 0, none⟩), .slice p58 ((x57).length) c60, .int .i64 ((x57).length : Int), .int .i64 x63.1, .pointer (some ⟨eB p58, eO p58 + Int.toNat x63.1 * Enc.sz K + 0, none⟩), .agg #[.int .i64 x64.s, .int .i64 x64.p], .tuple #[.agg #[.slice ((g 9).A 0) ((x65.1.t.b).length) ((g 9).C 0), .slice ((g 9).A 1) ((x65.1.t.f).length) ((g 9).C 1), .slice ((g 9).A 2) ((x65.1.c).length) ((g 9).C 2)], .int .i64 x65.2.1, .bool x65.2.2], .tuple #[.agg #[.slice ((g 9).A 0) ((x65.1.t.b).length) ((g 9).C 0), .slice ((g 9).A 1) ((x65.1.t.f).length) ((g 9).C 1), .slice ((g 9).A 2) ((x65.1.c).length) ((g 9).C 2)], .int .i64 x65.2.1, .bool x65.2.2], .agg #[.slice ((g 9).A 0) ((x65.1.t.b).length) ((g 9).C 0), .slice ((g 9).A 1) ((x65.1.t.f).length) ((g 9).C 1), .slice ((g 9).A 2) ((x65.1.c).length) ((g 9).C 2)], .int .i64 x65.2.1, .bool x65.2.2, undef, .bool x65.2.2] i, U := fun i g => match i with | 6 => [(0, [(m0, .cells #[.slice p0_0_0 ((a0_0).length) c0_0_0, .int .i64 x63.2] 72 (0, 0))])] | 9 => [(41, ((g 9).R 0)), (42, ((g 9).R 1)), (43, ((g 9).R 2))] | 14 => [(6, [(b3, .cells #[.slice ((g 9).A 0) ((x65.1.t.b).length) ((g 9).C 0), .slice ((g 9).A 1) ((x65.1.t.f).length) ((g 9).C 1), .slice ((g 9).A 2) ((x65.1.c).length) ((g 9).C 2)] 29 (0, 0))])] | _ => [], Φ := fun i x => match i with | 9 => OwnC 3 (x.A 0) (x.C 0) x65.1.t.b (x.R 0) ∧ OwnC 61 (x.A 1) (x.C 1) x65.1.t.f (x.R 1) ∧ OwnD 43 53 (x.A 2) (x.C 2) x65.1.c (x.R 2) | _ => True } ?_ ?_
   ·refine ⟨lc rfl rfl fun hs hh => stp_loadN (us := [_, _, _]) ts29 (sv hs 3 rfl) (Cells.box (id := 4) (hh.get 4 _ rfl) 3 rfl), lM, lM, lM, lM, lc rfl rfl fun hs hh => stp_len Tryd.underlying78 (sv hs 74 rfl), ?_, lc rfl rfl fun hs hh => stp_indexAddr Tryd.underlying78 ts36 (by decide) (sv hs 72 rfl) rfl (sv hs 76 rfl) (Rdb.own (id := 39) (hh.get 39 _ rfl) o61) e64, lc rfl rfl fun hs hh => stp_loadN (us := [_, _]) ts36 (sv hs 77 rfl) (Cells.el (Rdb.own (id := 39) (hh.get 39 _ rfl) o61) (by decide) e64 0 2 rfl), ?_, lM, lT, lT, lT, ?_, lS, trivial⟩
    ·refine le rfl rfl (fun g hΦ s h hs hh => (stpU_callM (fun i => bif Nat.beq i 0 then 0 else 40 + i) cf14 (fun w hw hb => c_s_l12Rd_pick fl w m0 a0_0 x5.2 ((x57).length : Int) rfl (RO.passM hr0_0_0 hw hb) (hw.pass (js := [0]) ⟨0, [], rfl, (hh.get 0 _ rfl), trivial⟩ (by decide)) x63 e63) (yB (sv hs 73 rfl) (sv hs 75 rfl)) ⟨(hh.get 0 _ rfl), (fun _ _ hp => by obtain ⟨_, rfl⟩ := hp; exact ⟨_, rfl⟩), trivial⟩)) ?_
     rintro g _ _ ⟨_, ⟨rfl, rfl⟩, rfl⟩
     exact ⟨⟨[], [], []⟩, trivial, .inr rfl, rfl⟩
    ·refine le rfl rfl (fun g hΦ s h hs hh => (stpU_call (fun i => 41 + i) cf45 (fun w hw => c_s_UnmapSystem fl w a1 x4.1 x64 rfl (OwnC.pass (id := 1) (hh.get 1 _ rfl) ho1_0 hw) rfl (OwnC.pass (id := 2) (hh.get 2 _ rfl) ho1_1 hw) rfl (OwnD.pass (id := 3) (hh.get 3 _ rfl) ho1_2 hw) x65 e65) (yC (sv hs 70 rfl) (sv hs 71 rfl) (sv hs 78 rfl)))) ?_
     rintro g _ _ ⟨_, ⟨p66, _, c68, C69, p70, _, c72, C73, p74, _, c76, C77, rfl, rfl, rfl, o69, rfl, o73, rfl, o77⟩, rfl⟩
     exact ⟨⟨[p66, p70, p74], [c68, c72, c76], [C69, C73, C77]⟩, ⟨o69, o73, o77⟩, .inr rfl, rfl⟩
    refine le rfl rfl (fun g hΦ s h hs hh => (stpU_store (id := 6) (cs' := [.slice ((g 9).A 0) ((x65.1.t.b).length) ((g 9).C 0), .slice ((g 9).A 1) ((x65.1.t.f).length) ((g 9).C 1), .slice ((g 9).A 2) ((x65.1.c).length) ((g 9).C 2)]) ts29 (sv hs 5 rfl) (sv hs 80 rfl) (hh.get 6 _ rfl) rfl rfl rfl rfl)) ?_
    rintro g _ _ rfl
    exact ⟨⟨[], [], []⟩, trivial, .inl rfl, rfl⟩
   intro g hΦ
   refine kw_gen (ι := Option Addr × Option Addr × Option Addr × Nat × Nat × Nat × Res × Res × Res) (((g 9).A 0), ((g 9).A 1), ((g 9).A 2), ((g 9).C 0), ((g 9).C 1), ((g 9).C 2), ((g 9).R 0), ((g 9).R 1), ((g 9).R 2)) (fun | (p66, p70, p74, c68, c72, c76, C69, C73, C77) => OwnC 3 p66 c68 x65.1.t.b C69 ∧ OwnC 61 p70 c72 x65.1.t.f C73 ∧ OwnD 43 53 p74 c76 x65.1.c C77) (fun | (p66, p70, p74, c68, c72, c76, C69, C73, C77) => [(3, .pointer (some ⟨b1, 0, none⟩)), (4, .pointer (some ⟨b2, 0, none⟩)), (5, .pointer (some ⟨b3, 0, none⟩)), (6, .bool x65.2.2)]) (fun | (p66, p70, p74, c68, c72, c76, C69, C73, C77) => [(0, [(m0, .cells #[.slice p0_0_0 ((a0_0).length) c0_0_0, .int .i64 x63.2] 72 (0, 0))]), (1, C1_0), (2, C1_1), (3, C1_2), (4, [(b1, .cells #[.slice p1_0 ((a1.t.b).length) c1_0, .slice p1_1 ((a1.t.f).length) c1_1, .slice p1_2 ((a1.c).length) c1_2] 29 (0, 0))]), (5, [(b2, .cells #[.slice none 0 0, .slice none 0 0, .slice none 0 0] 29 (0, 0))]), (6, [(b3, .cells #[.slice p66 ((x65.1.t.b).length) c68, .slice p70 ((x65.1.t.f).length) c72, .slice p74 ((x65.1.c).length) c76] 29 (0, 0))]), (41, C69), (42, C73), (43, C77)]) ⟨(hΦ 9 (by decide)).1, (hΦ 9 (by decide)).2.1, (hΦ 9 (by decide)).2.2⟩ ⟨rfl, rfl, rfl, rfl, trivial⟩ ⟨rfl, rfl, rfl, rfl, rfl, rfl, rfl, rfl, rfl, rfl, trivial⟩ ?_
   rintro ⟨p66, p70, p74, c68, c72, c76, C69, C73, C77⟩ ⟨o69, o73, o77⟩
   dsimp only
   refine kw_bl_normal (kw_nx (cw_seq (sr (oM rfl (oK rfl (nn (cw_cond rfl (fun h78 => ?_) (fun h78 => ?_))))))))
   ·have H0 := cond_t H0 h78
    refine sr (oB3 4 ts29 rfl (oC3 5 ts29 rfl rfl (nn (cw_ret (kw_nx_ret (kw_addNil 44 (kw_addNil 45 (kw_addNil 46 ?_))))))))
    obtain rfl := sI H0
    exact kr Tryd.results15 (rC3 5 ts29 rfl rfl) [0, 44, 45, 46, 1, 2, 3] ⟨_, _, _, _, _, _, _, _, _, _, _, _, rfl, rfl, rfl, ho1_0, rfl, ho1_1, rfl, ho1_2⟩
   have H0 := cond_f H0 h78
   refine cw_skip (kw_nx (sr (oB3 6 ts29 rfl (oC3 5 ts29 rfl rfl (nn (cw_ret (kw_addNil 47 (kw_addNil 48 (kw_addNil 49 ?_)))))))))
   obtain rfl := sI H0
   exact kr Tryd.results15 (rC3 5 ts29 rfl rfl) [0, 47, 48, 49, 41, 42, 43] ⟨_, _, _, _, _, _, _, _, _, _, _, _, rfl, rfl, rfl, o69, rfl, o73, rfl, o77⟩
  have H0 := cond_f H0 h62
  refine cw_skip (kw_bl_normal (kw_nx (cw_seq (sr (oM rfl (oK rfl (nn (cw_cond rfl (fun h79 => ?_) (fun h79 => ?_)))))))))
  ·have H0 := cond_t H0 h79
   refine sr (oB3 4 ts29 rfl (oC3 5 ts29 rfl rfl (nn (cw_ret (kw_nx_ret (kw_addNil 50 (kw_addNil 51 (kw_addNil 52 ?_))))))))
   obtain rfl := sI H0
   exact kr Tryd.results15 (rC3 5 ts29 rfl rfl) [0, 50, 51, 52, 1, 2, 3] ⟨_, _, _, _, _, _, _, _, _, _, _, _, rfl, rfl, rfl, ho1_0, rfl, ho1_1, rfl, ho1_2⟩
  have H0 := cond_f H0 h79
  refine cw_skip (kw_nx (sr (oB3 6 ts29 rfl (oC3 5 ts29 rfl rfl (nn (cw_ret (kw_addNil 53 (kw_addNil 54 (kw_addNil 55 ?_)))))))))
  obtain rfl := sI H0
  exact kr Tryd.results15 (rC3 5 ts29 rfl rfl) [0, 53, 54, 55, 1, 2, 3] ⟨_, _, _, _, _, _, _, _, _, _, _, _, rfl, rfl, rfl, ho1_0, rfl, ho1_1, rfl, ho1_2⟩
 have H0 := cond_f H0 h56
 refine sr (oQ rfl (oS rfl (nn (cw_cond rfl (fun h80 => ?_) (fun h80 => ?_)))))
 ·have H0 := cond_t H0 h80
  obtain ⟨x81, e81, H0⟩ := bS H0
  refine sr (oM rfl (oE (stpU_callM (fun i => bif Nat.beq i 0 then 0 else 56 + i) cf14 (fun w hw hb => c_s_l12Rd_pick fl w m0 a0_0 x5.2 2 rfl (RO.passM hr0_0_0 hw hb) (hw.pass (js := [0]) ⟨0, [], rfl, rfl, trivial⟩ (by decide)) x81 e81) (yB rfl rfl) ⟨rfl, (fun _ _ hp => by obtain ⟨_, rfl⟩ := hp; exact ⟨_, rfl⟩), trivial⟩) rfl ?_))
  rintro _ _ ⟨_, ⟨rfl, rfl⟩, rfl⟩
  refine oQ rfl (nn (cw_cond rfl (fun h82 => ?_) (fun h82 => ?_)))
  ·have H0 := cond_t H0 h82
   obtain ⟨x83, e83, H0⟩ := bS H0
   refine cw_region (oB3 4 ts29 rfl (oM rfl (oE (stpU_call (fun i => 57 + i) cf46 (fun w hw => c_s_AckCpu fl w a1 x4.1 rfl (OwnC.pass (id := 1) rfl ho1_0 hw) rfl (OwnC.pass (id := 2) rfl ho1_1 hw) rfl (OwnD.pass (id := 3) rfl ho1_2 hw) x83 e83) (yB rfl rfl)) rfl ?_)))
   rintro _ _ ⟨_, ⟨p84, _, c86, C87, p88, _, c90, C91, p92, _, c94, C95, rfl, rfl, rfl, o87, rfl, o91, rfl, o95⟩, rfl⟩
   refine oM rfl (oT rfl (oT rfl (oC3 6 ts29 rfl rfl (oS rfl (ow_nil (kw_bl_normal (kw_nx (cw_seq (sr (oM rfl (oK rfl (nn (cw_cond rfl (fun h96 => ?_) (fun h96 => ?_))))))))))))))
   ·have H0 := cond_t H0 h96
    refine sr (oB3 4 ts29 rfl (oC3 5 ts29 rfl rfl (nn (cw_ret (kw_nx_ret (kw_addNil 60 (kw_addNil 61 (kw_addNil 62 ?_))))))))
    obtain rfl := sI H0
    exact kr Tryd.results15 (rC3 5 ts29 rfl rfl) [0, 60, 61, 62, 1, 2, 3] ⟨_, _, _, _, _, _, _, _, _, _, _, _, rfl, rfl, rfl, ho1_0, rfl, ho1_1, rfl, ho1_2⟩
   have H0 := cond_f H0 h96
   refine cw_skip (kw_nx (sr (oB3 6 ts29 rfl (oC3 5 ts29 rfl rfl (nn (cw_ret (kw_addNil 63 (kw_addNil 64 (kw_addNil 65 ?_)))))))))
   obtain rfl := sI H0
   exact kr Tryd.results15 (rC3 5 ts29 rfl rfl) [0, 63, 64, 65, 57, 58, 59] ⟨_, _, _, _, _, _, _, _, _, _, _, _, rfl, rfl, rfl, o87, rfl, o91, rfl, o95⟩
  have H0 := cond_f H0 h82
  refine cw_skip (kw_bl_normal (kw_nx (cw_seq (sr (oM rfl (oK rfl (nn (cw_cond rfl (fun h97 => ?_) (fun h97 => ?_)))))))))
  ·have H0 := cond_t H0 h97
   refine sr (oB3 4 ts29 rfl (oC3 5 ts29 rfl rfl (nn (cw_ret (kw_nx_ret (kw_addNil 66 (kw_addNil 67 (kw_addNil 68 ?_))))))))
   obtain rfl := sI H0
   exact kr Tryd.results15 (rC3 5 ts29 rfl rfl) [0, 66, 67, 68, 1, 2, 3] ⟨_, _, _, _, _, _, _, _, _, _, _, _, rfl, rfl, rfl, ho1_0, rfl, ho1_1, rfl, ho1_2⟩
  have H0 := cond_f H0 h97
  refine cw_skip (kw_nx (sr (oB3 6 ts29 rfl (oC3 5 ts29 rfl rfl (nn (cw_ret (kw_addNil 69 (kw_addNil 70 (kw_addNil 71 ?_)))))))))
  obtain rfl := sI H0
  exact kr Tryd.results15 (rC3 5 ts29 rfl rfl) [0, 69, 70, 71, 1, 2, 3] ⟨_, _, _, _, _, _, _, _, _, _, _, _, rfl, rfl, rfl, ho1_0, rfl, ho1_1, rfl, ho1_2⟩
 have H0 := cond_f H0 h80
 refine cw_skip (kw_bl_normal (kw_nx (cw_seq (sr (oM rfl (oK rfl (nn (cw_cond rfl (fun h98 => ?_) (fun h98 => ?_)))))))))
 ·have H0 := cond_t H0 h98
  refine sr (oB3 4 ts29 rfl (oC3 5 ts29 rfl rfl (nn (cw_ret (kw_nx_ret (kw_addNil 72 (kw_addNil 73 (kw_addNil 74 ?_))))))))
  obtain rfl := sI H0
  exact kr Tryd.results15 (rC3 5 ts29 rfl rfl) [0, 72, 73, 74, 1, 2, 3] ⟨_, _, _, _, _, _, _, _, _, _, _, _, rfl, rfl, rfl, ho1_0, rfl, ho1_1, rfl, ho1_2⟩
 have H0 := cond_f H0 h98
 refine cw_skip (kw_nx (sr (oB3 6 ts29 rfl (oC3 5 ts29 rfl rfl (nn (cw_ret (kw_addNil 75 (kw_addNil 76 (kw_addNil 77 ?_)))))))))
 obtain rfl := sI H0
 exact kr Tryd.results15 (rC3 5 ts29 rfl rfl) [0, 75, 76, 77, 1, 2, 3] ⟨_, _, _, _, _, _, _, _, _, _, _, _, rfl, rfl, rfl, ho1_0, rfl, ho1_1, rfl, ho1_2⟩

theorem c_s_l8Draw (fl : Nat) (w : World) (m0 : Nat) (a0_0 : (List UInt8)) (a0_1 : Int) (hn0_0_0 : n0_0_0 = (a0_0).length) (hr0_0_0 : RO w (hkeys [(0, [(m0, .cells #[.slice p0_0_0 n0_0_0 c0_0_0, .int .i64 a0_1] 72 (0, 0))])]) (RdL p0_0_0 c0_0_0 a0_0)) (hM : Sat w (hkeys [(0, [(m0, .cells #[.slice p0_0_0 n0_0_0 c0_0_0, .int .i64 a0_1] 72 (0, 0))])]) w [(0, [(m0, .cells #[.slice p0_0_0 n0_0_0 c0_0_0, .int .i64 a0_1] 72 (0, 0))])]) (r : Sy × Int) (H0 : s_l8Draw fl a0_0 a0_1 = some r) :
  Ct Tryd.prog 13 [.pointer (some ⟨m0, 0, none⟩)] w [(0, [(m0, .cells #[.slice p0_0_0 n0_0_0 c0_0_0, .int .i64 a0_1] 72 (0, 0))])] (fun rv h' => ∃ (x1 : Option Addr) (y1 z1 : Nat) (C1 : Res) (x2 : Option Addr) (y2 z2 : Nat) (C2 : Res) (x3 : Option Addr) (y3 z3 : Nat) (C3 : Res), rv = .agg #[.slice x1 y1 z1, .slice x2 y2 z2, .slice x3 y3 z3] ∧ h' = [(0, [(m0, .cells #[.slice p0_0_0 n0_0_0 c0_0_0, .int .i64 r.2] 72 (0, 0))]), (1, C1), (2, C2), (3, C3)] ∧ y1 = (r.1.t.b).length ∧ OwnC 3 x1 z1 r.1.t.b C1 ∧ y2 = (r.1.t.f).length ∧ OwnC 61 x2 z2 r.1.t.f C2 ∧ y3 = (r.1.c).length ∧ OwnD 43 53 x3 z3 r.1.c C3) := by
 subst hn0_0_0
 unfold s_l8Draw at H0
 refine ct_of_cw Tryd.func13 rfl Tryd.ntmps13 rfl hM ?_
 refine sr (oE (stpU_alloc 1 tz29 rfl) rfl ?_)
 rintro _ _ ⟨b1, rfl, rfl⟩
 refine nn (sr (oM rfl (oE (stpU_lit (sz := 1) (l := [6, 4, 8]) [.int .i64 6, .int .i64 4, .int .i64 8] sl23 2 (sevp_cons rfl (sevp_cons rfl (sevp_cons rfl sevp_nil))) rfl rfl rfl rfl rfl rfl rfl rfl rfl) rfl ?_)))
 rintro _ _ ⟨p2, C3, rfl, rfl, o3⟩
 obtain ⟨x4, e4, H0⟩ := bS H0
 refine oE (stpU_callM (fun i => bif Nat.beq i 0 then 0 else 3 + i) cf41 (fun w hw hb => c_s_l12Rd_num fl w m0 a0_0 a0_1 ([6, 4, 8]) rfl (RO.passM hr0_0_0 hw hb) (by simp) (OwnC.passM (id := 2) rfl o3 hw hb ⟨rfl, trivial⟩) (hw.pass (js := [0]) ⟨0, [], rfl, rfl, trivial⟩ (by decide)) x4 e4) (yB rfl rfl) ⟨rfl, (fun _ _ hp => by obtain ⟨_, rfl⟩ := hp; exact ⟨_, rfl⟩), trivial⟩) rfl ?_
 rintro _ _ ⟨_, ⟨rfl, rfl⟩, rfl⟩
 refine oM rfl (oE (stpU_lit (sz := 1) (l := [4, 2, 1]) [.int .i64 4, .int .i64 2, .int .i64 1] sl23 4 (sevp_cons rfl (sevp_cons rfl (sevp_cons rfl sevp_nil))) rfl rfl rfl rfl rfl rfl rfl rfl rfl) rfl ?_)
 rintro _ _ ⟨p5, C6, rfl, rfl, o6⟩
 obtain ⟨x7, e7, H0⟩ := bS H0
 refine oE (stpU_callM (fun i => bif Nat.beq i 0 then 0 else 5 + i) cf41 (fun w hw hb => c_s_l12Rd_num fl w m0 a0_0 x4.2 ([4, 2, 1]) rfl (RO.passM hr0_0_0 hw hb) (by simp) (OwnC.passM (id := 4) rfl o6 hw hb ⟨rfl, trivial⟩) (hw.pass (js := [0]) ⟨0, [], rfl, rfl, trivial⟩ (by decide)) x7 e7) (yB rfl rfl) ⟨rfl, (fun _ _ hp => by obtain ⟨_, rfl⟩ := hp; exact ⟨_, rfl⟩), trivial⟩) rfl ?_
 rintro _ _ ⟨_, ⟨rfl, rfl⟩, rfl⟩
 refine oM rfl (oE (stpU_lit (sz := 1) (l := [3, 2, 4, 1]) [.int .i64 3, .int .i64 2, .int .i64 4, .int .i64 1] sl23 6 (sevp_cons rfl (sevp_cons rfl (sevp_cons rfl (sevp_cons rfl sevp_nil)))) rfl rfl rfl rfl rfl rfl rfl rfl rfl) rfl ?_)
 rintro _ _ ⟨p8, C9, rfl, rfl, o9⟩
 obtain ⟨x10, e10, H0⟩ := bS H0
 refine oE (stpU_callM (fun i => bif Nat.beq i 0 then 0 else 7 + i) cf41 (fun w hw hb => c_s_l12Rd_num fl w m0 a0_0 x7.2 ([3, 2, 4, 1]) rfl (RO.passM hr0_0_0 hw hb) (by simp) (OwnC.passM (id := 6) rfl o9 hw hb ⟨rfl, trivial⟩) (hw.pass (js := [0]) ⟨0, [], rfl, rfl, trivial⟩ (by decide)) x10 e10) (yB rfl rfl) ⟨rfl, (fun _ _ hp => by obtain ⟨_, rfl⟩ := hp; exact ⟨_, rfl⟩), trivial⟩) rfl ?_
 rintro _ _ ⟨_, ⟨rfl, rfl⟩, rfl⟩
 obtain ⟨x11, e11, H0⟩ := bS H0
 refine oE (stpU_call (fun i => 8 + i) cf40 (fun w hw => c_s_NewSystem fl w x4.1 x7.1 x10.1 x11 e11) (yC rfl rfl rfl)) rfl ?_
 rintro _ _ ⟨_, ⟨p12, _, c14, C15, p16, _, c18, C19, p20, _, c22, C23, rfl, rfl, rfl, o15, rfl, o19, rfl, o23⟩, rfl⟩
 refine oM rfl (oT rfl (oT rfl (oE (stpU_alloc 11 tz29 rfl) rfl ?_)))
 rintro _ _ ⟨b24, rfl, rfl⟩
 obtain ⟨x25, e25, H0⟩ := bS H0
 refine oC3 11 ts29 rfl rfl (oS rfl (nn (cw_seq (sr (oM rfl (oE (stpU_callM (fun i => bif Nat.beq i 0 then 0 else 12 + i) cf14 (fun w hw hb => c_s_l12Rd_pick fl w m0 a0_0 x10.2 12 rfl (RO.passM hr0_0_0 hw hb) (hw.pass (js := [0]) ⟨0, [], rfl, rfl, trivial⟩ (by decide)) x25 e25) (yB rfl rfl) ⟨rfl, (fun _ _ hp => by obtain ⟨_, rfl⟩ := hp; exact ⟨_, rfl⟩), trivial⟩) rfl ?_))))))
 rintro _ _ ⟨_, ⟨rfl, rfl⟩, rfl⟩
 obtain ⟨x26, e26, H0⟩ := bS H0
 obtain ⟨o0_0, eo0_0, H0⟩ := bS H0
 refine oP e26 rfl (oS rfl (nn (cw_join (ι := Int × (List Int) × (List F) × (List Cp) × Int × Option Addr × Nat × Nat × Res × Option Addr × Nat × Nat × Res × Option Addr × Nat × Nat × Res) (fun | (v27, v28, v33, v38, v43, p29, n30, c31, C32, p34, n35, c36, C37, p39, n40, c41, C42) => o0_0 = .out (v27, v28, v33, v38, v43) ∧ n30 = (v28).length ∧ OwnC 3 p29 c31 v28 C32 ∧ n35 = (v33).length ∧ OwnC 61 p34 c36 v33 C37 ∧ n40 = (v38).length ∧ OwnD 43 53 p39 c41 v38 C42) (fun | (v27, v28, v33, v38, v43, p29, n30, c31, C32, p34, n35, c36, C37, p39, n40, c41, C42) => [(0, .pointer (some ⟨m0, 0, none⟩)), (2, .pointer (some ⟨b1, 0, none⟩)), (3, .pointer (some ⟨b24, 0, none⟩)), (5, .int .i64 v43)]) (fun | (v27, v28, v33, v38, v43, p29, n30, c31, C32, p34, n35, c36, C37, p39, n40, c41, C42) => [(0, [(m0, .cells #[.slice p0_0_0 ((a0_0).length) c0_0_0, .int .i64 v27] 72 (0, 0))]), (1, [(b1, .cells #[.slice none 0 0, .slice none 0 0, .slice none 0 0] 29 (0, 0))]), (8, C32), (9, C37), (10, C42), (11, [(b24, .cells #[.slice p29 n30 c31, .slice p34 n35 c36, .slice p39 n40 c41] 29 (0, 0))])]) ?_ ?_)))
 ·refine cw_block (cw_loopS (ι := Nat × Int × (List Int) × (List F) × (List Cp) × Int × Option Addr × Nat × Nat × Res × Option Addr × Nat × Nat × Res × Option Addr × Nat × Nat × Res) (js := [0, 1, 8, 9, 10, 11]) (fun x => x.1) (fun | (fuel, v27, v28, v33, v38, v43, p29, n30, c31, C32, p34, n35, c36, C37, p39, n40, c41, C42) => s_l8Draw_L0 fl a0_0 fuel v27 v28 v33 v38 v43 = some o0_0 ∧ n30 = (v28).length ∧ OwnC 3 p29 c31 v28 C32 ∧ n35 = (v33).length ∧ OwnC 61 p34 c36 v33 C37 ∧ n40 = (v38).length ∧ OwnD 43 53 p39 c41 v38 C42) (fun | (_, v27, v28, v33, v38, v43, p29, n30, c31, C32, p34, n35, c36, C37, p39, n40, c41, C42) => [(0, .pointer (some ⟨m0, 0, none⟩)), (2, .pointer (some ⟨b1, 0, none⟩)), (3, .pointer (some ⟨b24, 0, none⟩)), (5, .int .i64 v43)]) (fun | (_, v27, v28, v33, v38, v43, p29, n30, c31, C32, p34, n35, c36, C37, p39, n40, c41, C42) => [(0, [(m0, .cells #[.slice p0_0_0 ((a0_0).length) c0_0_0, .int .i64 v27] 72 (0, 0))]), (1, [(b1, .cells #[.slice none 0 0, .slice none 0 0, .slice none 0 0] 29 (0, 0))]), (8, C32), (9, C37), (10, C42), (11, [(b24, .cells #[.slice p29 n30 c31, .slice p34 n35 c36, .slice p39 n40 c41] 29 (0, 0))])]) (fl, x25.2, x11.1.t.b, x11.1.t.f, x11.1.c, x26, p12, ((x11.1.t.b).length), c14, C15, p16, ((x11.1.t.f).length), c18, C19, p20, ((x11.1.c).length), c22, C23) ⟨eo0_0, rfl, o15, rfl, o19, rfl, o23⟩ ⟨rfl, rfl, rfl, rfl, trivial⟩ ⟨0, [1, 8, 9, 10, 11], rfl, rfl, 1, [8, 9, 10, 11], rfl, rfl, 8, [9, 10, 11], rfl, rfl, 9, [10, 11], rfl, rfl, 10, [11], rfl, rfl, 11, [], rfl, rfl, trivial⟩ (by decide) ?_)
  rintro ⟨fuel, v27, v28, v33, v38, v43, p29, _, c31, C32, p34, _, c36, C37, p39, _, c41, C42⟩ ⟨H1, rfl, o32, rfl, o37, rfl, o42⟩
  have H1 : s_l8Draw_L0 fl a0_0 fuel v27 v28 v33 v38 v43 = some o0_0 := H1
  rcases fuel with _ | fuel
  ·rw [s_l8Draw_L0.eq_1] at H1; cases H1
  rw [s_l8Draw_L0.eq_2] at H1
  dsimp only
  refine cw_seq (sr (oM rfl (oJ rfl (nn (cw_cond rfl (fun h44 => ?_) (fun h44 => ?_))))))
  ·have H1 := cond_t H1 h44
   obtain ⟨x45, e45, H1⟩ := bS H1
   refine cw_skip (kw_nx (cw_seq (cw_block (cw_region (oM rfl (oB3 11 ts29 rfl (oE (stpU_callM (fun i => bif Nat.beq i 0 then 0 else bif Nat.beq i 1 then 8 else bif Nat.beq i 2 then 9 else bif Nat.beq i 3 then 10 else 13 + i) cf15 (fun w hw hb => c_s_l8Step fl w m0 a0_0 v27 (⟨(⟨v28, v33⟩ : T), v38⟩ : Sy) rfl (RO.passM hr0_0_0 hw hb) rfl o32 rfl o37 rfl o42 (hw.pass (js := [0, 8, 9, 10]) ⟨0, [8, 9, 10], rfl, rfl, 8, [9, 10], rfl, rfl, 9, [10], rfl, rfl, 10, [], rfl, rfl, trivial⟩ (by decide)) x45 e45) (yB rfl rfl) ⟨rfl, (fun _ _ hp => by obtain ⟨_, _, _, _, _, _, _, _, _, _, _, _, _, rfl, _⟩ := hp; exact ⟨_, rfl⟩), rfl, (fun _ _ hp => by obtain ⟨_, _, _, _, _, _, _, _, _, _, _, _, _, rfl, _⟩ := hp; exact ⟨_, rfl⟩), rfl, (fun _ _ hp => by obtain ⟨_, _, _, _, _, _, _, _, _, _, _, _, _, rfl, _⟩ := hp; exact ⟨_, rfl⟩), rfl, (fun _ _ hp => by obtain ⟨_, _, _, _, _, _, _, _, _, _, _, _, _, rfl, _⟩ := hp; exact ⟨_, rfl⟩), trivial⟩) rfl ?_)))))))
   rintro _ _ ⟨_, ⟨p46, _, c48, C49, p50, _, c52, C53, p54, _, c56, C57, rfl, rfl, rfl, o49, rfl, o53, rfl, o57⟩, rfl⟩
   obtain ⟨x58, e58, H1⟩ := bS H1
   exact oC3 11 ts29 rfl rfl (ow_nil (kw_bl_normal (kw_nx (cw_region (oM rfl (oD (stp_sub rfl rfl e58) rfl (oS rfl (ow_nil (kw_lqS (js := [0, 1, 17, 18, 19, 11]) (fuel, x45.2, x45.1.t.b, x45.1.t.f, x45.1.c, x58, p46, ((x45.1.t.b).length), c48, C49, p50, ((x45.1.t.f).length), c52, C53, p54, ((x45.1.c).length), c56, C57) ⟨H1, rfl, o49, rfl, o53, rfl, o57⟩ (Nat.lt_succ_self _) ⟨rfl, rfl, rfl, rfl, trivial⟩ ⟨0, [1, 17, 18, 19, 11], rfl, rfl, 1, [17, 18, 19, 11], rfl, rfl, 17, [18, 19, 11], rfl, rfl, 18, [19, 11], rfl, rfl, 19, [11], rfl, rfl, 11, [], rfl, rfl, trivial⟩ (by decide))))))))))
  have H1 := cond_f H1 h44
  refine cw_exit (kw_nx_exit (kw_lq_exit (kw_bl ?_)))
  obtain rfl := sI H1
  exact kw_joinS (js := [0, 1, 8, 9, 10, 11]) (v27, v28, v33, v38, v43, p29, ((v28).length), c31, C32, p34, ((v33).length), c36, C37, p39, ((v38).length), c41, C42) ⟨rfl, rfl, o32, rfl, o37, rfl, o42⟩ ⟨rfl, rfl, rfl, rfl, trivial⟩ ⟨0, [1, 8, 9, 10, 11], rfl, rfl, 1, [8, 9, 10, 11], rfl, rfl, 8, [9, 10, 11], rfl, rfl, 9, [10, 11], rfl, rfl, 10, [11], rfl, rfl, 11, [], rfl, rfl, trivial⟩ (by decide)
 rintro ⟨v27, v28, v33, v38, v43, p29, _, c31, C32, p34, _, c36, C37, p39, _, c41, C42⟩ ⟨rfl, rfl, o32, rfl, o37, rfl, o42⟩
 dsimp only
 refine kw_nx (sr (oB3 11 ts29 rfl (oC3 1 ts29 rfl rfl (nn (cw_ret ?_)))))
 obtain rfl := sI H0
 exact kr Tryd.results13 (rC3 1 ts29 rfl rfl) [0, 8, 9, 10] ⟨_, _, _, _, _, _, _, _, _, _, _, _, rfl, rfl, rfl, o32, rfl, o37, rfl, o42⟩
theorem c_s_l3Wrong (fl : Nat) (w : World) (m0 : Nat) (a0_0 : (List UInt8)) (a0_1 : Int) (a1 : T) (hn0_0_0 : n0_0_0 = (a0_0).length) (hr0_0_0 : RO w (hkeys [(0, [(m0, .cells #[.slice p0_0_0 n0_0_0 c0_0_0, .int .i64 a0_1] 72 (0, 0))])]) (RdL p0_0_0 c0_0_0 a0_0)) (hn1_0 : n1_0 = (a1.b).length) (hr1_0 : RO w (hkeys [(0, [(m0, .cells #[.slice p0_0_0 n0_0_0 c0_0_0, .int .i64 a0_1] 72 (0, 0))])]) (RdL p1_0 c1_0 a1.b)) (hn1_1 : n1_1 = (a1.f).length) (hr1_1 : RO w (hkeys [(0, [(m0, .cells #[.slice p0_0_0 n0_0_0 c0_0_0, .int .i64 a0_1] 72 (0, 0))])]) (RdL p1_1 c1_1 a1.f)) (hM : Sat w (hkeys [(0, [(m0, .cells #[.slice p0_0_0 n0_0_0 c0_0_0, .int .i64 a0_1] 72 (0, 0))])]) w [(0, [(m0, .cells #[.slice p0_0_0 n0_0_0 c0_0_0, .int .i64 a0_1] 72 (0, 0))])]) (r : T × Int) (H0 : s_l3Wrong fl a0_0 a0_1 a1 = some r) :
  Ct Tryd.prog 47 [.pointer (some ⟨m0, 0, none⟩), .agg #[.slice p1_0 n1_0 c1_0, .slice p1_1 n1_1 c1_1]] w [(0, [(m0, .cells #[.slice p0_0_0 n0_0_0 c0_0_0, .int .i64 a0_1] 72 (0, 0))])] (fun rv h' => ∃ (x1 : Option Addr) (y1 z1 : Nat) (C1 : Res) (x2 : Option Addr) (y2 z2 : Nat) (C2 : Res), rv = .agg #[.slice x1 y1 z1, .slice x2 y2 z2] ∧ h' = [(0, [(m0, .cells #[.slice p0_0_0 n0_0_0 c0_0_0, .int .i64 r.2] 72 (0, 0))]), (1, C1), (2, C2)] ∧ y1 = (r.1.b).length ∧ OwnC 3 x1 z1 r.1.b C1 ∧ y2 = (r.1.f).length ∧ OwnC 61 x2 z2 r.1.f C2) := by
 subst hn0_0_0 hn1_0 hn1_1
 unfold s_l3Wrong at H0
 refine ct_of_cw Tryd.func47 rfl Tryd.ntmps47 rfl hM ?_
 refine sr (oE (stpU_box 1 rfl rfl) rfl ?_)
 rintro _ _ ⟨b1, rfl, rfl⟩
 refine oE (stpU_alloc 2 tz26 rfl) rfl ?_
 rintro _ _ ⟨b2, rfl, rfl⟩
 obtain ⟨x3, e3, H0⟩ := bS H0
 refine nn (sr (oB2 1 ts26 rfl (oE (stpU_call (fun i => 3 + i) cf65 (fun w hw => c_s_l3Copy fl w a1 rfl (RO.pass hr1_0 hw) rfl (RO.pass hr1_1 hw) x3 e3) (yA rfl)) rfl ?_)))
 rintro _ _ ⟨_, ⟨p4, _, c6, C7, p8, _, c10, C11, rfl, rfl, rfl, o7, rfl, o11⟩, rfl⟩
 refine oE (stpU_alloc 5 tz26 rfl) rfl ?_
 rintro _ _ ⟨b12, rfl, rfl⟩
 refine oC2 5 ts26 rfl rfl (nn (cw_seq (sr (oA 1 Tryd.underlying26 rfl ts24 rfl (oL 5 ts24 rfl (oD (stp_len Tryd.underlying24 rfl) rfl (oQ rfl (nn (cw_cond rfl (fun h13 => ?_) (fun h13 => ?_))))))))))
 ·have H0 := cond_t H0 h13
  refine sr (oB2 5 ts26 rfl (oC2 2 ts26 rfl rfl (nn (cw_ret (kw_nx_ret ?_)))))
  obtain rfl := sI H0
  exact kr Tryd.results47 (rC2 2 ts26 rfl rfl) [0, 3, 4] ⟨_, _, _, _, _, _, _, _, rfl, rfl, rfl, o7, rfl, o11⟩
 have H0 := cond_f H0 h13
 obtain ⟨x14, e14, H0⟩ := bS H0
 refine cw_skip (kw_nx (sr (oM rfl (oA 1 Tryd.underlying26 rfl ts24 rfl (oL 5 ts24 rfl (oD (stp_len Tryd.underlying24 rfl) rfl (oE (stpU_callM (fun i => bif Nat.beq i 0 then 0 else 6 + i) cf14 (fun w hw hb => c_s_l12Rd_pick fl w m0 a0_0 a0_1 ((x3.f).length : Int) rfl (RO.passM hr0_0_0 hw hb) (hw.pass (js := [0]) ⟨0, [], rfl, rfl, trivial⟩ (by decide)) x14 e14) (yB rfl rfl) ⟨rfl, (fun _ _ hp => by obtain ⟨_, rfl⟩ := hp; exact ⟨_, rfl⟩), trivial⟩) rfl ?_)))))))
 rintro _ _ ⟨_, ⟨rfl, rfl⟩, rfl⟩
 obtain ⟨x15, e15, H0⟩ := bS H0
 refine oS rfl (nn (cw_seq (sr (oM rfl (oE (stpU_callM (fun i => bif Nat.beq i 0 then 0 else 7 + i) cf14 (fun w hw hb => c_s_l12Rd_pick fl w m0 a0_0 x14.2 24 rfl (RO.passM hr0_0_0 hw hb) (hw.pass (js := [0]) ⟨0, [], rfl, rfl, trivial⟩ (by decide)) x15 e15) (yB rfl rfl) ⟨rfl, (fun _ _ hp => by obtain ⟨_, rfl⟩ := hp; exact ⟨_, rfl⟩), trivial⟩) rfl ?_)))))
 rintro _ _ ⟨_, ⟨rfl, rfl⟩, rfl⟩
 refine nn (cw_block (sr (oQ rfl (oS rfl (nn (cw_cond rfl (fun h16 => ?_) (fun h16 => ?_)))))))
 ·have H0 := cond_t H0 h16
  obtain ⟨x19, e19, H0⟩ := bS H0
  obtain ⟨x20, e20, H0⟩ := bS H0
  refine rdq g_mixed [0, 5, 6] [0, 4, 5] { dst := dS [24, 25, 26, 27, 28, 29, 30, 31, 32, 0], pre := gA [] [[], [0], [], [], [], [4], [3, 4, 5], rn 0 7, rn 0 8, rn 0 9], ids := gA [] [[], [], [], [], [], [8], [0], [], [], [4]], rs := rL [[(5, 0)], [(23, 1)], [(6, 0)], [(0, 0)], [(6, 0)], [(27, 5)], [(26, 4), (28, 6)], [(24, 2), (25, 3)], [(30, 8)], [(31, 9), (29, 7)]], rh := rL [[], [(5, 0)], [], [], [], [], [(0, 0), (8, 6)], [(4, 0)], [], [(4, 0)]], V := fun i g => gA undef [.pointer (some ⟨b12, 1, none⟩), .slice p8 ((x3.f).length) c10, .int .i64 x14.1, .pointer (some ⟨m0, 0, none⟩), .int .i64 x14.1, .slice ((g 5).A 0) 4 4, .int .i64 x19.1, .pointer (some ⟨eB p8, eO p8 + Int.toNat x14.1 * Enc.sz F + 0, none⟩), .pointer (some ⟨eB p8, eO p8 + Int.toNat x14.1 * Enc.sz F + 4, none⟩)] i, U := fun i g => gA [] [[], [], [], [], [], [(8, ((g 5).R 0))], [(0, [(m0, .cells #[.slice p0_0_0 ((a0_0).length) c0_0_0, .int .i64 x19.2] 72 (0, 0))])], [], [], [(4, ((g 9).R 0))]] i, Φ := fun i x => match i with | 5 => OwnC (α := Int) 3 (x.A 0) 4 ([0, x14.1, 16, (-1)]) (x.R 0) | 9 => OwnC (α := F) 61 p8 c10 (x3.f.set (Int.toNat x14.1) (⟨x20.u, x20.k, x20.r, x19.1⟩ : F)) (x.R 0) | _ => True } ?_ ?_
  ·refine ⟨lc rfl rfl fun hs hh => stp_fieldAddr (j := 1) Tryd.underlying26 rfl ts24 rfl (sv hs 5 rfl) rfl, lc rfl rfl fun hs hh => stp_load1 ts24 (sv hs 23 rfl) (Cells.box (id := 5) (hh.get 5 _ rfl) 1 rfl), lM, lM, lM, ?_, ?_, lc rfl rfl fun hs hh => stp_indexAddr Tryd.underlying24 ts61 (by decide) (sv hs 24 rfl) rfl (sv hs 25 rfl) (Rdb.own (id := 4) (hh.get 4 _ rfl) o11) e20, lc rfl rfl fun hs hh => stp_fieldAddr (j := 4) Tryd.underlying61 rfl ts3 rfl (sv hs 30 rfl) rfl, ?_, trivial⟩
   ·refine le rfl rfl (fun g hΦ s h hs hh => (stpU_lit (sz := 1) (l := [0, x14.1, 16, (-1)]) [.int .i64 0, .int .i64 x14.1, .int .i64 16, .int .i64 (-1)] sl23 8 (sevp_cons rfl (sevp_cons (sv hs 27 rfl) (sevp_cons rfl (sevp_cons rfl sevp_nil)))) rfl rfl rfl rfl rfl rfl rfl rfl rfl)) ?_
    rintro g _ _ ⟨p17, C18, rfl, rfl, o18⟩
    exact ⟨⟨[p17], [], [C18]⟩, o18, .inr rfl, rfl⟩
   ·refine le rfl rfl (fun g hΦ s h hs hh => (stpU_callM (fun i => bif Nat.beq i 0 then 0 else 9 + i) cf41 (fun w hw hb => c_s_l12Rd_num fl w m0 a0_0 x15.2 ([0, x14.1, 16, (-1)]) rfl (RO.passM hr0_0_0 hw hb) (by simp) (OwnC.passM (id := 8) (hh.get 8 _ rfl) (hΦ 5 rfl) hw hb ⟨rfl, trivial⟩) (hw.pass (js := [0]) ⟨0, [], rfl, (hh.get 0 _ rfl), trivial⟩ (by decide)) x19 e19) (yB (sv hs 26 rfl) (sv hs 28 rfl)) ⟨(hh.get 0 _ rfl), (fun _ _ hp => by obtain ⟨_, rfl⟩ := hp; exact ⟨_, rfl⟩), trivial⟩)) ?_
    rintro g _ _ ⟨_, ⟨rfl, rfl⟩, rfl⟩
    exact ⟨⟨[], [], []⟩, trivial, .inr rfl, rfl⟩
   refine le rfl rfl (fun g hΦ s h hs hh => (stpU_storeEl (id := 4) (i := 4) (⟨x20.u, x20.k, x20.r, x19.1⟩ : F) (by decide) ts3 (sv hs 31 rfl) (sv hs 29 rfl) (hh.get 4 _ rfl) o11 e20 rfl rfl rfl rfl)) ?_
   rintro g _ _ ⟨C21, rfl, o21⟩
   exact ⟨⟨[], [], [C21]⟩, o21, .inl rfl, rfl⟩
  intro g hΦ
  refine kw_gen (ι := Option Addr × Res × Res) (((g 5).A 0), ((g 5).R 0), ((g 9).R 0)) (fun | (p17, C18, C21) => OwnC (α := Int) 3 p17 4 ([0, x14.1, 16, (-1)]) C18 ∧ OwnC (α := F) 61 p8 c10 (x3.f.set (Int.toNat x14.1) (⟨x20.u, x20.k, x20.r, x19.1⟩ : F)) C21) (fun | (p17, C18, C21) => [(4, .pointer (some ⟨b2, 0, none⟩)), (5, .pointer (some ⟨b12, 0, none⟩))]) (fun | (p17, C18, C21) => [(0, [(m0, .cells #[.slice p0_0_0 ((a0_0).length) c0_0_0, .int .i64 x19.2] 72 (0, 0))]), (2, [(b2, .cells #[.slice none 0 0, .slice none 0 0] 26 (0, 0))]), (3, C7), (4, C21), (5, [(b12, .cells #[.slice p4 ((x3.b).length) c6, .slice p8 ((x3.f).length) c10] 26 (0, 0))])]) ⟨(hΦ 5 (by decide)), (hΦ 9 (by decide))⟩ ⟨rfl, rfl, trivial⟩ ⟨rfl, rfl, rfl, rfl, rfl, trivial⟩ ?_
  rintro ⟨p17, C18, C21⟩ ⟨o18, o21⟩
  dsimp only
  refine kw_bl_normal (kw_nx (sr (oB2 5 ts26 rfl (oC2 2 ts26 rfl rfl (nn (cw_ret ?_))))))
  obtain rfl := sI H0
  exact kr Tryd.results47 (rC2 2 ts26 rfl rfl) [0, 3, 4] ⟨_, _, _, _, _, _, _, _, rfl, rfl, rfl, o7, (by simp), o21⟩
 have H0 := cond_f H0 h16
 refine sr (oQ rfl (oS rfl (nn (cw_cond rfl (fun h22 => ?_) (fun h22 => ?_)))))
 ·have H0 := cond_t H0 h22
  obtain ⟨x23, e23, H0⟩ := bS H0
  refine rdq g_mixed [5, 6] [4, 5] { dst := dS [35, 36, 37, 38, 39, 40, 41, 42, 43, 44, 45, 46, 0], pre := gA [] [[], [0], [], [], [3], [], [3, 4, 5], rn 3 4, rn 3 5, rn 3 6, rn 0 10, rn 0 11, rn 0 12], ids := fun i => match i with | 12 => [4] | _ => [], rs := rL [[(5, 0)], [(34, 1)], [(6, 0)], [(5, 0)], [(37, 4)], [(6, 0)], [(38, 5), (39, 6)], [(40, 7)], [(41, 8)], [(42, 9)], [(35, 2), (36, 3)], [(44, 11)], [(45, 12), (43, 10)]], rh := rL [[], [(5, 0)], [], [], [(5, 0)], [], [(4, 0)], [], [(4, 0)], [], [(4, 0)], [], [(4, 0)]], V := fun i g => gA undef [.pointer (some ⟨b12, 1, none⟩), .slice p8 ((x3.f).length) c10, .int .i64 x14.1, .pointer (some ⟨b12, 1, none⟩), .slice p8 ((x3.f).length) c10, .int .i64 x14.1, .pointer (some ⟨eB p8, eO p8 + Int.toNat x14.1 * Enc.sz F + 0, none⟩), .pointer (some ⟨eB p8, eO p8 + Int.toNat x14.1 * Enc.sz F + 0, none⟩), .bool x23.u, .bool (!x23.u), .pointer (some ⟨eB p8, eO p8 + Int.toNat x14.1 * Enc.sz F + 0, none⟩), .pointer (some ⟨eB p8, eO p8 + Int.toNat x14.1 * Enc.sz F + 0, none⟩)] i, U := fun i g => match i with | 12 => [(4, ((g 12).R 0))] | _ => [], Φ := fun i x => match i with | 12 => OwnC (α := F) 61 p8 c10 (x3.f.set (Int.toNat x14.1) (⟨(!x23.u), x23.k, x23.r, x23.nx⟩ : F)) (x.R 0) | _ => True } ?_ ?_
  ·refine ⟨lc rfl rfl fun hs hh => stp_fieldAddr (j := 1) Tryd.underlying26 rfl ts24 rfl (sv hs 5 rfl) rfl, lc rfl rfl fun hs hh => stp_load1 ts24 (sv hs 34 rfl) (Cells.box (id := 5) (hh.get 5 _ rfl) 1 rfl), lM, lc rfl rfl fun hs hh => stp_fieldAddr (j := 1) Tryd.underlying26 rfl ts24 rfl (sv hs 5 rfl) rfl, lc rfl rfl fun hs hh => stp_load1 ts24 (sv hs 37 rfl) (Cells.box (id := 5) (hh.get 5 _ rfl) 1 rfl), lM, lc rfl rfl fun hs hh => stp_indexAddr Tryd.underlying24 ts61 (by decide) (sv hs 38 rfl) rfl (sv hs 39 rfl) (Rdb.own (id := 4) (hh.get 4 _ rfl) o11) e23, lc rfl rfl fun hs hh => stp_fieldAddr (j := 0) Tryd.underlying61 rfl ts4 rfl (sv hs 40 rfl) rfl, lc rfl rfl fun hs hh => stp_load1 ts4 (sv hs 41 rfl) (Cells.el (Rdb.own (id := 4) (hh.get 4 _ rfl) o11) (by decide) e23 0 1 rfl), lc rfl rfl fun hs hh => stp_not (sv hs 42 rfl), lc rfl rfl fun hs hh => stp_indexAddr Tryd.underlying24 ts61 (by decide) (sv hs 35 rfl) rfl (sv hs 36 rfl) (Rdb.own (id := 4) (hh.get 4 _ rfl) o11) e23, lc rfl rfl fun hs hh => stp_fieldAddr (j := 0) Tryd.underlying61 rfl ts4 rfl (sv hs 44 rfl) rfl, ?_, trivial⟩
   refine le rfl rfl (fun g hΦ s h hs hh => (stpU_storeEl (id := 4) (i := 0) (⟨(!x23.u), x23.k, x23.r, x23.nx⟩ : F) (by decide) ts4 (sv hs 45 rfl) (sv hs 43 rfl) (hh.get 4 _ rfl) o11 e23 rfl rfl rfl rfl)) ?_
   rintro g _ _ ⟨C24, rfl, o24⟩
   exact ⟨⟨[], [], [C24]⟩, o24, .inl rfl, rfl⟩
  intro g hΦ
  refine kw_gen (ι := Res) ((g 12).R 0) (fun | C24 => OwnC (α := F) 61 p8 c10 (x3.f.set (Int.toNat x14.1) (⟨(!x23.u), x23.k, x23.r, x23.nx⟩ : F)) C24) (fun | C24 => [(4, .pointer (some ⟨b2, 0, none⟩)), (5, .pointer (some ⟨b12, 0, none⟩))]) (fun | C24 => [(0, [(m0, .cells #[.slice p0_0_0 ((a0_0).length) c0_0_0, .int .i64 x15.2] 72 (0, 0))]), (2, [(b2, .cells #[.slice none 0 0, .slice none 0 0] 26 (0, 0))]), (3, C7), (4, C24), (5, [(b12, .cells #[.slice p4 ((x3.b).length) c6, .slice p8 ((x3.f).length) c10] 26 (0, 0))])]) (hΦ 12 (by decide)) ⟨rfl, rfl, trivial⟩ ⟨rfl, rfl, rfl, rfl, rfl, trivial⟩ ?_
  rintro C24 o24
  have o24 : OwnC (α := F) 61 p8 c10 (x3.f.set (Int.toNat x14.1) (⟨(!x23.u), x23.k, x23.r, x23.nx⟩ : F)) C24 := o24
  dsimp only
  refine kw_bl_normal (kw_nx (sr (oB2 5 ts26 rfl (oC2 2 ts26 rfl rfl (nn (cw_ret ?_))))))
  obtain rfl := sI H0
  exact kr Tryd.results47 (rC2 2 ts26 rfl rfl) [0, 3, 4] ⟨_, _, _, _, _, _, _, _, rfl, rfl, rfl, o7, (by simp), o24⟩
 have H0 := cond_f H0 h22
 refine sr (oQ rfl (oS rfl (nn (cw_cond rfl (fun h25 => ?_) (fun h25 => ?_)))))
 ·have H0 := cond_t H0 h25
  obtain ⟨x28, e28, H0⟩ := bS H0
  obtain ⟨x29, e29, H0⟩ := bS H0
  refine rdq g_mixed [0, 5] [0, 3, 5] { dst := dS [49, 50, 51, 52, 53, 54, 0], pre := gA [] [[], [0], [], [], [2, 3], rn 0 5, rn 0 6], ids := gA [] [[], [], [], [10], [0], [], [3]], rs := rL [[(5, 0)], [(48, 1)], [(0, 0)], [], [(50, 3), (51, 4)], [(49, 2)], [(53, 6), (52, 5)]], rh := rL [[], [(5, 0)], [], [], [(0, 0), (10, 4)], [(3, 0)], [(3, 0)]], V := fun i g => gA undef [.pointer (some ⟨b12, 0, none⟩), .slice p4 ((x3.b).length) c6, .pointer (some ⟨m0, 0, none⟩), .slice ((g 3).A 0) 4 4, .int .i64 x28.1, .pointer (some ⟨eB p4, eO p4 + Int.toNat 0 * Enc.sz Int + 0, none⟩)] i, U := fun i g => gA [] [[], [], [], [(10, ((g 3).R 0))], [(0, [(m0, .cells #[.slice p0_0_0 ((a0_0).length) c0_0_0, .int .i64 x28.2] 72 (0, 0))])], [], [(3, ((g 6).R 0))]] i, Φ := fun i x => match i with | 3 => OwnC (α := Int) 3 (x.A 0) 4 ([0, (-1), 16, (-2)]) (x.R 0) | 6 => OwnC (α := Int) 3 p4 c6 (x3.b.set (Int.toNat 0) x28.1) (x.R 0) | _ => True } ?_ ?_
  ·refine ⟨lc rfl rfl fun hs hh => stp_fieldAddr (j := 0) Tryd.underlying26 rfl ts23 rfl (sv hs 5 rfl) rfl, lc rfl rfl fun hs hh => stp_load1 ts23 (sv hs 48 rfl) (Cells.box (id := 5) (hh.get 5 _ rfl) 1 rfl), lM, ?_, ?_, lc rfl rfl fun hs hh => stp_indexAddr Tryd.underlying23 ts3 (by decide) (sv hs 49 rfl) rfl rfl (Rdb.own (id := 3) (hh.get 3 _ rfl) o7) e29, ?_, trivial⟩
   ·refine le rfl rfl (fun g hΦ s h hs hh => (stpU_lit (sz := 1) (l := [0, (-1), 16, (-2)]) [.int .i64 0, .int .i64 (-1), .int .i64 16, .int .i64 (-2)] sl23 10 (sevp_cons rfl (sevp_cons rfl (sevp_cons rfl (sevp_cons rfl sevp_nil)))) rfl rfl rfl rfl rfl rfl rfl rfl rfl)) ?_
    rintro g _ _ ⟨p26, C27, rfl, rfl, o27⟩
    exact ⟨⟨[p26], [], [C27]⟩, o27, .inr rfl, rfl⟩
   ·refine le rfl rfl (fun g hΦ s h hs hh => (stpU_callM (fun i => bif Nat.beq i 0 then 0 else 11 + i) cf41 (fun w hw hb => c_s_l12Rd_num fl w m0 a0_0 x15.2 ([0, (-1), 16, (-2)]) rfl (RO.passM hr0_0_0 hw hb) (by simp) (OwnC.passM (id := 10) (hh.get 10 _ rfl) (hΦ 3 rfl) hw hb ⟨rfl, trivial⟩) (hw.pass (js := [0]) ⟨0, [], rfl, (hh.get 0 _ rfl), trivial⟩ (by decide)) x28 e28) (yB (sv hs 50 rfl) (sv hs 51 rfl)) ⟨(hh.get 0 _ rfl), (fun _ _ hp => by obtain ⟨_, rfl⟩ := hp; exact ⟨_, rfl⟩), trivial⟩)) ?_
    rintro g _ _ ⟨_, ⟨rfl, rfl⟩, rfl⟩
    exact ⟨⟨[], [], []⟩, trivial, .inr rfl, rfl⟩
   refine le rfl rfl (fun g hΦ s h hs hh => (stpU_storeEl (id := 3) (i := 0) x28.1 (by decide) ts3 (sv hs 53 rfl) (sv hs 52 rfl) (hh.get 3 _ rfl) o7 e29 rfl rfl rfl rfl)) ?_
   rintro g _ _ ⟨C30, rfl, o30⟩
   exact ⟨⟨[], [], [C30]⟩, o30, .inl rfl, rfl⟩
  intro g hΦ
  refine kw_gen (ι := Option Addr × Res × Res) (((g 3).A 0), ((g 3).R 0), ((g 6).R 0)) (fun | (p26, C27, C30) => OwnC (α := Int) 3 p26 4 ([0, (-1), 16, (-2)]) C27 ∧ OwnC (α := Int) 3 p4 c6 (x3.b.set (Int.toNat 0) x28.1) C30) (fun | (p26, C27, C30) => [(4, .pointer (some ⟨b2, 0, none⟩)), (5, .pointer (some ⟨b12, 0, none⟩))]) (fun | (p26, C27, C30) => [(0, [(m0, .cells #[.slice p0_0_0 ((a0_0).length) c0_0_0, .int .i64 x28.2] 72 (0, 0))]), (2, [(b2, .cells #[.slice none 0 0, .slice none 0 0] 26 (0, 0))]), (3, C30), (4, C11), (5, [(b12, .cells #[.slice p4 ((x3.b).length) c6, .slice p8 ((x3.f).length) c10] 26 (0, 0))])]) ⟨(hΦ 3 (by decide)), (hΦ 6 (by decide))⟩ ⟨rfl, rfl, trivial⟩ ⟨rfl, rfl, rfl, rfl, rfl, trivial⟩ ?_
  rintro ⟨p26, C27, C30⟩ ⟨o27, o30⟩
  dsimp only
  refine kw_bl_normal (kw_nx (sr (oB2 5 ts26 rfl (oC2 2 ts26 rfl rfl (nn (cw_ret ?_))))))
  obtain rfl := sI H0
  exact kr Tryd.results47 (rC2 2 ts26 rfl rfl) [0, 3, 4] ⟨_, _, _, _, _, _, _, _, rfl, rfl, (by simp), o30, rfl, o11⟩
 have H0 := cond_f H0 h25
 refine sr (oQ rfl (oS rfl (nn (cw_cond rfl (fun h31 => ?_) (fun h31 => ?_)))))
 ·have H0 := cond_t H0 h31
  obtain ⟨x32, e32, H0⟩ := bS H0
  obtain ⟨x33, e33, H0⟩ := bS H0
  refine rdq g_mixed [0, 5, 6] [0, 4, 5] { dst := dS [57, 58, 59, 60, 61, 62, 63, 0], pre := gA [] [[], [0], [], [], [3], rn 0 5, rn 0 6, rn 0 7], ids := gA [] [[], [], [], [], [0], [], [], [4]], rs := rL [[(5, 0)], [(56, 1)], [(6, 0)], [(0, 0)], [(59, 4)], [(57, 2), (58, 3)], [(61, 6)], [(62, 7), (60, 5)]], rh := rL [[], [(5, 0)], [], [], [(0, 0)], [(4, 0)], [], [(4, 0)]], V := fun i g => gA undef [.pointer (some ⟨b12, 1, none⟩), .slice p8 ((x3.f).length) c10, .int .i64 x14.1, .pointer (some ⟨m0, 0, none⟩), .agg #[.int .i64 x32.1.s, .int .i64 x32.1.p], .pointer (some ⟨eB p8, eO p8 + Int.toNat x14.1 * Enc.sz F + 0, none⟩), .pointer (some ⟨eB p8, eO p8 + Int.toNat x14.1 * Enc.sz F + 1, none⟩)] i, U := fun i g => gA [] [[], [], [], [], [(0, [(m0, .cells #[.slice p0_0_0 ((a0_0).length) c0_0_0, .int .i64 x32.2] 72 (0, 0))])], [], [], [(4, ((g 7).R 0))]] i, Φ := fun i x => match i with | 7 => OwnC (α := F) 61 p8 c10 (x3.f.set (Int.toNat x14.1) (⟨x33.u, x32.1, x33.r, x33.nx⟩ : F)) (x.R 0) | _ => True } ?_ ?_
  ·refine ⟨lc rfl rfl fun hs hh => stp_fieldAddr (j := 1) Tryd.underlying26 rfl ts24 rfl (sv hs 5 rfl) rfl, lc rfl rfl fun hs hh => stp_load1 ts24 (sv hs 56 rfl) (Cells.box (id := 5) (hh.get 5 _ rfl) 1 rfl), lM, lM, ?_, lc rfl rfl fun hs hh => stp_indexAddr Tryd.underlying24 ts61 (by decide) (sv hs 57 rfl) rfl (sv hs 58 rfl) (Rdb.own (id := 4) (hh.get 4 _ rfl) o11) e33, lc rfl rfl fun hs hh => stp_fieldAddr (j := 1) Tryd.underlying61 rfl ts36 rfl (sv hs 61 rfl) rfl, ?_, trivial⟩
   ·refine le rfl rfl (fun g hΦ s h hs hh => (stpU_callM (fun i => bif Nat.beq i 0 then 0 else 12 + i) cf43 (fun w hw hb => c_s_l2Draw fl w m0 a0_0 x15.2 rfl (RO.passM hr0_0_0 hw hb) (hw.pass (js := [0]) ⟨0, [], rfl, (hh.get 0 _ rfl), trivial⟩ (by decide)) x32 e32) (yA (sv hs 59 rfl)) ⟨(hh.get 0 _ rfl), (fun _ _ hp => by obtain ⟨_, rfl⟩ := hp; exact ⟨_, rfl⟩), trivial⟩)) ?_
    rintro g _ _ ⟨_, ⟨rfl, rfl⟩, rfl⟩
    exact ⟨⟨[], [], []⟩, trivial, .inr rfl, rfl⟩
   refine le rfl rfl (fun g hΦ s h hs hh => (stpU_storeEl (id := 4) (i := 1) (⟨x33.u, x32.1, x33.r, x33.nx⟩ : F) (by decide) ts36 (sv hs 62 rfl) (sv hs 60 rfl) (hh.get 4 _ rfl) o11 e33 rfl rfl rfl rfl)) ?_
   rintro g _ _ ⟨C34, rfl, o34⟩
   exact ⟨⟨[], [], [C34]⟩, o34, .inl rfl, rfl⟩
  intro g hΦ
  refine kw_gen (ι := Res) ((g 7).R 0) (fun | C34 => OwnC (α := F) 61 p8 c10 (x3.f.set (Int.toNat x14.1) (⟨x33.u, x32.1, x33.r, x33.nx⟩ : F)) C34) (fun | C34 => [(4, .pointer (some ⟨b2, 0, none⟩)), (5, .pointer (some ⟨b12, 0, none⟩))]) (fun | C34 => [(0, [(m0, .cells #[.slice p0_0_0 ((a0_0).length) c0_0_0, .int .i64 x32.2] 72 (0, 0))]), (2, [(b2, .cells #[.slice none 0 0, .slice none 0 0] 26 (0, 0))]), (3, C7), (4, C34), (5, [(b12, .cells #[.slice p4 ((x3.b).length) c6, .slice p8 ((x3.f).length) c10] 26 (0, 0))])]) (hΦ 7 (by decide)) ⟨rfl, rfl, trivial⟩ ⟨rfl, rfl, rfl, rfl, rfl, trivial⟩ ?_
  rintro C34 o34
  have o34 : OwnC (α := F) 61 p8 c10 (x3.f.set (Int.toNat x14.1) (⟨x33.u, x32.1, x33.r, x33.nx⟩ : F)) C34 := o34
  dsimp only
  refine kw_bl_normal (kw_nx (sr (oB2 5 ts26 rfl (oC2 2 ts26 rfl rfl (nn (cw_ret ?_))))))
  obtain rfl := sI H0
  exact kr Tryd.results47 (rC2 2 ts26 rfl rfl) [0, 3, 4] ⟨_, _, _, _, _, _, _, _, rfl, rfl, rfl, o7, (by simp), o34⟩
 have H0 := cond_f H0 h31
 refine sr (oQ rfl (oS rfl (nn (cw_cond rfl (fun h35 => ?_) (fun h35 => ?_)))))
 ·have H0 := cond_t H0 h35
  refine cw_region (oA 0 Tryd.underlying26 rfl ts23 rfl (oL 5 ts23 rfl (oE (stpU_lit (sz := 1) (l := [(-1)]) [.int .i64 (-1)] sl23 13 (sevp_cons rfl sevp_nil) rfl rfl rfl rfl rfl rfl rfl rfl rfl) rfl ?_)))
  rintro _ _ ⟨p36, C37, rfl, rfl, o37⟩
  obtain ⟨x38, e38, H0⟩ := bS H0
  refine oE (stpU_append sl23 rfl (id := 3) rfl rfl rfl (by simp) rfl o7 (Rdb.own (id := 13) rfl o37) e38) rfl ?_
  rintro _ _ ⟨p39, c40, C41, rfl, rfl, o41⟩
  refine oA 0 Tryd.underlying26 rfl ts23 rfl (oC2 5 ts23 rfl rfl (ow_nil (kw_bl_normal (kw_nx (sr (oB2 5 ts26 rfl (oC2 2 ts26 rfl rfl (nn (cw_ret ?_)))))))))
  obtain rfl := sI H0
  exact kr Tryd.results47 (rC2 2 ts26 rfl rfl) [0, 3, 4] ⟨_, _, _, _, _, _, _, _, rfl, rfl, rfl, o41, rfl, o11⟩
 have H0 := cond_f H0 h35
 refine sr (oQ rfl (oS rfl (nn (cw_cond rfl (fun h42 => ?_) (fun h42 => ?_)))))
 ·have H0 := cond_t H0 h42
  refine cw_region (oE (stpU_lit0 sl24 14) rfl ?_)
  rintro _ _ ⟨p43, C44, rfl, rfl, o44⟩
  refine oA 1 Tryd.underlying26 rfl ts24 rfl (oC2 5 ts24 rfl rfl (ow_nil (kw_bl_normal (kw_nx (sr (oB2 5 ts26 rfl (oC2 2 ts26 rfl rfl (nn (cw_ret ?_)))))))))
  obtain rfl := sI H0
  exact kr Tryd.results47 (rC2 2 ts26 rfl rfl) [0, 3, 14] ⟨_, _, _, _, _, _, _, _, rfl, rfl, rfl, o7, (by simp), o44⟩
 have H0 := cond_f H0 h42
 refine cw_skip (kw_bl_normal (kw_nx (sr (oB2 5 ts26 rfl (oC2 2 ts26 rfl rfl (nn (cw_ret ?_)))))))
 obtain rfl := sI H0
 exact kr Tryd.results47 (rC2 2 ts26 rfl rfl) [0, 3, 4] ⟨_, _, _, _, _, _, _, _, rfl, rfl, rfl, o7, rfl, o11⟩

theorem c_s_l8Wrong (fl : Nat) (w : World) (m0 : Nat) (a0_0 : (List UInt8)) (a0_1 : Int) (a1 : Sy) (hn0_0_0 : n0_0_0 = (a0_0).length) (hr0_0_0 : RO w (hkeys [(0, [(m0, .cells #[.slice p0_0_0 n0_0_0 c0_0_0, .int .i64 a0_1] 72 (0, 0))])]) (RdL p0_0_0 c0_0_0 a0_0)) (hn1_0 : n1_0 = (a1.t.b).length) (hr1_0 : RO w (hkeys [(0, [(m0, .cells #[.slice p0_0_0 n0_0_0 c0_0_0, .int .i64 a0_1] 72 (0, 0))])]) (RdL p1_0 c1_0 a1.t.b)) (hn1_1 : n1_1 = (a1.t.f).length) (hr1_1 : RO w (hkeys [(0, [(m0, .cells #[.slice p0_0_0 n0_0_0 c0_0_0, .int .i64 a0_1] 72 (0, 0))])]) (RdL p1_1 c1_1 a1.t.f)) (hn1_2 : n1_2 = (a1.c).length) (hr1_2 : ROD w (hkeys [(0, [(m0, .cells #[.slice p0_0_0 n0_0_0 c0_0_0, .int .i64 a0_1] 72 (0, 0))])]) p1_2 c1_2 a1.c) (hM : Sat w (hkeys [(0, [(m0, .cells #[.slice p0_0_0 n0_0_0 c0_0_0, .int .i64 a0_1] 72 (0, 0))])]) w [(0, [(m0, .cells #[.slice p0_0_0 n0_0_0 c0_0_0, .int .i64 a0_1] 72 (0, 0))])]) (r : Sy × Int) (H0 : s_l8Wrong fl a0_0 a0_1 a1 = some r) :
  Ct Tryd.prog 16 [.pointer (some ⟨m0, 0, none⟩), .agg #[.slice p1_0 n1_0 c1_0, .slice p1_1 n1_1 c1_1, .slice p1_2 n1_2 c1_2]] w [(0, [(m0, .cells #[.slice p0_0_0 n0_0_0 c0_0_0, .int .i64 a0_1] 72 (0, 0))])] (fun rv h' => ∃ (x1 : Option Addr) (y1 z1 : Nat) (C1 : Res) (x2 : Option Addr) (y2 z2 : Nat) (C2 : Res) (x3 : Option Addr) (y3 z3 : Nat) (C3 : Res), rv = .agg #[.slice x1 y1 z1, .slice x2 y2 z2, .slice x3 y3 z3] ∧ h' = [(0, [(m0, .cells #[.slice p0_0_0 n0_0_0 c0_0_0, .int .i64 r.2] 72 (0, 0))]), (1, C1), (2, C2), (3, C3)] ∧ y1 = (r.1.t.b).length ∧ OwnC 3 x1 z1 r.1.t.b C1 ∧ y2 = (r.1.t.f).length ∧ OwnC 61 x2 z2 r.1.t.f C2 ∧ y3 = (r.1.c).length ∧ OwnD 43 53 x3 z3 r.1.c C3) := by
 subst hn0_0_0 hn1_0 hn1_1 hn1_2
 unfold s_l8Wrong at H0
 refine ct_of_cw Tryd.func16 rfl Tryd.ntmps16 rfl hM ?_
 refine sr (oE (stpU_box 1 rfl rfl) rfl ?_)
 rintro _ _ ⟨b1, rfl, rfl⟩
 refine oE (stpU_alloc 2 tz29 rfl) rfl ?_
 rintro _ _ ⟨b2, rfl, rfl⟩
 obtain ⟨x3, e3, H0⟩ := bS H0
 refine nn (sr (oB3 1 ts29 rfl (oE (stpU_call (fun i => 3 + i) cf36 (fun w hw => c_s_l8Copy fl w a1 rfl (RO.pass hr1_0 hw) rfl (RO.pass hr1_1 hw) rfl (ROD.pass hr1_2 hw) x3 e3) (yA rfl)) rfl ?_)))
 rintro _ _ ⟨_, ⟨p4, _, c6, C7, p8, _, c10, C11, p12, _, c14, C15, rfl, rfl, rfl, o7, rfl, o11, rfl, o15⟩, rfl⟩
 refine oE (stpU_alloc 6 tz29 rfl) rfl ?_
 rintro _ _ ⟨b16, rfl, rfl⟩
 refine oC3 6 ts29 rfl rfl (nn (cw_seq (sr (oA 2 Tryd.underlying29 rfl ts27 rfl (oL 6 ts27 rfl (oD (stp_len Tryd.underlying27 rfl) rfl (oQ rfl (nn (cw_cond rfl (fun h17 => ?_) (fun h17 => ?_))))))))))
 ·have H0 := cond_t H0 h17
  refine sr (oB3 6 ts29 rfl (oC3 2 ts29 rfl rfl (nn (cw_ret (kw_nx_ret ?_)))))
  obtain rfl := sI H0
  exact kr Tryd.results16 (rC3 2 ts29 rfl rfl) [0, 3, 4, 5] ⟨_, _, _, _, _, _, _, _, _, _, _, _, rfl, rfl, rfl, o7, rfl, o11, rfl, o15⟩
 have H0 := cond_f H0 h17
 obtain ⟨x18, e18, H0⟩ := bS H0
 refine cw_skip (kw_nx (sr (oM rfl (oA 2 Tryd.underlying29 rfl ts27 rfl (oL 6 ts27 rfl (oD (stp_len Tryd.underlying27 rfl) rfl (oE (stpU_callM (fun i => bif Nat.beq i 0 then 0 else 7 + i) cf14 (fun w hw hb => c_s_l12Rd_pick fl w m0 a0_0 a0_1 ((x3.c).length : Int) rfl (RO.passM hr0_0_0 hw hb) (hw.pass (js := [0]) ⟨0, [], rfl, rfl, trivial⟩ (by decide)) x18 e18) (yB rfl rfl) ⟨rfl, (fun _ _ hp => by obtain ⟨_, rfl⟩ := hp; exact ⟨_, rfl⟩), trivial⟩) rfl ?_)))))))
 rintro _ _ ⟨_, ⟨rfl, rfl⟩, rfl⟩
 obtain ⟨x19, e19, H0⟩ := bS H0
 refine oS rfl (nn (cw_seq (sr (oM rfl (oE (stpU_callM (fun i => bif Nat.beq i 0 then 0 else 8 + i) cf14 (fun w hw hb => c_s_l12Rd_pick fl w m0 a0_0 x18.2 24 rfl (RO.passM hr0_0_0 hw hb) (hw.pass (js := [0]) ⟨0, [], rfl, rfl, trivial⟩ (by decide)) x19 e19) (yB rfl rfl) ⟨rfl, (fun _ _ hp => by obtain ⟨_, rfl⟩ := hp; exact ⟨_, rfl⟩), trivial⟩) rfl ?_)))))
 rintro _ _ ⟨_, ⟨rfl, rfl⟩, rfl⟩
 refine nn (cw_block (sr (oQ rfl (oS rfl (nn (cw_cond rfl (fun h20 => ?_) (fun h20 => ?_)))))))
 ·have H0 := cond_t H0 h20
  obtain ⟨x21, e21, H0⟩ := bS H0
  refine cw_open 5 9 10 11 rfl o15 e21 ?_
  rintro u22 p23 n24 c25 p26 n27 c28 C29 C30 C31 C32 o29 hb30 hx22 rfl o31 rfl o32
  obtain ⟨x33, e33, H0⟩ := bS H0
  obtain ⟨x34, e34, H0⟩ := bS H0
  obtain ⟨x37, e37, H0⟩ := bS H0
  refine rdq g_mixed [0, 5, 6] [0, 5, 6, 10] { dst := dS [24, 25, 26, 27, 28, 29, 30, 31, 32, 33, 34, 35, 36, 37, 38, 39, 40, 41, 0], pre := gA [] [[], [0], [], [], [3], [], [3, 4, 5], rn 3 4, rn 3 5, [], [9], [], [9, 10, 11], rn 9 4, rn 9 5, rn 3 12, rn 0 16, rn 0 17, rn 0 18], ids := gA [] [[], [], [], [], [], [], [], [], [], [], [0], [], [0], [], [14], [10], [], [], [5, 10]], rs := rL [[(5, 0)], [(23, 1)], [(6, 0)], [(5, 0)], [(26, 4)], [(6, 0)], [(27, 5), (28, 6)], [(29, 7)], [(30, 8)], [(0, 0)], [(32, 10)], [(0, 0)], [(34, 12)], [(33, 11), (35, 13)], [(36, 14)], [(31, 9), (37, 15)], [(24, 2), (25, 3)], [(39, 17)], [(40, 18), (38, 16)]], rh := rL [[], [(6, 0)], [], [], [(6, 0)], [], [(5, 0)], [], [(5, 0)], [], [(0, 0)], [], [(0, 11)], [], [], [(10, 0), (14, 15)], [(5, 0)], [], [(5, 0), (10, 16)]], V := fun i g => gA undef [.pointer (some ⟨b16, 2, none⟩), .slice p12 ((x3.c).length) c14, .int .i64 x18.1, .pointer (some ⟨b16, 2, none⟩), .slice p12 ((x3.c).length) c14, .int .i64 x18.1, .pointer (some ⟨eB p12, eO p12 + Int.toNat x18.1 * Enc.sz CpS + 0, none⟩), .pointer (some ⟨eB p12, eO p12 + Int.toNat x18.1 * Enc.sz CpS + 0, none⟩), .slice p23 ((x21.n).length) c25, .pointer (some ⟨m0, 0, none⟩), .agg #[.int .i64 x33.1.s, .int .i64 x33.1.p], .pointer (some ⟨m0, 0, none⟩), .int .i64 x34.1, .agg #[.int .i64 x33.1.s, .int .i64 x33.1.p, .int .i64 x34.1], .slice ((g 14).A 0) 1 1, .slice ((g 15).A 0) ((x37).length) ((g 15).C 0), .pointer (some ⟨eB p12, eO p12 + Int.toNat x18.1 * Enc.sz CpS + 0, none⟩), .pointer (some ⟨eB p12, eO p12 + Int.toNat x18.1 * Enc.sz CpS + 0, none⟩)] i, U := fun i g => match i with | 10 => [(0, [(m0, .cells #[.slice p0_0_0 ((a0_0).length) c0_0_0, .int .i64 x33.2] 72 (0, 0))])] | 12 => [(0, [(m0, .cells #[.slice p0_0_0 ((a0_0).length) c0_0_0, .int .i64 x34.2] 72 (0, 0))])] | 14 => [(14, ((g 14).R 0))] | 15 => [(10, ((g 15).R 0))] | 18 => [(5, ((g 18).R 0)), (10, ((g 18).R 1))] | _ => [], Φ := fun i x => match i with | 14 => OwnC (α := Nt) 53 (x.A 0) 1 ([(⟨x33.1, x34.1⟩ : Nt)]) (x.R 0) | 15 => OwnC 53 (x.A 0) (x.C 0) x37 (x.R 0) | 18 => OwnC (α := CpS) 43 p12 c14 (u22.set (Int.toNat x18.1) (⟨(x.A 0), (x37).length, (x.C 0), p26, (x21.w).length, c28⟩ : CpS)) (x.R 0) ∧ OwnC 53 (x.A 0) (x.C 0) x37 (x.R 1) | _ => True } ?_ ?_
  ·refine ⟨lc rfl rfl fun hs hh => stp_fieldAddr (j := 2) Tryd.underlying29 rfl ts27 rfl (sv hs 5 rfl) rfl, lc rfl rfl fun hs hh => stp_load1 ts27 (sv hs 23 rfl) (Cells.box (id := 6) (hh.get 6 _ rfl) 1 rfl), lM, lc rfl rfl fun hs hh => stp_fieldAddr (j := 2) Tryd.underlying29 rfl ts27 rfl (sv hs 5 rfl) rfl, lc rfl rfl fun hs hh => stp_load1 ts27 (sv hs 26 rfl) (Cells.box (id := 6) (hh.get 6 _ rfl) 1 rfl), lM, lc rfl rfl fun hs hh => stp_indexAddr Tryd.underlying27 ts43 (by decide) (sv hs 27 rfl) (Bun.len hb30) (sv hs 28 rfl) (Rdb.own (id := 5) (hh.get 5 _ rfl) o29) hx22, lc rfl rfl fun hs hh => stp_fieldAddr (j := 0) Tryd.underlying43 rfl ts41 rfl (sv hs 29 rfl) rfl, lc rfl rfl fun hs hh => stp_load1 ts41 (sv hs 30 rfl) (Cells.el (Rdb.own (id := 5) (hh.get 5 _ rfl) o29) (by decide) hx22 0 1 rfl), lM, ?_, lM, ?_, lc rfl rfl fun hs hh => stp_build (cs := #[.int .i64 x33.1.s, .int .i64 x33.1.p, .int .i64 x34.1]) (sevp_cons (sv hs 33 rfl) (sevp_cons (sv hs 35 rfl) sevp_nil)) bt53_9, ?_, ?_, lc rfl rfl fun hs hh => stp_indexAddr Tryd.underlying27 ts43 (by decide) (sv hs 24 rfl) (Bun.len hb30) (sv hs 25 rfl) (Rdb.own (id := 5) (hh.get 5 _ rfl) o29) hx22, lc rfl rfl fun hs hh => stp_fieldAddr (j := 0) Tryd.underlying43 rfl ts41 rfl (sv hs 39 rfl) rfl, ?_, trivial⟩
   ·refine le rfl rfl (fun g hΦ s h hs hh => (stpU_callM (fun i => bif Nat.beq i 0 then 0 else 12 + i) cf43 (fun w hw hb => c_s_l2Draw fl w m0 a0_0 x19.2 rfl (RO.passM hr0_0_0 hw hb) (hw.pass (js := [0]) ⟨0, [], rfl, (hh.get 0 _ rfl), trivial⟩ (by decide)) x33 e33) (yA (sv hs 32 rfl)) ⟨(hh.get 0 _ rfl), (fun _ _ hp => by obtain ⟨_, rfl⟩ := hp; exact ⟨_, rfl⟩), trivial⟩)) ?_
    rintro g _ _ ⟨_, ⟨rfl, rfl⟩, rfl⟩
    exact ⟨⟨[], [], []⟩, trivial, .inr rfl, rfl⟩
   ·refine le rfl rfl (fun g hΦ s h hs hh => (stpU_callM (fun i => bif Nat.beq i 0 then 0 else 13 + i) cf14 (fun w hw hb => c_s_l12Rd_pick fl w m0 a0_0 x33.2 4 rfl (RO.passM hr0_0_0 hw hb) (hw.pass (js := [0]) ⟨0, [], rfl, (hh.get 0 _ rfl), trivial⟩ (by decide)) x34 e34) (yB (sv hs 34 rfl) rfl) ⟨(hh.get 0 _ rfl), (fun _ _ hp => by obtain ⟨_, rfl⟩ := hp; exact ⟨_, rfl⟩), trivial⟩)) ?_
    rintro g _ _ ⟨_, ⟨rfl, rfl⟩, rfl⟩
    exact ⟨⟨[], [], []⟩, trivial, .inr rfl, rfl⟩
   ·refine le rfl rfl (fun g hΦ s h hs hh => (stpU_lit (sz := 3) (l := [(⟨x33.1, x34.1⟩ : Nt)]) [.agg #[.int .i64 x33.1.s, .int .i64 x33.1.p, .int .i64 x34.1]] sl41 14 (sevp_cons (sv hs 36 rfl) sevp_nil) rfl rfl rfl rfl rfl rfl rfl rfl rfl)) ?_
    rintro g _ _ ⟨p35, C36, rfl, rfl, o36⟩
    exact ⟨⟨[p35], [], [C36]⟩, o36, .inr rfl, rfl⟩
   ·refine le rfl rfl (fun g hΦ s h hs hh => (stpU_append sl41 rfl (id := 10) (sv hs 31 rfl) rfl (sv hs 37 rfl) (by simp) (hh.get 10 _ rfl) o31 (Rdb.own (id := 14) (hh.get 14 _ rfl) (hΦ 14 rfl)) e37)) ?_
    rintro g _ _ ⟨p38, c39, C40, rfl, rfl, o40⟩
    exact ⟨⟨[p38], [c39], [C40]⟩, o40, .inr rfl, rfl⟩
   refine le rfl rfl (fun g hΦ s h hs hh => (stpU_keep (hh.get 10 _ rfl) (stpU_storeEl (id := 5) (i := 0) (⟨((g 15).A 0), (x37).length, ((g 15).C 0), p26, (x21.w).length, c28⟩ : CpS) (by decide) ts41 (sv hs 40 rfl) (sv hs 38 rfl) (hh.get 5 _ rfl) o29 hx22 rfl rfl rfl rfl) (by rintro _ _ ⟨_, rfl, _⟩; rfl) (hΦ 15 rfl))) ?_
   rintro g _ _ ⟨_, ⟨C41, rfl, o41⟩, rfl, o44⟩
   exact ⟨⟨[((g 15).A 0)], [((g 15).C 0)], [C41, ((g 15).R 0)]⟩, ⟨o41, o44⟩, .inl rfl, rfl⟩
  intro g hΦ
  refine kw_gen (ι := Option Addr × Res × Option Addr × Nat × Res × Option Addr × Nat × Res × Res) (((g 14).A 0), ((g 14).R 0), ((g 15).A 0), ((g 15).C 0), ((g 15).R 0), ((g 18).A 0), ((g 18).C 0), ((g 18).R 0), ((g 18).R 1)) (fun | (p35, C36, p38, c39, C40, p42, c43, C41, C44) => OwnC (α := Nt) 53 p35 1 ([(⟨x33.1, x34.1⟩ : Nt)]) C36 ∧ OwnC 53 p38 c39 x37 C40 ∧ OwnC (α := CpS) 43 p12 c14 (u22.set (Int.toNat x18.1) (⟨p42, (x37).length, c43, p26, (x21.w).length, c28⟩ : CpS)) C41 ∧ OwnC 53 p42 c43 x37 C44) (fun | (p35, C36, p38, c39, C40, p42, c43, C41, C44) => [(4, .pointer (some ⟨b2, 0, none⟩)), (5, .pointer (some ⟨b16, 0, none⟩))]) (fun | (p35, C36, p38, c39, C40, p42, c43, C41, C44) => [(0, [(m0, .cells #[.slice p0_0_0 ((a0_0).length) c0_0_0, .int .i64 x34.2] 72 (0, 0))]), (2, [(b2, .cells #[.slice none 0 0, .slice none 0 0, .slice none 0 0] 29 (0, 0))]), (3, C7), (4, C11), (5, C41), (6, [(b16, .cells #[.slice p4 ((x3.t.b).length) c6, .slice p8 ((x3.t.f).length) c10, .slice p12 ((x3.c).length) c14] 29 (0, 0))]), (9, C30), (10, C44), (11, C32)]) ⟨(hΦ 14 (by decide)), (hΦ 15 (by decide)), (hΦ 18 (by decide)).1, (hΦ 18 (by decide)).2⟩ ⟨rfl, rfl, trivial⟩ ⟨rfl, rfl, rfl, rfl, rfl, rfl, rfl, rfl, rfl, trivial⟩ ?_
  rintro ⟨p35, C36, p38, c39, C40, p42, c43, C41, C44⟩ ⟨o36, o40, o41, o44⟩
  dsimp only
  refine kw_bl_normal (kw_nx (sr (oB3 6 ts29 rfl (oC3 2 ts29 rfl rfl (nn (cw_ret (kw_shut 5 9 10 11 o41 (Bun.setL (Bun.set hb30 _) _) (idx_some (idx_set hx22)).2.2 (idx_setD e21 (⟨x37, x21.w⟩ : Cp)) rfl o44 rfl o32 ?_)))))))
  rintro C45 o45
  obtain rfl := sI H0
  exact kr Tryd.results16 (rC3 2 ts29 rfl rfl) [0, 3, 4, 5] ⟨_, _, _, _, _, _, _, _, _, _, _, _, rfl, rfl, rfl, o7, rfl, o11, (by simp), o45⟩
 have H0 := cond_f H0 h20
 refine sr (oQ rfl (oS rfl (nn (cw_cond rfl (fun h46 => ?_) (fun h46 => ?_)))))
 ·have H0 := cond_t H0 h46
  obtain ⟨x47, e47, H0⟩ := bS H0
  refine cw_open 5 15 16 17 rfl o15 e47 ?_
  rintro u48 p49 n50 c51 p52 n53 c54 C55 C56 C57 C58 o55 hb56 hx48 rfl o57 rfl o58
  obtain ⟨x59, e59, H0⟩ := bS H0
  obtain ⟨x60, e60, H0⟩ := bS H0
  obtain ⟨x63, e63, H0⟩ := bS H0
  refine rdq g_mixed [0, 5, 6] [0, 5, 6, 17] { dst := dS [44, 45, 46, 47, 48, 49, 50, 51, 52, 53, 54, 55, 56, 57, 58, 59, 60, 61, 0], pre := gA [] [[], [0], [], [], [3], [], [3, 4, 5], rn 3 4, rn 3 5, [], [9], [], [9, 10, 11], rn 9 4, rn 9 5, rn 3 12, rn 0 16, rn 0 17, rn 0 18], ids := gA [] [[], [], [], [], [], [], [], [], [], [], [0], [], [0], [], [20], [17], [], [], [5, 17]], rs := rL [[(5, 0)], [(43, 1)], [(6, 0)], [(5, 0)], [(46, 4)], [(6, 0)], [(47, 5), (48, 6)], [(49, 7)], [(50, 8)], [(0, 0)], [(52, 10)], [(0, 0)], [(54, 12)], [(53, 11), (55, 13)], [(56, 14)], [(51, 9), (57, 15)], [(44, 2), (45, 3)], [(59, 17)], [(60, 18), (58, 16)]], rh := rL [[], [(6, 0)], [], [], [(6, 0)], [], [(5, 0)], [], [(5, 0)], [], [(0, 0)], [], [(0, 11)], [], [], [(17, 0), (20, 15)], [(5, 0)], [], [(5, 0), (17, 16)]], V := fun i g => gA undef [.pointer (some ⟨b16, 2, none⟩), .slice p12 ((x3.c).length) c14, .int .i64 x18.1, .pointer (some ⟨b16, 2, none⟩), .slice p12 ((x3.c).length) c14, .int .i64 x18.1, .pointer (some ⟨eB p12, eO p12 + Int.toNat x18.1 * Enc.sz CpS + 0, none⟩), .pointer (some ⟨eB p12, eO p12 + Int.toNat x18.1 * Enc.sz CpS + 1, none⟩), .slice p52 ((x47.w).length) c54, .pointer (some ⟨m0, 0, none⟩), .agg #[.int .i64 x59.1.s, .int .i64 x59.1.p], .pointer (some ⟨m0, 0, none⟩), .int .i64 x60.1, .agg #[.int .i64 x59.1.s, .int .i64 x59.1.p, .int .i64 x60.1], .slice ((g 14).A 0) 1 1, .slice ((g 15).A 0) ((x63).length) ((g 15).C 0), .pointer (some ⟨eB p12, eO p12 + Int.toNat x18.1 * Enc.sz CpS + 0, none⟩), .pointer (some ⟨eB p12, eO p12 + Int.toNat x18.1 * Enc.sz CpS + 1, none⟩)] i, U := fun i g => match i with | 10 => [(0, [(m0, .cells #[.slice p0_0_0 ((a0_0).length) c0_0_0, .int .i64 x59.2] 72 (0, 0))])] | 12 => [(0, [(m0, .cells #[.slice p0_0_0 ((a0_0).length) c0_0_0, .int .i64 x60.2] 72 (0, 0))])] | 14 => [(20, ((g 14).R 0))] | 15 => [(17, ((g 15).R 0))] | 18 => [(5, ((g 18).R 0)), (17, ((g 18).R 1))] | _ => [], Φ := fun i x => match i with | 14 => OwnC (α := Nt) 53 (x.A 0) 1 ([(⟨x59.1, x60.1⟩ : Nt)]) (x.R 0) | 15 => OwnC 53 (x.A 0) (x.C 0) x63 (x.R 0) | 18 => OwnC (α := CpS) 43 p12 c14 (u48.set (Int.toNat x18.1) (⟨p49, (x47.n).length, c51, (x.A 0), (x63).length, (x.C 0)⟩ : CpS)) (x.R 0) ∧ OwnC 53 (x.A 0) (x.C 0) x63 (x.R 1) | _ => True } ?_ ?_
  ·refine ⟨lc rfl rfl fun hs hh => stp_fieldAddr (j := 2) Tryd.underlying29 rfl ts27 rfl (sv hs 5 rfl) rfl, lc rfl rfl fun hs hh => stp_load1 ts27 (sv hs 43 rfl) (Cells.box (id := 6) (hh.get 6 _ rfl) 1 rfl), lM, lc rfl rfl fun hs hh => stp_fieldAddr (j := 2) Tryd.underlying29 rfl ts27 rfl (sv hs 5 rfl) rfl, lc rfl rfl fun hs hh => stp_load1 ts27 (sv hs 46 rfl) (Cells.box (id := 6) (hh.get 6 _ rfl) 1 rfl), lM, lc rfl rfl fun hs hh => stp_indexAddr Tryd.underlying27 ts43 (by decide) (sv hs 47 rfl) (Bun.len hb56) (sv hs 48 rfl) (Rdb.own (id := 5) (hh.get 5 _ rfl) o55) hx48, lc rfl rfl fun hs hh => stp_fieldAddr (j := 1) Tryd.underlying43 rfl ts41 rfl (sv hs 49 rfl) rfl, lc rfl rfl fun hs hh => stp_load1 ts41 (sv hs 50 rfl) (Cells.el (Rdb.own (id := 5) (hh.get 5 _ rfl) o55) (by decide) hx48 1 1 rfl), lM, ?_, lM, ?_, lc rfl rfl fun hs hh => stp_build (cs := #[.int .i64 x59.1.s, .int .i64 x59.1.p, .int .i64 x60.1]) (sevp_cons (sv hs 53 rfl) (sevp_cons (sv hs 55 rfl) sevp_nil)) bt53_9, ?_, ?_, lc rfl rfl fun hs hh => stp_indexAddr Tryd.underlying27 ts43 (by decide) (sv hs 44 rfl) (Bun.len hb56) (sv hs 45 rfl) (Rdb.own (id := 5) (hh.get 5 _ rfl) o55) hx48, lc rfl rfl fun hs hh => stp_fieldAddr (j := 1) Tryd.underlying43 rfl ts41 rfl (sv hs 59 rfl) rfl, ?_, trivial⟩
   ·refine le rfl rfl (fun g hΦ s h hs hh => (stpU_callM (fun i => bif Nat.beq i 0 then 0 else 18 + i) cf43 (fun w hw hb => c_s_l2Draw fl w m0 a0_0 x19.2 rfl (RO.passM hr0_0_0 hw hb) (hw.pass (js := [0]) ⟨0, [], rfl, (hh.get 0 _ rfl), trivial⟩ (by decide)) x59 e59) (yA (sv hs 52 rfl)) ⟨(hh.get 0 _ rfl), (fun _ _ hp => by obtain ⟨_, rfl⟩ := hp; exact ⟨_, rfl⟩), trivial⟩)) ?_
    rintro g _ _ ⟨_, ⟨rfl, rfl⟩, rfl⟩
    exact ⟨⟨[], [], []⟩, trivial, .inr rfl, rfl⟩
   ·refine le rfl rfl (fun g hΦ s h hs hh => (stpU_callM (fun i => bif Nat.beq i 0 then 0 else 19 + i) cf14 (fun w hw hb => c_s_l12Rd_pick fl w m0 a0_0 x59.2 4 rfl (RO.passM hr0_0_0 hw hb) (hw.pass (js := [0]) ⟨0, [], rfl, (hh.get 0 _ rfl), trivial⟩ (by decide)) x60 e60) (yB (sv hs 54 rfl) rfl) ⟨(hh.get 0 _ rfl), (fun _ _ hp => by obtain ⟨_, rfl⟩ := hp; exact ⟨_, rfl⟩), trivial⟩)) ?_
    rintro g _ _ ⟨_, ⟨rfl, rfl⟩, rfl⟩
    exact ⟨⟨[], [], []⟩, trivial, .inr rfl, rfl⟩
   ·refine le rfl rfl (fun g hΦ s h hs hh => (stpU_lit (sz := 3) (l := [(⟨x59.1, x60.1⟩ : Nt)]) [.agg #[.int .i64 x59.1.s, .int .i64 x59.1.p, .int .i64 x60.1]] sl41 20 (sevp_cons (sv hs 56 rfl) sevp_nil) rfl rfl rfl rfl rfl rfl rfl rfl rfl)) ?_
    rintro g _ _ ⟨p61, C62, rfl, rfl, o62⟩
    exact ⟨⟨[p61], [], [C62]⟩, o62, .inr rfl, rfl⟩
   ·refine le rfl rfl (fun g hΦ s h hs hh => (stpU_append sl41 rfl (id := 17) (sv hs 51 rfl) rfl (sv hs 57 rfl) (by simp) (hh.get 17 _ rfl) o58 (Rdb.own (id := 20) (hh.get 20 _ rfl) (hΦ 14 rfl)) e63)) ?_
    rintro g _ _ ⟨p64, c65, C66, rfl, rfl, o66⟩
    exact ⟨⟨[p64], [c65], [C66]⟩, o66, .inr rfl, rfl⟩
   refine le rfl rfl (fun g hΦ s h hs hh => (stpU_keep (hh.get 17 _ rfl) (stpU_storeEl (id := 5) (i := 1) (⟨p49, (x47.n).length, c51, ((g 15).A 0), (x63).length, ((g 15).C 0)⟩ : CpS) (by decide) ts41 (sv hs 60 rfl) (sv hs 58 rfl) (hh.get 5 _ rfl) o55 hx48 rfl rfl rfl rfl) (by rintro _ _ ⟨_, rfl, _⟩; rfl) (hΦ 15 rfl))) ?_
   rintro g _ _ ⟨_, ⟨C67, rfl, o67⟩, rfl, o70⟩
   exact ⟨⟨[((g 15).A 0)], [((g 15).C 0)], [C67, ((g 15).R 0)]⟩, ⟨o67, o70⟩, .inl rfl, rfl⟩
  intro g hΦ
  refine kw_gen (ι := Option Addr × Res × Option Addr × Nat × Res × Option Addr × Nat × Res × Res) (((g 14).A 0), ((g 14).R 0), ((g 15).A 0), ((g 15).C 0), ((g 15).R 0), ((g 18).A 0), ((g 18).C 0), ((g 18).R 0), ((g 18).R 1)) (fun | (p61, C62, p64, c65, C66, p68, c69, C67, C70) => OwnC (α := Nt) 53 p61 1 ([(⟨x59.1, x60.1⟩ : Nt)]) C62 ∧ OwnC 53 p64 c65 x63 C66 ∧ OwnC (α := CpS) 43 p12 c14 (u48.set (Int.toNat x18.1) (⟨p49, (x47.n).length, c51, p68, (x63).length, c69⟩ : CpS)) C67 ∧ OwnC 53 p68 c69 x63 C70) (fun | (p61, C62, p64, c65, C66, p68, c69, C67, C70) => [(4, .pointer (some ⟨b2, 0, none⟩)), (5, .pointer (some ⟨b16, 0, none⟩))]) (fun | (p61, C62, p64, c65, C66, p68, c69, C67, C70) => [(0, [(m0, .cells #[.slice p0_0_0 ((a0_0).length) c0_0_0, .int .i64 x60.2] 72 (0, 0))]), (2, [(b2, .cells #[.slice none 0 0, .slice none 0 0, .slice none 0 0] 29 (0, 0))]), (3, C7), (4, C11), (5, C67), (6, [(b16, .cells #[.slice p4 ((x3.t.b).length) c6, .slice p8 ((x3.t.f).length) c10, .slice p12 ((x3.c).length) c14] 29 (0, 0))]), (15, C56), (16, C57), (17, C70)]) ⟨(hΦ 14 (by decide)), (hΦ 15 (by decide)), (hΦ 18 (by decide)).1, (hΦ 18 (by decide)).2⟩ ⟨rfl, rfl, trivial⟩ ⟨rfl, rfl, rfl, rfl, rfl, rfl, rfl, rfl, rfl, trivial⟩ ?_
  rintro ⟨p61, C62, p64, c65, C66, p68, c69, C67, C70⟩ ⟨o62, o66, o67, o70⟩
  dsimp only
  refine kw_bl_normal (kw_nx (sr (oB3 6 ts29 rfl (oC3 2 ts29 rfl rfl (nn (cw_ret (kw_shut 5 15 16 17 o67 (Bun.setL (Bun.set hb56 _) _) (idx_some (idx_set hx48)).2.2 (idx_setD e47 (⟨x47.n, x63⟩ : Cp)) rfl o57 rfl o70 ?_)))))))
  rintro C71 o71
  obtain rfl := sI H0
  exact kr Tryd.results16 (rC3 2 ts29 rfl rfl) [0, 3, 4, 5] ⟨_, _, _, _, _, _, _, _, _, _, _, _, rfl, rfl, rfl, o7, rfl, o11, (by simp), o71⟩
 have H0 := cond_f H0 h46
 refine sr (oQ rfl (oS rfl (nn (cw_cond rfl (fun h72 => ?_) (fun h72 => ?_)))))
 ·have H0 := cond_t H0 h72
  obtain ⟨x73, e73, H0⟩ := bS H0
  refine cw_region (oM rfl (oM rfl (oA 0 Tryd.underlying29 rfl ts26 rfl (oB2 6 ts26 rfl (oE (stpU_callM (fun i => bif Nat.beq i 0 then 0 else 21 + i) cf47 (fun w hw hb => c_s_l3Wrong fl w m0 a0_0 x19.2 x3.t rfl (RO.passM hr0_0_0 hw hb) rfl (OwnC.passM (id := 3) rfl o7 hw hb ⟨rfl, trivial⟩) rfl (OwnC.passM (id := 4) rfl o11 hw hb ⟨rfl, trivial⟩) (hw.pass (js := [0]) ⟨0, [], rfl, rfl, trivial⟩ (by decide)) x73 e73) (yB rfl rfl) ⟨rfl, (fun _ _ hp => by obtain ⟨_, _, _, _, _, _, _, _, _, rfl, _⟩ := hp; exact ⟨_, rfl⟩), trivial⟩) rfl ?_)))))
  rintro _ _ ⟨_, ⟨p74, _, c76, C77, p78, _, c80, C81, rfl, rfl, rfl, o77, rfl, o81⟩, rfl⟩
  obtain ⟨x82, e82, H0⟩ := bS H0
  refine oE (stpU_callM (fun i => bif Nat.beq i 0 then 0 else 24 + i) cf47 (fun w hw hb => c_s_l3Wrong fl w m0 a0_0 x73.2 x73.1 rfl (RO.passM hr0_0_0 hw hb) rfl (OwnC.passM (id := 22) rfl o77 hw hb ⟨rfl, trivial⟩) rfl (OwnC.passM (id := 23) rfl o81 hw hb ⟨rfl, trivial⟩) (hw.pass (js := [0]) ⟨0, [], rfl, rfl, trivial⟩ (by decide)) x82 e82) (yB rfl rfl) ⟨rfl, (fun _ _ hp => by obtain ⟨_, _, _, _, _, _, _, _, _, rfl, _⟩ := hp; exact ⟨_, rfl⟩), trivial⟩) rfl ?_
  rintro _ _ ⟨_, ⟨p83, _, c85, C86, p87, _, c89, C90, rfl, rfl, rfl, o86, rfl, o90⟩, rfl⟩
  refine oA 0 Tryd.underlying29 rfl ts26 rfl (oC3 6 ts26 rfl rfl (ow_nil (kw_bl_normal (kw_nx (sr (oB3 6 ts29 rfl (oC3 2 ts29 rfl rfl (nn (cw_ret ?_)))))))))
  obtain rfl := sI H0
  exact kr Tryd.results16 (rC3 2 ts29 rfl rfl) [0, 25, 26, 5] ⟨_, _, _, _, _, _, _, _, _, _, _, _, rfl, rfl, rfl, o86, rfl, o90, rfl, o15⟩
 have H0 := cond_f H0 h72
 refine sr (oQ rfl (oS rfl (nn (cw_cond rfl (fun h91 => ?_) (fun h91 => ?_)))))
 ·have H0 := cond_t H0 h91
  refine cw_region (oE (stpU_lit0D 53 sl27 27) rfl ?_)
  rintro _ _ ⟨p92, C93, rfl, rfl, o93⟩
  refine oA 2 Tryd.underlying29 rfl ts27 rfl (oC3 6 ts27 rfl rfl (ow_nil (kw_bl_normal (kw_nx (sr (oB3 6 ts29 rfl (oC3 2 ts29 rfl rfl (nn (cw_ret ?_)))))))))
  obtain rfl := sI H0
  exact kr Tryd.results16 (rC3 2 ts29 rfl rfl) [0, 3, 4, 27] ⟨_, _, _, _, _, _, _, _, _, _, _, _, rfl, rfl, rfl, o7, rfl, o11, (by simp), o93⟩
 have H0 := cond_f H0 h91
 refine cw_skip (kw_bl_normal (kw_nx (sr (oB3 6 ts29 rfl (oC3 2 ts29 rfl rfl (nn (cw_ret ?_)))))))
 obtain rfl := sI H0
 exact kr Tryd.results16 (rC3 2 ts29 rfl rfl) [0, 3, 4, 5] ⟨_, _, _, _, _, _, _, _, _, _, _, _, rfl, rfl, rfl, o7, rfl, o11, rfl, o15⟩

theorem c_s_DrawSystemSame (fl : Nat) (w : World) (a0 : (List UInt8)) (hn0_0 : n0_0 = (a0).length) (hr0_0 : RO w (hkeys []) (RdL p0_0 c0_0 a0)) (r : Sy × Sy) (H0 : s_DrawSystemSame fl a0 = some r) :
  Ct Tryd.prog 5 [.slice p0_0 n0_0 c0_0] w [] (fun rv h' => ∃ (x0 : Option Addr) (y0 z0 : Nat) (C0 : Res) (x1 : Option Addr) (y1 z1 : Nat) (C1 : Res) (x2 : Option Addr) (y2 z2 : Nat) (C2 : Res) (x3 : Option Addr) (y3 z3 : Nat) (C3 : Res) (x4 : Option Addr) (y4 z4 : Nat) (C4 : Res) (x5 : Option Addr) (y5 z5 : Nat) (C5 : Res), rv = .tuple #[.agg #[.slice x0 y0 z0, .slice x1 y1 z1, .slice x2 y2 z2], .agg #[.slice x3 y3 z3, .slice x4 y4 z4, .slice x5 y5 z5]] ∧ h' = [(0, C0), (1, C1), (2, C2), (3, C3), (4, C4), (5, C5)] ∧ y0 = (r.1.t.b).length ∧ OwnC 3 x0 z0 r.1.t.b C0 ∧ y1 = (r.1.t.f).length ∧ OwnC 61 x1 z1 r.1.t.f C1 ∧ y2 = (r.1.c).length ∧ OwnD 43 53 x2 z2 r.1.c C2 ∧ y3 = (r.2.t.b).length ∧ y4 = (r.2.t.f).length ∧ y5 = (r.2.c).length ∧ ShS 3 61 43 53 x3 z3 x4 z4 x5 z5 r.2 C3 C4 C5 x0 z0 x1 z1 x2 z2 r.1) := by
 subst hn0_0
 unfold s_DrawSystemSame at H0
 refine ct_of_cw Tryd.func5 rfl Tryd.ntmps5 rfl (Sat.refl _ _) ?_
 refine sr (oE (stpU_alloc 0 tz29 rfl) rfl ?_)
 rintro _ _ ⟨b1, rfl, rfl⟩
 refine oE (stpU_alloc 1 tz29 rfl) rfl ?_
 rintro _ _ ⟨b2, rfl, rfl⟩
 refine nn (sr (oM rfl (oE (stpU_call (fun i => 2 + i) cf12 (fun w hw => c_open12 w a0 p0_0 ((a0).length) c0_0 rfl (RO.cap hr0_0).1) (yA rfl)) rfl ?_)))
 rintro _ _ ⟨_, ⟨b3, rfl, rfl⟩, rfl⟩
 obtain ⟨x4, e4, H0⟩ := bS H0
 refine oS rfl (nn (sr (oM rfl (oE (stpU_callM (fun i => bif Nat.beq i 0 then 2 else 3 + i) cf13 (fun w hw hb => c_s_l8Draw fl w b3 (a0.take 2000) 0 rfl (RO.passM (RO.takeN 2000 hr0_0) hw hb) (hw.pass (js := [2]) ⟨2, [], rfl, rfl, trivial⟩ (by decide)) x4 e4) (yA rfl) ⟨rfl, (fun _ _ hp => by obtain ⟨_, _, _, _, _, _, _, _, _, _, _, _, _, rfl, _⟩ := hp; exact ⟨_, rfl⟩), trivial⟩) rfl ?_))))
 rintro _ _ ⟨_, ⟨p5, _, c7, C8, p9, _, c11, C12, p13, _, c15, C16, rfl, rfl, rfl, o8, rfl, o12, rfl, o16⟩, rfl⟩
 refine oE (stpU_alloc 7 tz29 rfl) rfl ?_
 rintro _ _ ⟨b17, rfl, rfl⟩
 obtain ⟨x18, e18, H0⟩ := bS H0
 refine oC3 7 ts29 rfl rfl (nn (cw_seq (sr (oM rfl (oE (stpU_callM (fun i => bif Nat.beq i 0 then 2 else 8 + i) cf14 (fun w hw hb => c_s_l12Rd_pick fl w b3 (a0.take 2000) x4.2 3 rfl (RO.passM (RO.takeN 2000 hr0_0) hw hb) (hw.pass (js := [2]) ⟨2, [], rfl, rfl, trivial⟩ (by decide)) x18 e18) (yB rfl rfl) ⟨rfl, (fun _ _ hp => by obtain ⟨_, rfl⟩ := hp; exact ⟨_, rfl⟩), trivial⟩) rfl ?_)))))
 rintro _ _ ⟨_, ⟨rfl, rfl⟩, rfl⟩
 refine oQ rfl (nn (cw_cond rfl (fun h19 => ?_) (fun h19 => ?_)))
 ·have H0 := cond_t H0 h19
  obtain ⟨x20, e20, H0⟩ := bS H0
  obtain ⟨x33, e33, H0⟩ := bS H0
  refine cw_seq (rdq g_mixed [2, 3, 4, 5] [0, 1, 2, 4, 5, 6, 7] { dst := dS [14, 15, 16, 17, 18, 19, 0, 0], pre := gA [] [[], [], [], [], [2, 3], rn 1 4, rn 0 6, rn 0 7], ids := gA [] [[], [], [], [], [2, 10, 11, 12], [2, 14, 15, 16, 10, 11, 12], [0], [1]], rs := rL [[(5, 0)], [(4, 0)], [(4, 0)], [(5, 0)], [(15, 3), (16, 4)], [(14, 2), (17, 5)], [(2, 0), (13, 1)], [(3, 0), (18, 6)]], rh := rL [[(7, 0)], [], [], [(7, 0)], [(2, 0), (4, 0), (5, 0), (6, 0)], [(2, 5), (10, 5), (11, 5), (12, 5), (4, 0), (5, 0), (6, 0)], [(0, 0)], [(1, 0)]], V := fun i g => gA undef [.agg #[.slice p5 ((x4.1.t.b).length) c7, .slice p9 ((x4.1.t.f).length) c11, .slice p13 ((x4.1.c).length) c15], .pointer (some ⟨b3, 0, none⟩), .pointer (some ⟨b3, 0, none⟩), .agg #[.slice p5 ((x4.1.t.b).length) c7, .slice p9 ((x4.1.t.f).length) c11, .slice p13 ((x4.1.c).length) c15], .agg #[.slice ((g 4).A 0) ((x20.1.t.b).length) ((g 4).C 0), .slice ((g 4).A 1) ((x20.1.t.f).length) ((g 4).C 1), .slice ((g 4).A 2) ((x20.1.c).length) ((g 4).C 2)], .agg #[.slice ((g 5).A 0) ((x33.1.t.b).length) ((g 5).C 0), .slice ((g 5).A 1) ((x33.1.t.f).length) ((g 5).C 1), .slice ((g 5).A 2) ((x33.1.c).length) ((g 5).C 2)]] i, U := fun i g => gA [] [[], [], [], [], [(2, [(b3, .cells #[.slice p0_0 (((a0.take 2000)).length) c0_0, .int .i64 x20.2] 72 (0, 0))]), (10, ((g 4).R 0)), (11, ((g 4).R 1)), (12, ((g 4).R 2))], [(2, [(b3, .cells #[.slice p0_0 (((a0.take 2000)).length) c0_0, .int .i64 x33.2] 72 (0, 0))]), (14, ((g 5).R 0)), (15, ((g 5).R 1)), (16, ((g 5).R 2)), (10, ((g 5).R 3)), (11, ((g 5).R 4)), (12, ((g 5).R 5))], [(0, [(b1, .cells #[.slice p5 ((x4.1.t.b).length) c7, .slice p9 ((x4.1.t.f).length) c11, .slice p13 ((x4.1.c).length) c15] 29 (0, 0))])], [(1, [(b2, .cells #[.slice ((g 5).A 0) ((x33.1.t.b).length) ((g 5).C 0), .slice ((g 5).A 1) ((x33.1.t.f).length) ((g 5).C 1), .slice ((g 5).A 2) ((x33.1.c).length) ((g 5).C 2)] 29 (0, 0))])]] i, Φ := fun i x => gA True [True, True, True, True, ShS 3 61 43 53 (x.A 0) (x.C 0) (x.A 1) (x.C 1) (x.A 2) (x.C 2) x20.1 (x.R 0) (x.R 1) (x.R 2) p5 c7 p9 c11 p13 c15 x4.1, Sh3 3 61 43 53 (x.A 0) (x.C 0) (x.A 1) (x.C 1) (x.A 2) (x.C 2) x33.1 (x.R 0) (x.R 1) (x.R 2) (x.R 3) (x.R 4) (x.R 5) p5 c7 p9 c11 p13 c15 x4.1] i } ?_ ?_)
  ·refine ⟨lc rfl rfl fun hs hh => stp_loadN (us := [_, _, _]) ts29 (sv hs 5 rfl) (Cells.box (id := 7) (hh.get 7 _ rfl) 3 rfl), lM, lM, lc rfl rfl fun hs hh => stp_loadN (us := [_, _, _]) ts29 (sv hs 5 rfl) (Cells.box (id := 7) (hh.get 7 _ rfl) 3 rfl), ?_, ?_, ?_, ?_, trivial⟩
   ·refine le rfl rfl (fun g hΦ s h hs hh => (stpU_callM (fun i => bif Nat.beq i 0 then 2 else 9 + i) cf15 (fun w hw hb => c_s_l8StepS fl w b3 (a0.take 2000) x18.2 x4.1 rfl (RO.passM (RO.takeN 2000 hr0_0) hw hb) rfl (OwnC.passM (id := 4) (hh.get 4 _ rfl) o8 hw hb ⟨rfl, trivial⟩) rfl (OwnC.passM (id := 5) (hh.get 5 _ rfl) o12 hw hb ⟨rfl, trivial⟩) rfl (OwnD.passM (id := 6) (hh.get 6 _ rfl) o16 hw hb ⟨rfl, trivial⟩) (hw.pass (js := [2]) ⟨2, [], rfl, (hh.get 2 _ rfl), trivial⟩ (by decide)) x20 e20) (yB (sv hs 15 rfl) (sv hs 16 rfl)) ⟨(hh.get 2 _ rfl), (fun _ _ hp => by obtain ⟨_, _, _, _, _, _, _, _, _, _, _, _, _, rfl, _⟩ := hp; exact ⟨_, rfl⟩), trivial⟩)) ?_
    rintro g _ _ ⟨_, ⟨p21, _, c23, C24, p25, _, c27, C28, p29, _, c31, C32, rfl, rfl, rfl, rfl, rfl, hSh⟩, rfl⟩
    exact ⟨⟨[p21, p25, p29], [c23, c27, c31], [C24, C28, C32]⟩, hSh, .inr rfl, rfl⟩
   ·refine le rfl rfl (fun g hΦ s h hs hh => (stpU_keep (hh.get 12 _ rfl) (stpU_keep (hh.get 11 _ rfl) (stpU_keep (hh.get 10 _ rfl) (stpU_callM (fun i => bif Nat.beq i 0 then 2 else 13 + i) cf15 (fun w hw hb => c_s_l8StepS fl w b3 (a0.take 2000) x20.2 x20.1 rfl (RO.passM (RO.takeN 2000 hr0_0) hw hb) rfl (ShS.m1 (id := 10) (id0 := 4) (hh.get 10 _ rfl) (hh.get 4 _ rfl) (hΦ 4 rfl) o8 hw hb ⟨rfl, trivial⟩ ⟨rfl, trivial⟩) rfl (ShS.m2 (id := 11) (id0 := 5) (hh.get 11 _ rfl) (hh.get 5 _ rfl) (hΦ 4 rfl) o12 hw hb ⟨rfl, trivial⟩ ⟨rfl, trivial⟩) rfl (ShS.m3 (id := 12) (id0 := 6) (hh.get 12 _ rfl) (hh.get 6 _ rfl) (hΦ 4 rfl) o16 hw hb ⟨rfl, trivial⟩ ⟨rfl, trivial⟩) (hw.pass (js := [2]) ⟨2, [], rfl, (hh.get 2 _ rfl), trivial⟩ (by decide)) x33 e33) (yB (sv hs 14 rfl) (sv hs 17 rfl)) ⟨(hh.get 2 _ rfl), (fun _ _ hp => by obtain ⟨_, _, _, _, _, _, _, _, _, _, _, _, _, rfl, _⟩ := hp; exact ⟨_, rfl⟩), trivial⟩) (by rintro _ _ ⟨_, ⟨_, _, _, _, _, _, _, _, _, _, _, _, rfl, rfl, _⟩, rfl⟩; rfl) trivial) (by rintro _ _ ⟨_, ⟨_, ⟨_, _, _, _, _, _, _, _, _, _, _, _, rfl, rfl, _⟩, rfl⟩, rfl, _⟩; rfl) trivial) (by rintro _ _ ⟨_, ⟨_, ⟨_, ⟨_, _, _, _, _, _, _, _, _, _, _, _, rfl, rfl, _⟩, rfl⟩, rfl, _⟩, rfl, _⟩; rfl) (hΦ 4 rfl))) ?_
    rintro g _ _ ⟨_, ⟨_, ⟨_, ⟨_, ⟨p34, _, c36, C37, p38, _, c40, C41, p42, _, c44, C45, rfl, rfl, rfl, rfl, rfl, hSh⟩, rfl⟩, rfl, -⟩, rfl, -⟩, rfl, hSt⟩
    exact ⟨⟨[p34, p38, p42], [c36, c40, c44], [C37, C41, C45, ((g 4).R 0), ((g 4).R 1), ((g 4).R 2)]⟩, ShS.trans hSh hSt, .inr rfl, rfl⟩
   ·refine le rfl rfl (fun g hΦ s h hs hh => (stpU_store (id := 0) (cs' := [.slice p5 ((x4.1.t.b).length) c7, .slice p9 ((x4.1.t.f).length) c11, .slice p13 ((x4.1.c).length) c15]) ts29 (sv hs 2 rfl) (sv hs 13 rfl) (hh.get 0 _ rfl) rfl rfl rfl rfl)) ?_
    rintro g _ _ rfl
    exact ⟨⟨[], [], []⟩, trivial, .inl rfl, rfl⟩
   refine le rfl rfl (fun g hΦ s h hs hh => (stpU_store (id := 1) (cs' := [.slice ((g 5).A 0) ((x33.1.t.b).length) ((g 5).C 0), .slice ((g 5).A 1) ((x33.1.t.f).length) ((g 5).C 1), .slice ((g 5).A 2) ((x33.1.c).length) ((g 5).C 2)]) ts29 (sv hs 3 rfl) (sv hs 18 rfl) (hh.get 1 _ rfl) rfl rfl rfl rfl)) ?_
   rintro g _ _ rfl
   exact ⟨⟨[], [], []⟩, trivial, .inl rfl, rfl⟩
  intro g hΦ
  refine kw_gen (ι := Option Addr × Option Addr × Option Addr × Nat × Nat × Nat × Res × Res × Res × Option Addr × Option Addr × Option Addr × Nat × Nat × Nat × Res × Res × Res) (((g 4).A 0), ((g 4).A 1), ((g 4).A 2), ((g 4).C 0), ((g 4).C 1), ((g 4).C 2), ((g 5).R 3), ((g 5).R 4), ((g 5).R 5), ((g 5).A 0), ((g 5).A 1), ((g 5).A 2), ((g 5).C 0), ((g 5).C 1), ((g 5).C 2), ((g 5).R 0), ((g 5).R 1), ((g 5).R 2)) (fun | (p21, p25, p29, c23, c27, c31, C24, C28, C32, p34, p38, p42, c36, c40, c44, C37, C41, C45) => Sh3 3 61 43 53 p34 c36 p38 c40 p42 c44 x33.1 C37 C41 C45 C24 C28 C32 p5 c7 p9 c11 p13 c15 x4.1) (fun | (p21, p25, p29, c23, c27, c31, C24, C28, C32, p34, p38, p42, c36, c40, c44, C37, C41, C45) => [(2, .pointer (some ⟨b1, 0, none⟩)), (3, .pointer (some ⟨b2, 0, none⟩))]) (fun | (p21, p25, p29, c23, c27, c31, C24, C28, C32, p34, p38, p42, c36, c40, c44, C37, C41, C45) => [(0, [(b1, .cells #[.slice p5 ((x4.1.t.b).length) c7, .slice p9 ((x4.1.t.f).length) c11, .slice p13 ((x4.1.c).length) c15] 29 (0, 0))]), (1, [(b2, .cells #[.slice p34 ((x33.1.t.b).length) c36, .slice p38 ((x33.1.t.f).length) c40, .slice p42 ((x33.1.c).length) c44] 29 (0, 0))]), (4, C8), (5, C12), (6, C16), (14, C37), (15, C41), (16, C45), (10, C24), (11, C28), (12, C32)]) (hΦ 5 (by decide)) ⟨rfl, rfl, trivial⟩ ⟨rfl, rfl, rfl, rfl, rfl, rfl, rfl, rfl, rfl, rfl, rfl, trivial⟩ ?_
  rintro ⟨p21, p25, p29, c23, c27, c31, C24, C28, C32, p34, p38, p42, c36, c40, c44, C37, C41, C45⟩ hSh
  dsimp only
  refine kw_nx (cw_ret (kw_nx_ret ?_))
  obtain rfl := sI H0
  rcases hSh with hSh | hSh | ⟨rfl, rfl, rfl, rfl, rfl, rfl, e0⟩
  ·exact kr Tryd.results5 (.cons (.cellN (us := [_, _, _]) ts29 rfl (Cells.box (id := 0) rfl 3 rfl)) (rC3 1 ts29 rfl rfl)) [4, 5, 6, 14, 15, 16] ⟨_, _, _, _, _, _, _, _, _, _, _, _, _, _, _, _, _, _, _, _, _, _, _, _, rfl, rfl, rfl, o8, rfl, o12, rfl, o16, rfl, rfl, rfl, .inl hSh⟩
  ·exact kr Tryd.results5 (.cons (.cellN (us := [_, _, _]) ts29 rfl (Cells.box (id := 0) rfl 3 rfl)) (rC3 1 ts29 rfl rfl)) [4, 5, 6, 10, 11, 12] ⟨_, _, _, _, _, _, _, _, _, _, _, _, _, _, _, _, _, _, _, _, _, _, _, _, rfl, rfl, rfl, o8, rfl, o12, rfl, o16, rfl, rfl, rfl, .inl hSh⟩
  refine kw_addNil 40 (kw_addNil 41 (kw_addNil 42 ?_))
  exact kr Tryd.results5 (.cons (.cellN (us := [_, _, _]) ts29 rfl (Cells.box (id := 0) rfl 3 rfl)) (rC3 1 ts29 rfl rfl)) [4, 5, 6, 40, 41, 42] ⟨_, _, _, _, _, _, _, _, _, _, _, _, _, _, _, _, _, _, _, _, _, _, _, _, rfl, rfl, rfl, o8, rfl, o12, rfl, o16, rfl, rfl, rfl, .inr ⟨rfl, rfl, rfl, rfl, rfl, rfl, e0⟩⟩
 have H0 := cond_f H0 h19
 obtain ⟨x46, e46, H0⟩ := bS H0
 obtain ⟨x59, e59, H0⟩ := bS H0
 refine cw_skip (kw_nx (cw_seq (rdq g_mixed [2, 3, 4, 5] [0, 1, 2, 4, 5, 6, 7] { dst := dS [20, 21, 22, 23, 24, 25, 0, 0], pre := gA [] [[], [], [], [], [2, 3], rn 1 4, rn 0 6, rn 0 7], ids := gA [] [[], [], [], [], [2, 18, 19, 20], [2, 22, 23, 24], [0], [1]], rs := rL [[(5, 0)], [(4, 0)], [(4, 0)], [(5, 0)], [(21, 3), (22, 4)], [(20, 2), (23, 5)], [(2, 0), (19, 1)], [(3, 0), (24, 6)]], rh := rL [[(7, 0)], [], [], [(7, 0)], [(2, 0), (4, 0), (5, 0), (6, 0)], [(2, 5), (18, 5), (19, 5), (20, 5)], [(0, 0)], [(1, 0)]], V := fun i g => gA undef [.agg #[.slice p5 ((x4.1.t.b).length) c7, .slice p9 ((x4.1.t.f).length) c11, .slice p13 ((x4.1.c).length) c15], .pointer (some ⟨b3, 0, none⟩), .pointer (some ⟨b3, 0, none⟩), .agg #[.slice p5 ((x4.1.t.b).length) c7, .slice p9 ((x4.1.t.f).length) c11, .slice p13 ((x4.1.c).length) c15], .agg #[.slice ((g 4).A 0) ((x46.1.t.b).length) ((g 4).C 0), .slice ((g 4).A 1) ((x46.1.t.f).length) ((g 4).C 1), .slice ((g 4).A 2) ((x46.1.c).length) ((g 4).C 2)], .agg #[.slice ((g 5).A 0) ((x59.1.t.b).length) ((g 5).C 0), .slice ((g 5).A 1) ((x59.1.t.f).length) ((g 5).C 1), .slice ((g 5).A 2) ((x59.1.c).length) ((g 5).C 2)]] i, U := fun i g => gA [] [[], [], [], [], [(2, [(b3, .cells #[.slice p0_0 (((a0.take 2000)).length) c0_0, .int .i64 x46.2] 72 (0, 0))]), (18, ((g 4).R 0)), (19, ((g 4).R 1)), (20, ((g 4).R 2))], [(2, [(b3, .cells #[.slice p0_0 (((a0.take 2000)).length) c0_0, .int .i64 x59.2] 72 (0, 0))]), (22, ((g 5).R 0)), (23, ((g 5).R 1)), (24, ((g 5).R 2))], [(0, [(b1, .cells #[.slice p5 ((x4.1.t.b).length) c7, .slice p9 ((x4.1.t.f).length) c11, .slice p13 ((x4.1.c).length) c15] 29 (0, 0))])], [(1, [(b2, .cells #[.slice ((g 5).A 0) ((x59.1.t.b).length) ((g 5).C 0), .slice ((g 5).A 1) ((x59.1.t.f).length) ((g 5).C 1), .slice ((g 5).A 2) ((x59.1.c).length) ((g 5).C 2)] 29 (0, 0))])]] i, Φ := fun i x => gA True [True, True, True, True, OwnC 3 (x.A 0) (x.C 0) x46.1.t.b (x.R 0) ∧ OwnC 61 (x.A 1) (x.C 1) x46.1.t.f (x.R 1) ∧ OwnD 43 53 (x.A 2) (x.C 2) x46.1.c (x.R 2), OwnC 3 (x.A 0) (x.C 0) x59.1.t.b (x.R 0) ∧ OwnC 61 (x.A 1) (x.C 1) x59.1.t.f (x.R 1) ∧ OwnD 43 53 (x.A 2) (x.C 2) x59.1.c (x.R 2)] i } ?_ ?_)))
 ·refine ⟨lc rfl rfl fun hs hh => stp_loadN (us := [_, _, _]) ts29 (sv hs 5 rfl) (Cells.box (id := 7) (hh.get 7 _ rfl) 3 rfl), lM, lM, lc rfl rfl fun hs hh => stp_loadN (us := [_, _, _]) ts29 (sv hs 5 rfl) (Cells.box (id := 7) (hh.get 7 _ rfl) 3 rfl), ?_, ?_, ?_, ?_, trivial⟩
  ·refine le rfl rfl (fun g hΦ s h hs hh => (stpU_callM (fun i => bif Nat.beq i 0 then 2 else 17 + i) cf16 (fun w hw hb => c_s_l8Wrong fl w b3 (a0.take 2000) x18.2 x4.1 rfl (RO.passM (RO.takeN 2000 hr0_0) hw hb) rfl (OwnC.passM (id := 4) (hh.get 4 _ rfl) o8 hw hb ⟨rfl, trivial⟩) rfl (OwnC.passM (id := 5) (hh.get 5 _ rfl) o12 hw hb ⟨rfl, trivial⟩) rfl (OwnD.passM (id := 6) (hh.get 6 _ rfl) o16 hw hb ⟨rfl, trivial⟩) (hw.pass (js := [2]) ⟨2, [], rfl, (hh.get 2 _ rfl), trivial⟩ (by decide)) x46 e46) (yB (sv hs 21 rfl) (sv hs 22 rfl)) ⟨(hh.get 2 _ rfl), (fun _ _ hp => by obtain ⟨_, _, _, _, _, _, _, _, _, _, _, _, _, rfl, _⟩ := hp; exact ⟨_, rfl⟩), trivial⟩)) ?_
   rintro g _ _ ⟨_, ⟨p47, _, c49, C50, p51, _, c53, C54, p55, _, c57, C58, rfl, rfl, rfl, o50, rfl, o54, rfl, o58⟩, rfl⟩
   exact ⟨⟨[p47, p51, p55], [c49, c53, c57], [C50, C54, C58]⟩, ⟨o50, o54, o58⟩, .inr rfl, rfl⟩
  ·refine le rfl rfl (fun g hΦ s h hs hh => (stpU_callM (fun i => bif Nat.beq i 0 then 2 else 21 + i) cf16 (fun w hw hb => c_s_l8Wrong fl w b3 (a0.take 2000) x46.2 x46.1 rfl (RO.passM (RO.takeN 2000 hr0_0) hw hb) rfl (OwnC.passM (id := 18) (hh.get 18 _ rfl) (hΦ 4 rfl).1 hw hb ⟨rfl, trivial⟩) rfl (OwnC.passM (id := 19) (hh.get 19 _ rfl) (hΦ 4 rfl).2.1 hw hb ⟨rfl, trivial⟩) rfl (OwnD.passM (id := 20) (hh.get 20 _ rfl) (hΦ 4 rfl).2.2 hw hb ⟨rfl, trivial⟩) (hw.pass (js := [2]) ⟨2, [], rfl, (hh.get 2 _ rfl), trivial⟩ (by decide)) x59 e59) (yB (sv hs 20 rfl) (sv hs 23 rfl)) ⟨(hh.get 2 _ rfl), (fun _ _ hp => by obtain ⟨_, _, _, _, _, _, _, _, _, _, _, _, _, rfl, _⟩ := hp; exact ⟨_, rfl⟩), trivial⟩)) ?_
   rintro g _ _ ⟨_, ⟨p60, _, c62, C63, p64, _, c66, C67, p68, _, c70, C71, rfl, rfl, rfl, o63, rfl, o67, rfl, o71⟩, rfl⟩
   exact ⟨⟨[p60, p64, p68], [c62, c66, c70], [C63, C67, C71]⟩, ⟨o63, o67, o71⟩, .inr rfl, rfl⟩
  ·refine le rfl rfl (fun g hΦ s h hs hh => (stpU_store (id := 0) (cs' := [.slice p5 ((x4.1.t.b).length) c7, .slice p9 ((x4.1.t.f).length) c11, .slice p13 ((x4.1.c).length) c15]) ts29 (sv hs 2 rfl) (sv hs 19 rfl) (hh.get 0 _ rfl) rfl rfl rfl rfl)) ?_
   rintro g _ _ rfl
   exact ⟨⟨[], [], []⟩, trivial, .inl rfl, rfl⟩
  refine le rfl rfl (fun g hΦ s h hs hh => (stpU_store (id := 1) (cs' := [.slice ((g 5).A 0) ((x59.1.t.b).length) ((g 5).C 0), .slice ((g 5).A 1) ((x59.1.t.f).length) ((g 5).C 1), .slice ((g 5).A 2) ((x59.1.c).length) ((g 5).C 2)]) ts29 (sv hs 3 rfl) (sv hs 24 rfl) (hh.get 1 _ rfl) rfl rfl rfl rfl)) ?_
  rintro g _ _ rfl
  exact ⟨⟨[], [], []⟩, trivial, .inl rfl, rfl⟩
 intro g hΦ
 refine kw_gen (ι := Option Addr × Option Addr × Option Addr × Nat × Nat × Nat × Res × Res × Res × Option Addr × Option Addr × Option Addr × Nat × Nat × Nat × Res × Res × Res) (((g 4).A 0), ((g 4).A 1), ((g 4).A 2), ((g 4).C 0), ((g 4).C 1), ((g 4).C 2), ((g 4).R 0), ((g 4).R 1), ((g 4).R 2), ((g 5).A 0), ((g 5).A 1), ((g 5).A 2), ((g 5).C 0), ((g 5).C 1), ((g 5).C 2), ((g 5).R 0), ((g 5).R 1), ((g 5).R 2)) (fun | (p47, p51, p55, c49, c53, c57, C50, C54, C58, p60, p64, p68, c62, c66, c70, C63, C67, C71) => OwnC 3 p47 c49 x46.1.t.b C50 ∧ OwnC 61 p51 c53 x46.1.t.f C54 ∧ OwnD 43 53 p55 c57 x46.1.c C58 ∧ OwnC 3 p60 c62 x59.1.t.b C63 ∧ OwnC 61 p64 c66 x59.1.t.f C67 ∧ OwnD 43 53 p68 c70 x59.1.c C71) (fun | (p47, p51, p55, c49, c53, c57, C50, C54, C58, p60, p64, p68, c62, c66, c70, C63, C67, C71) => [(2, .pointer (some ⟨b1, 0, none⟩)), (3, .pointer (some ⟨b2, 0, none⟩))]) (fun | (p47, p51, p55, c49, c53, c57, C50, C54, C58, p60, p64, p68, c62, c66, c70, C63, C67, C71) => [(0, [(b1, .cells #[.slice p5 ((x4.1.t.b).length) c7, .slice p9 ((x4.1.t.f).length) c11, .slice p13 ((x4.1.c).length) c15] 29 (0, 0))]), (1, [(b2, .cells #[.slice p60 ((x59.1.t.b).length) c62, .slice p64 ((x59.1.t.f).length) c66, .slice p68 ((x59.1.c).length) c70] 29 (0, 0))]), (4, C8), (5, C12), (6, C16), (22, C63), (23, C67), (24, C71)]) ⟨(hΦ 4 (by decide)).1, (hΦ 4 (by decide)).2.1, (hΦ 4 (by decide)).2.2, (hΦ 5 (by decide)).1, (hΦ 5 (by decide)).2.1, (hΦ 5 (by decide)).2.2⟩ ⟨rfl, rfl, trivial⟩ ⟨rfl, rfl, rfl, rfl, rfl, rfl, rfl, rfl, trivial⟩ ?_
 rintro ⟨p47, p51, p55, c49, c53, c57, C50, C54, C58, p60, p64, p68, c62, c66, c70, C63, C67, C71⟩ ⟨o50, o54, o58, o63, o67, o71⟩
 dsimp only
 refine kw_nx (cw_ret ?_)
 obtain rfl := sI H0
 exact kr Tryd.results5 (.cons (.cellN (us := [_, _, _]) ts29 rfl (Cells.box (id := 0) rfl 3 rfl)) (rC3 1 ts29 rfl rfl)) [4, 5, 6, 22, 23, 24] ⟨_, _, _, _, _, _, _, _, _, _, _, _, _, _, _, _, _, _, _, _, _, _, _, _, rfl, rfl, rfl, o8, rfl, o12, rfl, o16, rfl, rfl, rfl, .inl ⟨o63, o67, o71⟩⟩
end Go.Proofs.YtciliaiocakdkaaDoor
