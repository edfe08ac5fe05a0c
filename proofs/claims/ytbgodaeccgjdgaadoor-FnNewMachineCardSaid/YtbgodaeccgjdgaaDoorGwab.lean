/- The walks: functions of the program return what their pure functions say. Printed by a program (gen.py). -/
import Derived.Test.YtbgodaeccgjdgaaDoorGp
import Derived.Test.YtbgodaeccgjdgaaDoorGt
import Derived.Test.YtbgodaeccgjdgaaDoorMan
import Derived.Test.YtbgodaeccgjdgaaDoorMap
import Derived.Test.YtbgodaeccgjdgaaDoorCpy
import Derived.Test.YtbgodaeccgjdgaaDoorGwaa
import Derived.Test.YtbgodaeccgjdgaaDoorGws
set_option linter.unusedSimpArgs false
set_option linter.unusedVariables false
set_option linter.unusedSectionVars false
namespace Go.Proofs.YtbgodaeccgjdgaaDoor
open Go.RowKit
set_option maxHeartbeats 4000000 in
set_option maxRecDepth 20000 in
theorem c_slices_Equal_Int (fl : Nat) (w : World) (a0 : (List Int)) (p0_0 : Option Addr) (n0_0 c0_0 : Nat) (a1 : (List Int)) (p1_0 : Option Addr) (n1_0 c1_0 : Nat) (hn0_0 : n0_0 = (a0).length) (hr0_0 : RO w (hkeys []) (RdL p0_0 c0_0 a0)) (hn1_0 : n1_0 = (a1).length) (hr1_0 : RO w (hkeys []) (RdL p1_0 c1_0 a1)) (r : Bool) (H0 : slices_Equal_Int fl a0 a1 = some r) :
    Ct Tryd.prog 48 [.slice p0_0 n0_0 c0_0, .slice p1_0 n1_0 c1_0] w [] (fun rv h' => rv = .bool r ∧ h' = []) := by
  obtain rfl := hn0_0
  obtain rfl := hn1_0
  unfold slices_Equal_Int at H0
  refine ct_of_cw Tryd.func48 rfl Tryd.ntmps48 rfl (Sat.refl _ _) ?_
  refine sr (oD (sg rfl) rfl (nn (cw_seq (sr (oD (mv rfl) rfl (oD (stp_len Tryd.underlying25 rfl) rfl (oD (mv rfl) rfl (oD (stp_len Tryd.underlying25 rfl) rfl (oD (stp_neq rfl rfl) rfl (nn (cw_cond rfl (fun h1 => ?_) (fun h1 => ?_))))))))))))
  · have H0 := cond_t H0 h1
    refine sr (oD (sg rfl) rfl (nn (cw_ret (kw_nx_ret ?_))))
    have q0 := Option.some.inj H0
    subst q0
    exact kw_ret Tryd.results48 (.cons (.tmp rfl) .nil) [] [] trivial (by decide) ⟨rfl, rfl⟩
  · have H0 := cond_f H0 h1
    obtain ⟨o0_0, eo0_0, H0⟩ := bind_some H0
    refine cw_skip (kw_nx (cw_seq (sr (oD (mv rfl) rfl (oD (stp_len Tryd.underlying25 rfl) rfl (oD (mv rfl) rfl (nn (cw_join (ι := Int) (fun | v2 => o0_0 = .out v2) (fun | v2 => [(0, .slice p0_0 ((a0).length) c0_0), (1, .slice p1_0 ((a1).length) c1_0), (12, .int .i64 ((a0).length : Int)), (13, .int .i64 v2)]) (fun | v2 => []) ?_ ?_))))))))
    · refine cw_block (cw_loopS (ι := Nat × Int) (js := []) (fun x => x.1) (fun | (fuel, v2) => slices_Equal_Int_L0 fl a0 a1 fuel v2 = some o0_0) (fun | (_, v2) => [(0, .slice p0_0 ((a0).length) c0_0), (1, .slice p1_0 ((a1).length) c1_0), (12, .int .i64 ((a0).length : Int)), (13, .int .i64 v2)]) (fun | (_, v2) => []) (fl, 0) eo0_0 ⟨rfl, rfl, rfl, rfl, trivial⟩ trivial (by decide) ?_)
      rintro ⟨fuel, v2⟩ H1
      have H1 : slices_Equal_Int_L0 fl a0 a1 fuel v2 = some o0_0 := H1
      rcases fuel with _ | fuel
      · rw [slices_Equal_Int_L0.eq_1] at H1; cases H1
      rw [slices_Equal_Int_L0.eq_2] at H1
      refine CW.sub (s' := [(0, .slice p0_0 ((a0).length) c0_0), (1, .slice p1_0 ((a1).length) c1_0), (12, .int .i64 ((a0).length : Int)), (13, .int .i64 v2)]) (h' := []) ?_ ⟨rfl, rfl, rfl, rfl, trivial⟩ trivial
      refine sr (oD (stp_lss rfl rfl) rfl (nn (cw_seq (cw_cond rfl (fun h3 => ?_) (fun h3 => ?_)))))
      · have H1 := cond_t H1 h3
        obtain ⟨x4, e4, H1⟩ := bind_some H1
        obtain ⟨x5, e5, H1⟩ := bind_some H1
        refine cw_skip (kw_nx (cw_seq (cw_block (sr (oD (mv rfl) rfl (oD (sg rfl) rfl (nn (cw_seq (rdr g_mixed [0, 1, 5] [] { dst := dS [17, 18, 19, 20, 21, 22, 23, 24, 25], pre := gA [] [[], [], [0, 1], [0, 1, 2], [], [], [4, 5], [4, 5, 6], rn 0 8], ids := fun _ => [], rs := rL [[(0, 0)], [(5, 0)], [(16, 1), (17, 2)], [(18, 3)], [(1, 0)], [(5, 0)], [(20, 5), (21, 6)], [(22, 7)], [(19, 4), (23, 8)]], rh := fun _ => [], V := fun i g => gA undef [.slice p0_0 ((a0).length) c0_0, .int .i64 v2, .pointer (some ⟨eB p0_0, eO p0_0 + Int.toNat v2 * Enc.sz Int + 0, none⟩), .int .i64 x4, .slice p1_0 ((a1).length) c1_0, .int .i64 v2, .pointer (some ⟨eB p1_0, eO p1_0 + Int.toNat v2 * Enc.sz Int + 0, none⟩), .int .i64 x5, .bool (x4 != x5)] i, U := fun _ _ => [], Φ := fun _ _ => True } ?_ ?_)))))))))
        · exact ⟨⟨⟨⟨⟨⟨⟨⟨⟨trivial, lc rfl rfl fun hs hh => stp_move (sv hs 0 rfl)⟩, lc rfl rfl fun hs hh => stp_move (sv hs 5 rfl)⟩, lc rfl rfl fun hs hh => stp_indexAddr Tryd.underlying25 ts3 (by decide) (sv hs 16 rfl) rfl (sv hs 17 rfl) (Rdb.ro hr0_0) e4⟩, lc rfl rfl fun hs hh => stp_load1 ts3 (sv hs 18 rfl) (Cells.el (Rdb.ro hr0_0) (by decide) e4 0 1 rfl)⟩, lc rfl rfl fun hs hh => stp_move (sv hs 1 rfl)⟩, lc rfl rfl fun hs hh => stp_move (sv hs 5 rfl)⟩, lc rfl rfl fun hs hh => stp_indexAddr Tryd.underlying25 ts3 (by decide) (sv hs 20 rfl) rfl (sv hs 21 rfl) (Rdb.ro hr1_0) e5⟩, lc rfl rfl fun hs hh => stp_load1 ts3 (sv hs 22 rfl) (Cells.el (Rdb.ro hr1_0) (by decide) e5 0 1 rfl)⟩, lc rfl rfl fun hs hh => stp_neq (sv hs 19 rfl) (sv hs 23 rfl)⟩
        · intro g hΦ
          refine KW.sub (s' := [(0, .slice p0_0 ((a0).length) c0_0), (1, .slice p1_0 ((a1).length) c1_0), (12, .int .i64 ((a0).length : Int)), (13, .int .i64 v2), (24, .bool (x4 != x5))]) (h' := []) ?_ ⟨rfl, rfl, rfl, rfl, rfl, trivial⟩ trivial
          refine kw_nx (cw_cond rfl (fun h6 => ?_) (fun h6 => ?_))
          · have H1 := cond_t H1 h6
            refine sr (oD (sg rfl) rfl (nn (cw_ret (kw_bl_ret (kw_nx_ret (kw_lq_ret (kw_bl_ret (kw_join_ret (kw_nx_ret ?_)))))))))
            have q1 := Option.some.inj H1
            subst q1
            have q0 := Option.some.inj H0
            subst q0
            exact kw_ret Tryd.results48 (.cons (.tmp rfl) .nil) [] [] trivial (by decide) ⟨rfl, rfl⟩
          · have H1 := cond_f H1 h6
            obtain ⟨x7, e7, H1⟩ := bind_some H1
            exact cw_skip (kw_bl_normal (kw_nx (cw_region (oD (stp_add rfl rfl e7) rfl (oD (mv rfl) rfl (ow_nil (kw_lqS (js := []) (fuel, x7) H1 (Nat.lt_succ_self _) ⟨rfl, rfl, rfl, rfl, trivial⟩ trivial (by decide))))))))
      · have H1 := cond_f H1 h3
        refine cw_exit (kw_nx_exit (kw_lq_exit (kw_bl ?_)))
        have q1 := Option.some.inj H1
        subst q1
        exact kw_joinS (js := []) v2 rfl ⟨rfl, rfl, rfl, rfl, trivial⟩ trivial (by decide)
    · rintro v2 rfl
      refine KW.sub (s' := [(0, .slice p0_0 ((a0).length) c0_0), (1, .slice p1_0 ((a1).length) c1_0), (12, .int .i64 ((a0).length : Int)), (13, .int .i64 v2)]) (h' := []) ?_ ⟨rfl, rfl, rfl, rfl, trivial⟩ trivial
      refine kw_nx (sr (oD (sg rfl) rfl (nn (cw_ret ?_))))
      have q0 := Option.some.inj H0
      subst q0
      exact kw_ret Tryd.results48 (.cons (.tmp rfl) .nil) [] [] trivial (by decide) ⟨rfl, rfl⟩

set_option maxHeartbeats 4000000 in
set_option maxRecDepth 20000 in
theorem c_slices_Equal_Frame (fl : Nat) (w : World) (a0 : (List F)) (p0_0 : Option Addr) (n0_0 c0_0 : Nat) (a1 : (List F)) (p1_0 : Option Addr) (n1_0 c1_0 : Nat) (hn0_0 : n0_0 = (a0).length) (hr0_0 : RO w (hkeys []) (RdL p0_0 c0_0 a0)) (hn1_0 : n1_0 = (a1).length) (hr1_0 : RO w (hkeys []) (RdL p1_0 c1_0 a1)) (r : Bool) (H0 : slices_Equal_Frame fl a0 a1 = some r) :
    Ct Tryd.prog 49 [.slice p0_0 n0_0 c0_0, .slice p1_0 n1_0 c1_0] w [] (fun rv h' => rv = .bool r ∧ h' = []) := by
  obtain rfl := hn0_0
  obtain rfl := hn1_0
  unfold slices_Equal_Frame at H0
  refine ct_of_cw Tryd.func49 rfl Tryd.ntmps49 rfl (Sat.refl _ _) ?_
  refine sr (oD (sg rfl) rfl (nn (cw_seq (sr (oD (mv rfl) rfl (oD (stp_len Tryd.underlying26 rfl) rfl (oD (mv rfl) rfl (oD (stp_len Tryd.underlying26 rfl) rfl (oD (stp_neq rfl rfl) rfl (nn (cw_cond rfl (fun h1 => ?_) (fun h1 => ?_))))))))))))
  · have H0 := cond_t H0 h1
    refine sr (oD (sg rfl) rfl (nn (cw_ret (kw_nx_ret ?_))))
    have q0 := Option.some.inj H0
    subst q0
    exact kw_ret Tryd.results49 (.cons (.tmp rfl) .nil) [] [] trivial (by decide) ⟨rfl, rfl⟩
  · have H0 := cond_f H0 h1
    obtain ⟨o0_0, eo0_0, H0⟩ := bind_some H0
    refine cw_skip (kw_nx (cw_seq (sr (oD (mv rfl) rfl (oD (stp_len Tryd.underlying26 rfl) rfl (oD (mv rfl) rfl (nn (cw_join (ι := Int) (fun | v2 => o0_0 = .out v2) (fun | v2 => [(0, .slice p0_0 ((a0).length) c0_0), (1, .slice p1_0 ((a1).length) c1_0), (12, .int .i64 ((a0).length : Int)), (13, .int .i64 v2)]) (fun | v2 => []) ?_ ?_))))))))
    · refine cw_block (cw_loopS (ι := Nat × Int) (js := []) (fun x => x.1) (fun | (fuel, v2) => slices_Equal_Frame_L0 fl a0 a1 fuel v2 = some o0_0) (fun | (_, v2) => [(0, .slice p0_0 ((a0).length) c0_0), (1, .slice p1_0 ((a1).length) c1_0), (12, .int .i64 ((a0).length : Int)), (13, .int .i64 v2)]) (fun | (_, v2) => []) (fl, 0) eo0_0 ⟨rfl, rfl, rfl, rfl, trivial⟩ trivial (by decide) ?_)
      rintro ⟨fuel, v2⟩ H1
      have H1 : slices_Equal_Frame_L0 fl a0 a1 fuel v2 = some o0_0 := H1
      rcases fuel with _ | fuel
      · rw [slices_Equal_Frame_L0.eq_1] at H1; cases H1
      rw [slices_Equal_Frame_L0.eq_2] at H1
      refine CW.sub (s' := [(0, .slice p0_0 ((a0).length) c0_0), (1, .slice p1_0 ((a1).length) c1_0), (12, .int .i64 ((a0).length : Int)), (13, .int .i64 v2)]) (h' := []) ?_ ⟨rfl, rfl, rfl, rfl, trivial⟩ trivial
      refine sr (oD (stp_lss rfl rfl) rfl (nn (cw_seq (cw_cond rfl (fun h3 => ?_) (fun h3 => ?_)))))
      · have H1 := cond_t H1 h3
        obtain ⟨x4, e4, H1⟩ := bind_some H1
        obtain ⟨x5, e5, H1⟩ := bind_some H1
        refine cw_skip (kw_nx (cw_seq (cw_block (sr (oD (mv rfl) rfl (oD (sg rfl) rfl (nn (cw_seq (rdr g_mixed [0, 1, 5] [] { dst := dS [17, 18, 19, 20, 21, 22, 23, 24, 25], pre := gA [] [[], [], [0, 1], [0, 1, 2], [], [], [4, 5], [4, 5, 6], rn 0 8], ids := fun _ => [], rs := rL [[(0, 0)], [(5, 0)], [(16, 1), (17, 2)], [(18, 3)], [(1, 0)], [(5, 0)], [(20, 5), (21, 6)], [(22, 7)], [(19, 4), (23, 8)]], rh := fun _ => [], V := fun i g => gA undef [.slice p0_0 ((a0).length) c0_0, .int .i64 v2, .pointer (some ⟨eB p0_0, eO p0_0 + Int.toNat v2 * Enc.sz F + 0, none⟩), .agg #[.bool x4.u, .int .i64 x4.k.s, .int .i64 x4.k.p, .int .i64 x4.r, .int .i64 x4.nx], .slice p1_0 ((a1).length) c1_0, .int .i64 v2, .pointer (some ⟨eB p1_0, eO p1_0 + Int.toNat v2 * Enc.sz F + 0, none⟩), .agg #[.bool x5.u, .int .i64 x5.k.s, .int .i64 x5.k.p, .int .i64 x5.r, .int .i64 x5.nx], .bool (x4 != x5)] i, U := fun _ _ => [], Φ := fun _ _ => True } ?_ ?_)))))))))
        · exact ⟨⟨⟨⟨⟨⟨⟨⟨⟨trivial, lc rfl rfl fun hs hh => stp_move (sv hs 0 rfl)⟩, lc rfl rfl fun hs hh => stp_move (sv hs 5 rfl)⟩, lc rfl rfl fun hs hh => stp_indexAddr Tryd.underlying26 ts71 (by decide) (sv hs 16 rfl) rfl (sv hs 17 rfl) (Rdb.ro hr0_0) e4⟩, lc rfl rfl fun hs hh => stp_loadN (us := [_, _, _, _, _]) ts71 (sv hs 18 rfl) (Cells.el (Rdb.ro hr0_0) (by decide) e4 0 5 rfl)⟩, lc rfl rfl fun hs hh => stp_move (sv hs 1 rfl)⟩, lc rfl rfl fun hs hh => stp_move (sv hs 5 rfl)⟩, lc rfl rfl fun hs hh => stp_indexAddr Tryd.underlying26 ts71 (by decide) (sv hs 20 rfl) rfl (sv hs 21 rfl) (Rdb.ro hr1_0) e5⟩, lc rfl rfl fun hs hh => stp_loadN (us := [_, _, _, _, _]) ts71 (sv hs 22 rfl) (Cells.el (Rdb.ro hr1_0) (by decide) e5 0 5 rfl)⟩, lc rfl rfl fun hs hh => stp_neqS te71 x4 x5 (sv hs 19 rfl) (sv hs 23 rfl)⟩
        · intro g hΦ
          refine KW.sub (s' := [(0, .slice p0_0 ((a0).length) c0_0), (1, .slice p1_0 ((a1).length) c1_0), (12, .int .i64 ((a0).length : Int)), (13, .int .i64 v2), (24, .bool (x4 != x5))]) (h' := []) ?_ ⟨rfl, rfl, rfl, rfl, rfl, trivial⟩ trivial
          refine kw_nx (cw_cond rfl (fun h6 => ?_) (fun h6 => ?_))
          · have H1 := cond_t H1 h6
            refine sr (oD (sg rfl) rfl (nn (cw_ret (kw_bl_ret (kw_nx_ret (kw_lq_ret (kw_bl_ret (kw_join_ret (kw_nx_ret ?_)))))))))
            have q1 := Option.some.inj H1
            subst q1
            have q0 := Option.some.inj H0
            subst q0
            exact kw_ret Tryd.results49 (.cons (.tmp rfl) .nil) [] [] trivial (by decide) ⟨rfl, rfl⟩
          · have H1 := cond_f H1 h6
            obtain ⟨x7, e7, H1⟩ := bind_some H1
            exact cw_skip (kw_bl_normal (kw_nx (cw_region (oD (stp_add rfl rfl e7) rfl (oD (mv rfl) rfl (ow_nil (kw_lqS (js := []) (fuel, x7) H1 (Nat.lt_succ_self _) ⟨rfl, rfl, rfl, rfl, trivial⟩ trivial (by decide))))))))
      · have H1 := cond_f H1 h3
        refine cw_exit (kw_nx_exit (kw_lq_exit (kw_bl ?_)))
        have q1 := Option.some.inj H1
        subst q1
        exact kw_joinS (js := []) v2 rfl ⟨rfl, rfl, rfl, rfl, trivial⟩ trivial (by decide)
    · rintro v2 rfl
      refine KW.sub (s' := [(0, .slice p0_0 ((a0).length) c0_0), (1, .slice p1_0 ((a1).length) c1_0), (12, .int .i64 ((a0).length : Int)), (13, .int .i64 v2)]) (h' := []) ?_ ⟨rfl, rfl, rfl, rfl, trivial⟩ trivial
      refine kw_nx (sr (oD (sg rfl) rfl (nn (cw_ret ?_))))
      have q0 := Option.some.inj H0
      subst q0
      exact kw_ret Tryd.results49 (.cons (.tmp rfl) .nil) [] [] trivial (by decide) ⟨rfl, rfl⟩

set_option maxHeartbeats 4000000 in
set_option maxRecDepth 20000 in
theorem c_i_TableSame (fl : Nat) (w : World) (a0 : T) (p0_0 : Option Addr) (n0_0 c0_0 : Nat) (p0_1 : Option Addr) (n0_1 c0_1 : Nat) (a1 : T) (p1_0 : Option Addr) (n1_0 c1_0 : Nat) (p1_1 : Option Addr) (n1_1 c1_1 : Nat) (hn0_0 : n0_0 = (a0.b).length) (hr0_0 : RO w (hkeys []) (RdL p0_0 c0_0 a0.b)) (hn0_1 : n0_1 = (a0.f).length) (hr0_1 : RO w (hkeys []) (RdL p0_1 c0_1 a0.f)) (hn1_0 : n1_0 = (a1.b).length) (hr1_0 : RO w (hkeys []) (RdL p1_0 c1_0 a1.b)) (hn1_1 : n1_1 = (a1.f).length) (hr1_1 : RO w (hkeys []) (RdL p1_1 c1_1 a1.f)) (r : Bool) (H0 : i_TableSame fl a0 a1 = some r) :
    Ct Tryd.prog 20 [.agg #[.slice p0_0 n0_0 c0_0, .slice p0_1 n0_1 c0_1], .agg #[.slice p1_0 n1_0 c1_0, .slice p1_1 n1_1 c1_1]] w [] (fun rv h' => rv = .bool r ∧ h' = []) := by
  obtain rfl := hn0_0
  obtain rfl := hn0_1
  obtain rfl := hn1_0
  obtain rfl := hn1_1
  unfold i_TableSame at H0
  refine ct_of_cw Tryd.func20 rfl Tryd.ntmps20 rfl (Sat.refl _ _) ?_
  refine sr (oE (stpU_box 0 rfl rfl) rfl ?_)
  rintro _ _ ⟨b1, rfl, rfl⟩
  refine oE (stpU_box 1 rfl rfl) rfl ?_
  rintro _ _ ⟨b2, rfl, rfl⟩
  obtain ⟨x3, e3, H0⟩ := bind_some H0
  refine oD (sg rfl) rfl (nn (sr (oD (fA 0 Tryd.underlying28 rfl ts25 rfl rfl rfl) rfl (oD (lB 0 ts25 rfl rfl rfl) rfl (oD (fA 0 Tryd.underlying28 rfl ts25 rfl rfl rfl) rfl (oD (lB 1 ts25 rfl rfl rfl) rfl (oE (stpU_call (fun i => 2 + i) cf48 (fun w hw => c_slices_Equal_Int fl w a0.b p0_0 ((a0.b).length) c0_0 a1.b p1_0 ((a1.b).length) c1_0 rfl (RO.pass hr0_0 hw) rfl (RO.pass hr1_0 hw) x3 e3) (sevs_cons rfl (sevs_cons rfl sevs_nil))) rfl ?_)))))))
  rintro _ _ ⟨_, ⟨rfl, rfl⟩, rfl⟩
  obtain ⟨y4, ey4, H0⟩ := bind_some H0
  refine oD (mv rfl) rfl (ow_cutY 6 16 y4 ?_ ?_)
  · rcases Bool.eq_false_or_eq_true x3 with hy4 | hy4
    · have ey4 := cond_t ey4 hy4
      obtain ⟨x5, e5, ey4⟩ := bind_some ey4
      refine oG rfl hy4 (fA 1 Tryd.underlying28 rfl ts26 rfl rfl rfl) rfl (oG rfl hy4 (lB 0 ts26 rfl rfl rfl) rfl (oG rfl hy4 (fA 1 Tryd.underlying28 rfl ts26 rfl rfl rfl) rfl (oG rfl hy4 (lB 1 ts26 rfl rfl rfl) rfl (ow_eff (.some rfl hy4) (stpU_call (fun i => 2 + i) cf49 (fun w hw => c_slices_Equal_Frame fl w a0.f p0_1 ((a0.f).length) c0_1 a1.f p1_1 ((a1.f).length) c1_1 rfl (RO.pass hr0_1 hw) rfl (RO.pass hr1_1 hw) x5 e5) (sevs_cons rfl (sevs_cons rfl sevs_nil))) rfl ?_))))
      rintro _ _ ⟨_, ⟨rfl, rfl⟩, rfl⟩
      refine oD (stp_pick_t rfl hy4 rfl) rfl ?_
      obtain rfl := Option.some.inj ey4
      exact ow_nil (jy 6 0)
    · have ey4 := cond_f ey4 hy4
      refine oO rfl hy4 rfl (oO rfl hy4 rfl (oO rfl hy4 rfl (oO rfl hy4 rfl (oO rfl hy4 rfl (oD (stp_pick_f rfl hy4 rfl) rfl ?_)))))
      obtain rfl := Option.some.inj ey4
      exact ow_nil (jy 6 0)
  · refine oD (sg rfl) rfl (nn (cw_ret ?_))
    have q0 := Option.some.inj H0
    subst q0
    exact kw_ret Tryd.results20 (.cons (.tmp rfl) .nil) [] [] trivial (by decide) ⟨rfl, rfl⟩

set_option maxHeartbeats 4000000 in
set_option maxRecDepth 20000 in
theorem c_slices_Equal_Line (fl : Nat) (w : World) (a0 : (List Ln)) (p0_0 : Option Addr) (n0_0 c0_0 : Nat) (a1 : (List Ln)) (p1_0 : Option Addr) (n1_0 c1_0 : Nat) (hn0_0 : n0_0 = (a0).length) (hr0_0 : RO w (hkeys []) (RdL p0_0 c0_0 a0)) (hn1_0 : n1_0 = (a1).length) (hr1_0 : RO w (hkeys []) (RdL p1_0 c1_0 a1)) (r : Bool) (H0 : slices_Equal_Line fl a0 a1 = some r) :
    Ct Tryd.prog 50 [.slice p0_0 n0_0 c0_0, .slice p1_0 n1_0 c1_0] w [] (fun rv h' => rv = .bool r ∧ h' = []) := by
  obtain rfl := hn0_0
  obtain rfl := hn1_0
  unfold slices_Equal_Line at H0
  refine ct_of_cw Tryd.func50 rfl Tryd.ntmps50 rfl (Sat.refl _ _) ?_
  refine sr (oD (sg rfl) rfl (nn (cw_seq (sr (oD (mv rfl) rfl (oD (stp_len Tryd.underlying29 rfl) rfl (oD (mv rfl) rfl (oD (stp_len Tryd.underlying29 rfl) rfl (oD (stp_neq rfl rfl) rfl (nn (cw_cond rfl (fun h1 => ?_) (fun h1 => ?_))))))))))))
  · have H0 := cond_t H0 h1
    refine sr (oD (sg rfl) rfl (nn (cw_ret (kw_nx_ret ?_))))
    have q0 := Option.some.inj H0
    subst q0
    exact kw_ret Tryd.results50 (.cons (.tmp rfl) .nil) [] [] trivial (by decide) ⟨rfl, rfl⟩
  · have H0 := cond_f H0 h1
    obtain ⟨o0_0, eo0_0, H0⟩ := bind_some H0
    refine cw_skip (kw_nx (cw_seq (sr (oD (mv rfl) rfl (oD (stp_len Tryd.underlying29 rfl) rfl (oD (mv rfl) rfl (nn (cw_join (ι := Int) (fun | v2 => o0_0 = .out v2) (fun | v2 => [(0, .slice p0_0 ((a0).length) c0_0), (1, .slice p1_0 ((a1).length) c1_0), (12, .int .i64 ((a0).length : Int)), (13, .int .i64 v2)]) (fun | v2 => []) ?_ ?_))))))))
    · refine cw_block (cw_loopS (ι := Nat × Int) (js := []) (fun x => x.1) (fun | (fuel, v2) => slices_Equal_Line_L0 fl a0 a1 fuel v2 = some o0_0) (fun | (_, v2) => [(0, .slice p0_0 ((a0).length) c0_0), (1, .slice p1_0 ((a1).length) c1_0), (12, .int .i64 ((a0).length : Int)), (13, .int .i64 v2)]) (fun | (_, v2) => []) (fl, 0) eo0_0 ⟨rfl, rfl, rfl, rfl, trivial⟩ trivial (by decide) ?_)
      rintro ⟨fuel, v2⟩ H1
      have H1 : slices_Equal_Line_L0 fl a0 a1 fuel v2 = some o0_0 := H1
      rcases fuel with _ | fuel
      · rw [slices_Equal_Line_L0.eq_1] at H1; cases H1
      rw [slices_Equal_Line_L0.eq_2] at H1
      refine CW.sub (s' := [(0, .slice p0_0 ((a0).length) c0_0), (1, .slice p1_0 ((a1).length) c1_0), (12, .int .i64 ((a0).length : Int)), (13, .int .i64 v2)]) (h' := []) ?_ ⟨rfl, rfl, rfl, rfl, trivial⟩ trivial
      refine sr (oD (stp_lss rfl rfl) rfl (nn (cw_seq (cw_cond rfl (fun h3 => ?_) (fun h3 => ?_)))))
      · have H1 := cond_t H1 h3
        obtain ⟨x4, e4, H1⟩ := bind_some H1
        obtain ⟨x5, e5, H1⟩ := bind_some H1
        refine cw_skip (kw_nx (cw_seq (cw_block (sr (oD (mv rfl) rfl (oD (sg rfl) rfl (nn (cw_seq (rdr g_mixed [0, 1, 5] [] { dst := dS [17, 18, 19, 20, 21, 22, 23, 24, 25], pre := gA [] [[], [], [0, 1], [0, 1, 2], [], [], [4, 5], [4, 5, 6], rn 0 8], ids := fun _ => [], rs := rL [[(0, 0)], [(5, 0)], [(16, 1), (17, 2)], [(18, 3)], [(1, 0)], [(5, 0)], [(20, 5), (21, 6)], [(22, 7)], [(19, 4), (23, 8)]], rh := fun _ => [], V := fun i g => gA undef [.slice p0_0 ((a0).length) c0_0, .int .i64 v2, .pointer (some ⟨eB p0_0, eO p0_0 + Int.toNat v2 * Enc.sz Ln + 0, none⟩), .agg #[.bool x4.va, .int .i64 x4.tg, .int .i64 x4.pg, .int .i64 x4.fr, .int .i64 x4.ri, .bool x4.wi], .slice p1_0 ((a1).length) c1_0, .int .i64 v2, .pointer (some ⟨eB p1_0, eO p1_0 + Int.toNat v2 * Enc.sz Ln + 0, none⟩), .agg #[.bool x5.va, .int .i64 x5.tg, .int .i64 x5.pg, .int .i64 x5.fr, .int .i64 x5.ri, .bool x5.wi], .bool (x4 != x5)] i, U := fun _ _ => [], Φ := fun _ _ => True } ?_ ?_)))))))))
        · exact ⟨⟨⟨⟨⟨⟨⟨⟨⟨trivial, lc rfl rfl fun hs hh => stp_move (sv hs 0 rfl)⟩, lc rfl rfl fun hs hh => stp_move (sv hs 5 rfl)⟩, lc rfl rfl fun hs hh => stp_indexAddr Tryd.underlying29 ts65 (by decide) (sv hs 16 rfl) rfl (sv hs 17 rfl) (Rdb.ro hr0_0) e4⟩, lc rfl rfl fun hs hh => stp_loadN (us := [_, _, _, _, _, _]) ts65 (sv hs 18 rfl) (Cells.el (Rdb.ro hr0_0) (by decide) e4 0 6 rfl)⟩, lc rfl rfl fun hs hh => stp_move (sv hs 1 rfl)⟩, lc rfl rfl fun hs hh => stp_move (sv hs 5 rfl)⟩, lc rfl rfl fun hs hh => stp_indexAddr Tryd.underlying29 ts65 (by decide) (sv hs 20 rfl) rfl (sv hs 21 rfl) (Rdb.ro hr1_0) e5⟩, lc rfl rfl fun hs hh => stp_loadN (us := [_, _, _, _, _, _]) ts65 (sv hs 22 rfl) (Cells.el (Rdb.ro hr1_0) (by decide) e5 0 6 rfl)⟩, lc rfl rfl fun hs hh => stp_neqS te65 x4 x5 (sv hs 19 rfl) (sv hs 23 rfl)⟩
        · intro g hΦ
          refine KW.sub (s' := [(0, .slice p0_0 ((a0).length) c0_0), (1, .slice p1_0 ((a1).length) c1_0), (12, .int .i64 ((a0).length : Int)), (13, .int .i64 v2), (24, .bool (x4 != x5))]) (h' := []) ?_ ⟨rfl, rfl, rfl, rfl, rfl, trivial⟩ trivial
          refine kw_nx (cw_cond rfl (fun h6 => ?_) (fun h6 => ?_))
          · have H1 := cond_t H1 h6
            refine sr (oD (sg rfl) rfl (nn (cw_ret (kw_bl_ret (kw_nx_ret (kw_lq_ret (kw_bl_ret (kw_join_ret (kw_nx_ret ?_)))))))))
            have q1 := Option.some.inj H1
            subst q1
            have q0 := Option.some.inj H0
            subst q0
            exact kw_ret Tryd.results50 (.cons (.tmp rfl) .nil) [] [] trivial (by decide) ⟨rfl, rfl⟩
          · have H1 := cond_f H1 h6
            obtain ⟨x7, e7, H1⟩ := bind_some H1
            exact cw_skip (kw_bl_normal (kw_nx (cw_region (oD (stp_add rfl rfl e7) rfl (oD (mv rfl) rfl (ow_nil (kw_lqS (js := []) (fuel, x7) H1 (Nat.lt_succ_self _) ⟨rfl, rfl, rfl, rfl, trivial⟩ trivial (by decide))))))))
      · have H1 := cond_f H1 h3
        refine cw_exit (kw_nx_exit (kw_lq_exit (kw_bl ?_)))
        have q1 := Option.some.inj H1
        subst q1
        exact kw_joinS (js := []) v2 rfl ⟨rfl, rfl, rfl, rfl, trivial⟩ trivial (by decide)
    · rintro v2 rfl
      refine KW.sub (s' := [(0, .slice p0_0 ((a0).length) c0_0), (1, .slice p1_0 ((a1).length) c1_0), (12, .int .i64 ((a0).length : Int)), (13, .int .i64 v2)]) (h' := []) ?_ ⟨rfl, rfl, rfl, rfl, trivial⟩ trivial
      refine kw_nx (sr (oD (sg rfl) rfl (nn (cw_ret ?_))))
      have q0 := Option.some.inj H0
      subst q0
      exact kw_ret Tryd.results50 (.cons (.tmp rfl) .nil) [] [] trivial (by decide) ⟨rfl, rfl⟩

set_option maxHeartbeats 4000000 in
set_option maxRecDepth 20000 in
theorem c_i_CacheSame (fl : Nat) (w : World) (a0 : Ca) (p0_0 : Option Addr) (n0_0 c0_0 : Nat) (a1 : Ca) (p1_0 : Option Addr) (n1_0 c1_0 : Nat) (hn0_0 : n0_0 = (a0.l).length) (hr0_0 : RO w (hkeys []) (RdL p0_0 c0_0 a0.l)) (hn1_0 : n1_0 = (a1.l).length) (hr1_0 : RO w (hkeys []) (RdL p1_0 c1_0 a1.l)) (r : Bool) (H0 : i_CacheSame fl a0 a1 = some r) :
    Ct Tryd.prog 21 [.agg #[.slice p0_0 n0_0 c0_0, .int .i64 a0.h], .agg #[.slice p1_0 n1_0 c1_0, .int .i64 a1.h]] w [] (fun rv h' => rv = .bool r ∧ h' = []) := by
  obtain rfl := hn0_0
  obtain rfl := hn1_0
  unfold i_CacheSame at H0
  refine ct_of_cw Tryd.func21 rfl Tryd.ntmps21 rfl (Sat.refl _ _) ?_
  refine sr (oE (stpU_box 0 rfl rfl) rfl ?_)
  rintro _ _ ⟨b1, rfl, rfl⟩
  refine oE (stpU_box 1 rfl rfl) rfl ?_
  rintro _ _ ⟨b2, rfl, rfl⟩
  obtain ⟨y3, ey3, H0⟩ := bind_some H0
  refine oD (sg rfl) rfl (nn (sr (oD (fA 1 Tryd.underlying31 rfl ts3 rfl rfl rfl) rfl (oD (lB 0 ts3 rfl rfl rfl) rfl (oD (fA 1 Tryd.underlying31 rfl ts3 rfl rfl rfl) rfl (oD (lB 1 ts3 rfl rfl rfl) rfl (oD (stp_eql rfl rfl) rfl (oD (mv rfl) rfl (ow_cutY 6 16 y3 ?_ ?_)))))))))
  · rcases Bool.eq_false_or_eq_true (a0.h == a1.h) with hy3 | hy3
    · have ey3 := cond_t ey3 hy3
      obtain ⟨x4, e4, ey3⟩ := bind_some ey3
      refine oG rfl hy3 (fA 0 Tryd.underlying31 rfl ts29 rfl rfl rfl) rfl (oG rfl hy3 (lB 0 ts29 rfl rfl rfl) rfl (oG rfl hy3 (fA 0 Tryd.underlying31 rfl ts29 rfl rfl rfl) rfl (oG rfl hy3 (lB 1 ts29 rfl rfl rfl) rfl (ow_eff (.some rfl hy3) (stpU_call (fun i => 2 + i) cf50 (fun w hw => c_slices_Equal_Line fl w a0.l p0_0 ((a0.l).length) c0_0 a1.l p1_0 ((a1.l).length) c1_0 rfl (RO.pass hr0_0 hw) rfl (RO.pass hr1_0 hw) x4 e4) (sevs_cons rfl (sevs_cons rfl sevs_nil))) rfl ?_))))
      rintro _ _ ⟨_, ⟨rfl, rfl⟩, rfl⟩
      refine oD (stp_pick_t rfl hy3 rfl) rfl ?_
      obtain rfl := Option.some.inj ey3
      exact ow_nil (jy 6 0)
    · have ey3 := cond_f ey3 hy3
      refine oO rfl hy3 rfl (oO rfl hy3 rfl (oO rfl hy3 rfl (oO rfl hy3 rfl (oO rfl hy3 rfl (oD (stp_pick_f rfl hy3 rfl) rfl ?_)))))
      obtain rfl := Option.some.inj ey3
      exact ow_nil (jy 6 0)
  · refine oD (sg rfl) rfl (nn (cw_ret ?_))
    have q0 := Option.some.inj H0
    subst q0
    exact kw_ret Tryd.results21 (.cons (.tmp rfl) .nil) [] [] trivial (by decide) ⟨rfl, rfl⟩

set_option maxHeartbeats 4000000 in
set_option maxRecDepth 20000 in
theorem c_slices_Equal_Own (fl : Nat) (w : World) (a0 : (List Ow)) (p0_0 : Option Addr) (n0_0 c0_0 : Nat) (a1 : (List Ow)) (p1_0 : Option Addr) (n1_0 c1_0 : Nat) (hn0_0 : n0_0 = (a0).length) (hr0_0 : RO w (hkeys []) (RdL p0_0 c0_0 a0)) (hn1_0 : n1_0 = (a1).length) (hr1_0 : RO w (hkeys []) (RdL p1_0 c1_0 a1)) (r : Bool) (H0 : slices_Equal_Own fl a0 a1 = some r) :
    Ct Tryd.prog 51 [.slice p0_0 n0_0 c0_0, .slice p1_0 n1_0 c1_0] w [] (fun rv h' => rv = .bool r ∧ h' = []) := by
  obtain rfl := hn0_0
  obtain rfl := hn1_0
  unfold slices_Equal_Own at H0
  refine ct_of_cw Tryd.func51 rfl Tryd.ntmps51 rfl (Sat.refl _ _) ?_
  refine sr (oD (sg rfl) rfl (nn (cw_seq (sr (oD (mv rfl) rfl (oD (stp_len Tryd.underlying32 rfl) rfl (oD (mv rfl) rfl (oD (stp_len Tryd.underlying32 rfl) rfl (oD (stp_neq rfl rfl) rfl (nn (cw_cond rfl (fun h1 => ?_) (fun h1 => ?_))))))))))))
  · have H0 := cond_t H0 h1
    refine sr (oD (sg rfl) rfl (nn (cw_ret (kw_nx_ret ?_))))
    have q0 := Option.some.inj H0
    subst q0
    exact kw_ret Tryd.results51 (.cons (.tmp rfl) .nil) [] [] trivial (by decide) ⟨rfl, rfl⟩
  · have H0 := cond_f H0 h1
    obtain ⟨o0_0, eo0_0, H0⟩ := bind_some H0
    refine cw_skip (kw_nx (cw_seq (sr (oD (mv rfl) rfl (oD (stp_len Tryd.underlying32 rfl) rfl (oD (mv rfl) rfl (nn (cw_join (ι := Int) (fun | v2 => o0_0 = .out v2) (fun | v2 => [(0, .slice p0_0 ((a0).length) c0_0), (1, .slice p1_0 ((a1).length) c1_0), (12, .int .i64 ((a0).length : Int)), (13, .int .i64 v2)]) (fun | v2 => []) ?_ ?_))))))))
    · refine cw_block (cw_loopS (ι := Nat × Int) (js := []) (fun x => x.1) (fun | (fuel, v2) => slices_Equal_Own_L0 fl a0 a1 fuel v2 = some o0_0) (fun | (_, v2) => [(0, .slice p0_0 ((a0).length) c0_0), (1, .slice p1_0 ((a1).length) c1_0), (12, .int .i64 ((a0).length : Int)), (13, .int .i64 v2)]) (fun | (_, v2) => []) (fl, 0) eo0_0 ⟨rfl, rfl, rfl, rfl, trivial⟩ trivial (by decide) ?_)
      rintro ⟨fuel, v2⟩ H1
      have H1 : slices_Equal_Own_L0 fl a0 a1 fuel v2 = some o0_0 := H1
      rcases fuel with _ | fuel
      · rw [slices_Equal_Own_L0.eq_1] at H1; cases H1
      rw [slices_Equal_Own_L0.eq_2] at H1
      refine CW.sub (s' := [(0, .slice p0_0 ((a0).length) c0_0), (1, .slice p1_0 ((a1).length) c1_0), (12, .int .i64 ((a0).length : Int)), (13, .int .i64 v2)]) (h' := []) ?_ ⟨rfl, rfl, rfl, rfl, trivial⟩ trivial
      refine sr (oD (stp_lss rfl rfl) rfl (nn (cw_seq (cw_cond rfl (fun h3 => ?_) (fun h3 => ?_)))))
      · have H1 := cond_t H1 h3
        obtain ⟨x4, e4, H1⟩ := bind_some H1
        obtain ⟨x5, e5, H1⟩ := bind_some H1
        refine cw_skip (kw_nx (cw_seq (cw_block (sr (oD (mv rfl) rfl (oD (sg rfl) rfl (nn (cw_seq (rdr g_mixed [0, 1, 5] [] { dst := dS [17, 18, 19, 20, 21, 22, 23, 24, 25], pre := gA [] [[], [], [0, 1], [0, 1, 2], [], [], [4, 5], [4, 5, 6], rn 0 8], ids := fun _ => [], rs := rL [[(0, 0)], [(5, 0)], [(16, 1), (17, 2)], [(18, 3)], [(1, 0)], [(5, 0)], [(20, 5), (21, 6)], [(22, 7)], [(19, 4), (23, 8)]], rh := fun _ => [], V := fun i g => gA undef [.slice p0_0 ((a0).length) c0_0, .int .i64 v2, .pointer (some ⟨eB p0_0, eO p0_0 + Int.toNat v2 * Enc.sz Ow + 0, none⟩), .agg #[.int .i64 x4.sp, .int .i64 x4.tg], .slice p1_0 ((a1).length) c1_0, .int .i64 v2, .pointer (some ⟨eB p1_0, eO p1_0 + Int.toNat v2 * Enc.sz Ow + 0, none⟩), .agg #[.int .i64 x5.sp, .int .i64 x5.tg], .bool (x4 != x5)] i, U := fun _ _ => [], Φ := fun _ _ => True } ?_ ?_)))))))))
        · exact ⟨⟨⟨⟨⟨⟨⟨⟨⟨trivial, lc rfl rfl fun hs hh => stp_move (sv hs 0 rfl)⟩, lc rfl rfl fun hs hh => stp_move (sv hs 5 rfl)⟩, lc rfl rfl fun hs hh => stp_indexAddr Tryd.underlying32 ts85 (by decide) (sv hs 16 rfl) rfl (sv hs 17 rfl) (Rdb.ro hr0_0) e4⟩, lc rfl rfl fun hs hh => stp_loadN (us := [_, _]) ts85 (sv hs 18 rfl) (Cells.el (Rdb.ro hr0_0) (by decide) e4 0 2 rfl)⟩, lc rfl rfl fun hs hh => stp_move (sv hs 1 rfl)⟩, lc rfl rfl fun hs hh => stp_move (sv hs 5 rfl)⟩, lc rfl rfl fun hs hh => stp_indexAddr Tryd.underlying32 ts85 (by decide) (sv hs 20 rfl) rfl (sv hs 21 rfl) (Rdb.ro hr1_0) e5⟩, lc rfl rfl fun hs hh => stp_loadN (us := [_, _]) ts85 (sv hs 22 rfl) (Cells.el (Rdb.ro hr1_0) (by decide) e5 0 2 rfl)⟩, lc rfl rfl fun hs hh => stp_neqS te85 x4 x5 (sv hs 19 rfl) (sv hs 23 rfl)⟩
        · intro g hΦ
          refine KW.sub (s' := [(0, .slice p0_0 ((a0).length) c0_0), (1, .slice p1_0 ((a1).length) c1_0), (12, .int .i64 ((a0).length : Int)), (13, .int .i64 v2), (24, .bool (x4 != x5))]) (h' := []) ?_ ⟨rfl, rfl, rfl, rfl, rfl, trivial⟩ trivial
          refine kw_nx (cw_cond rfl (fun h6 => ?_) (fun h6 => ?_))
          · have H1 := cond_t H1 h6
            refine sr (oD (sg rfl) rfl (nn (cw_ret (kw_bl_ret (kw_nx_ret (kw_lq_ret (kw_bl_ret (kw_join_ret (kw_nx_ret ?_)))))))))
            have q1 := Option.some.inj H1
            subst q1
            have q0 := Option.some.inj H0
            subst q0
            exact kw_ret Tryd.results51 (.cons (.tmp rfl) .nil) [] [] trivial (by decide) ⟨rfl, rfl⟩
          · have H1 := cond_f H1 h6
            obtain ⟨x7, e7, H1⟩ := bind_some H1
            exact cw_skip (kw_bl_normal (kw_nx (cw_region (oD (stp_add rfl rfl e7) rfl (oD (mv rfl) rfl (ow_nil (kw_lqS (js := []) (fuel, x7) H1 (Nat.lt_succ_self _) ⟨rfl, rfl, rfl, rfl, trivial⟩ trivial (by decide))))))))
      · have H1 := cond_f H1 h3
        refine cw_exit (kw_nx_exit (kw_lq_exit (kw_bl ?_)))
        have q1 := Option.some.inj H1
        subst q1
        exact kw_joinS (js := []) v2 rfl ⟨rfl, rfl, rfl, rfl, trivial⟩ trivial (by decide)
    · rintro v2 rfl
      refine KW.sub (s' := [(0, .slice p0_0 ((a0).length) c0_0), (1, .slice p1_0 ((a1).length) c1_0), (12, .int .i64 ((a0).length : Int)), (13, .int .i64 v2)]) (h' := []) ?_ ⟨rfl, rfl, rfl, rfl, trivial⟩ trivial
      refine kw_nx (sr (oD (sg rfl) rfl (nn (cw_ret ?_))))
      have q0 := Option.some.inj H0
      subst q0
      exact kw_ret Tryd.results51 (.cons (.tmp rfl) .nil) [] [] trivial (by decide) ⟨rfl, rfl⟩

set_option maxHeartbeats 4000000 in
set_option maxRecDepth 20000 in
theorem c_i_TagsSame (fl : Nat) (w : World) (a0 : Tg) (p0_0 : Option Addr) (n0_0 c0_0 : Nat) (a1 : Tg) (p1_0 : Option Addr) (n1_0 c1_0 : Nat) (hn0_0 : n0_0 = (a0.o).length) (hr0_0 : RO w (hkeys []) (RdL p0_0 c0_0 a0.o)) (hn1_0 : n1_0 = (a1.o).length) (hr1_0 : RO w (hkeys []) (RdL p1_0 c1_0 a1.o)) (r : Bool) (H0 : i_TagsSame fl a0 a1 = some r) :
    Ct Tryd.prog 22 [.agg #[.int .i64 a0.c, .int .i64 a0.n, .int .i64 a0.r, .slice p0_0 n0_0 c0_0], .agg #[.int .i64 a1.c, .int .i64 a1.n, .int .i64 a1.r, .slice p1_0 n1_0 c1_0]] w [] (fun rv h' => rv = .bool r ∧ h' = []) := by
  obtain rfl := hn0_0
  obtain rfl := hn1_0
  unfold i_TagsSame at H0
  refine ct_of_cw Tryd.func22 rfl Tryd.ntmps22 rfl (Sat.refl _ _) ?_
  refine sr (oE (stpU_box 0 rfl rfl) rfl ?_)
  rintro _ _ ⟨b1, rfl, rfl⟩
  refine oE (stpU_box 1 rfl rfl) rfl ?_
  rintro _ _ ⟨b2, rfl, rfl⟩
  obtain ⟨y3, ey3, H0⟩ := bind_some H0
  refine oD (sg rfl) rfl (nn (sr (oD (fA 0 Tryd.underlying34 rfl ts3 rfl rfl rfl) rfl (oD (lB 0 ts3 rfl rfl rfl) rfl (oD (fA 0 Tryd.underlying34 rfl ts3 rfl rfl rfl) rfl (oD (lB 1 ts3 rfl rfl rfl) rfl (oD (stp_eql rfl rfl) rfl (oD (mv rfl) rfl (ow_cutY 6 16 y3 ?_ ?_)))))))))
  · rcases Bool.eq_false_or_eq_true (a0.c == a1.c) with hy3 | hy3
    · have ey3 := cond_t ey3 hy3
      refine oG rfl hy3 (fA 1 Tryd.underlying34 rfl ts3 rfl rfl rfl) rfl (oG rfl hy3 (lB 0 ts3 rfl rfl rfl) rfl (oG rfl hy3 (fA 1 Tryd.underlying34 rfl ts3 rfl rfl rfl) rfl (oG rfl hy3 (lB 1 ts3 rfl rfl rfl) rfl (oG rfl hy3 (stp_eql rfl rfl) rfl (oD (stp_pick_t rfl hy3 rfl) rfl ?_)))))
      obtain rfl := Option.some.inj ey3
      exact ow_nil (jy 6 0)
    · have ey3 := cond_f ey3 hy3
      refine oO rfl hy3 rfl (oO rfl hy3 rfl (oO rfl hy3 rfl (oO rfl hy3 rfl (oO rfl hy3 rfl (oD (stp_pick_f rfl hy3 rfl) rfl ?_)))))
      obtain rfl := Option.some.inj ey3
      exact ow_nil (jy 6 0)
  · obtain ⟨y4, ey4, H0⟩ := bind_some H0
    refine oD (mv rfl) rfl (ow_cutY 6 23 y4 ?_ ?_)
    · rcases Bool.eq_false_or_eq_true y3 with hy4 | hy4
      · have ey4 := cond_t ey4 hy4
        refine oG rfl hy4 (fA 2 Tryd.underlying34 rfl ts3 rfl rfl rfl) rfl (oG rfl hy4 (lB 0 ts3 rfl rfl rfl) rfl (oG rfl hy4 (fA 2 Tryd.underlying34 rfl ts3 rfl rfl rfl) rfl (oG rfl hy4 (lB 1 ts3 rfl rfl rfl) rfl (oG rfl hy4 (stp_eql rfl rfl) rfl (oD (stp_pick_t rfl hy4 rfl) rfl ?_)))))
        obtain rfl := Option.some.inj ey4
        exact ow_nil (jy 6 0)
      · have ey4 := cond_f ey4 hy4
        refine oO rfl hy4 rfl (oO rfl hy4 rfl (oO rfl hy4 rfl (oO rfl hy4 rfl (oO rfl hy4 rfl (oD (stp_pick_f rfl hy4 rfl) rfl ?_)))))
        obtain rfl := Option.some.inj ey4
        exact ow_nil (jy 6 0)
    · obtain ⟨y5, ey5, H0⟩ := bind_some H0
      refine oD (mv rfl) rfl (ow_cutY 6 30 y5 ?_ ?_)
      · rcases Bool.eq_false_or_eq_true y4 with hy5 | hy5
        · have ey5 := cond_t ey5 hy5
          obtain ⟨x6, e6, ey5⟩ := bind_some ey5
          refine oG rfl hy5 (fA 3 Tryd.underlying34 rfl ts32 rfl rfl rfl) rfl (oG rfl hy5 (lB 0 ts32 rfl rfl rfl) rfl (oG rfl hy5 (fA 3 Tryd.underlying34 rfl ts32 rfl rfl rfl) rfl (oG rfl hy5 (lB 1 ts32 rfl rfl rfl) rfl (ow_eff (.some rfl hy5) (stpU_call (fun i => 2 + i) cf51 (fun w hw => c_slices_Equal_Own fl w a0.o p0_0 ((a0.o).length) c0_0 a1.o p1_0 ((a1.o).length) c1_0 rfl (RO.pass hr0_0 hw) rfl (RO.pass hr1_0 hw) x6 e6) (sevs_cons rfl (sevs_cons rfl sevs_nil))) rfl ?_))))
          rintro _ _ ⟨_, ⟨rfl, rfl⟩, rfl⟩
          refine oD (stp_pick_t rfl hy5 rfl) rfl ?_
          obtain rfl := Option.some.inj ey5
          exact ow_nil (jy 6 0)
        · have ey5 := cond_f ey5 hy5
          refine oO rfl hy5 rfl (oO rfl hy5 rfl (oO rfl hy5 rfl (oO rfl hy5 rfl (oO rfl hy5 rfl (oD (stp_pick_f rfl hy5 rfl) rfl ?_)))))
          obtain rfl := Option.some.inj ey5
          exact ow_nil (jy 6 0)
      · refine oD (sg rfl) rfl (nn (cw_ret ?_))
        have q0 := Option.some.inj H0
        subst q0
        exact kw_ret Tryd.results22 (.cons (.tmp rfl) .nil) [] [] trivial (by decide) ⟨rfl, rfl⟩

set_option maxHeartbeats 4000000 in
set_option maxRecDepth 20000 in
theorem c_i_MachineSame (fl : Nat) (w : World) (a0 : Mc) (p0_0 : Option Addr) (n0_0 c0_0 : Nat) (p0_1 : Option Addr) (n0_1 c0_1 : Nat) (p0_2 : Option Addr) (n0_2 c0_2 : Nat) (p0_3 : Option Addr) (n0_3 c0_3 : Nat) (a1 : Mc) (p1_0 : Option Addr) (n1_0 c1_0 : Nat) (p1_1 : Option Addr) (n1_1 c1_1 : Nat) (p1_2 : Option Addr) (n1_2 c1_2 : Nat) (p1_3 : Option Addr) (n1_3 c1_3 : Nat) (hn0_0 : n0_0 = (a0.t.b).length) (hr0_0 : RO w (hkeys []) (RdL p0_0 c0_0 a0.t.b)) (hn0_1 : n0_1 = (a0.t.f).length) (hr0_1 : RO w (hkeys []) (RdL p0_1 c0_1 a0.t.f)) (hn0_2 : n0_2 = (a0.c.l).length) (hr0_2 : RO w (hkeys []) (RdL p0_2 c0_2 a0.c.l)) (hn0_3 : n0_3 = (a0.g.o).length) (hr0_3 : RO w (hkeys []) (RdL p0_3 c0_3 a0.g.o)) (hn1_0 : n1_0 = (a1.t.b).length) (hr1_0 : RO w (hkeys []) (RdL p1_0 c1_0 a1.t.b)) (hn1_1 : n1_1 = (a1.t.f).length) (hr1_1 : RO w (hkeys []) (RdL p1_1 c1_1 a1.t.f)) (hn1_2 : n1_2 = (a1.c.l).length) (hr1_2 : RO w (hkeys []) (RdL p1_2 c1_2 a1.c.l)) (hn1_3 : n1_3 = (a1.g.o).length) (hr1_3 : RO w (hkeys []) (RdL p1_3 c1_3 a1.g.o)) (r : Bool) (H0 : i_MachineSame fl a0 a1 = some r) :
    Ct Tryd.prog 7 [.agg #[.slice p0_0 n0_0 c0_0, .slice p0_1 n0_1 c0_1, .slice p0_2 n0_2 c0_2, .int .i64 a0.c.h, .int .i64 a0.g.c, .int .i64 a0.g.n, .int .i64 a0.g.r, .slice p0_3 n0_3 c0_3, .int .i64 a0.s], .agg #[.slice p1_0 n1_0 c1_0, .slice p1_1 n1_1 c1_1, .slice p1_2 n1_2 c1_2, .int .i64 a1.c.h, .int .i64 a1.g.c, .int .i64 a1.g.n, .int .i64 a1.g.r, .slice p1_3 n1_3 c1_3, .int .i64 a1.s]] w [] (fun rv h' => rv = .bool r ∧ h' = []) := by
  obtain rfl := hn0_0
  obtain rfl := hn0_1
  obtain rfl := hn0_2
  obtain rfl := hn0_3
  obtain rfl := hn1_0
  obtain rfl := hn1_1
  obtain rfl := hn1_2
  obtain rfl := hn1_3
  unfold i_MachineSame at H0
  refine ct_of_cw Tryd.func7 rfl Tryd.ntmps7 rfl (Sat.refl _ _) ?_
  refine sr (oE (stpU_box 0 rfl rfl) rfl ?_)
  rintro _ _ ⟨b1, rfl, rfl⟩
  refine oE (stpU_box 1 rfl rfl) rfl ?_
  rintro _ _ ⟨b2, rfl, rfl⟩
  obtain ⟨x3, e3, H0⟩ := bind_some H0
  refine oD (sg rfl) rfl (nn (sr (oD (fA 0 Tryd.underlying36 rfl ts28 rfl rfl rfl) rfl (oD (stp_loadN (us := [_, _]) ts28 rfl (Cells.box (id := 0) rfl 2 rfl)) rfl (oD (fA 0 Tryd.underlying36 rfl ts28 rfl rfl rfl) rfl (oD (stp_loadN (us := [_, _]) ts28 rfl (Cells.box (id := 1) rfl 2 rfl)) rfl (oE (stpU_call (fun i => 2 + i) cf20 (fun w hw => c_i_TableSame fl w a0.t p0_0 ((a0.t.b).length) c0_0 p0_1 ((a0.t.f).length) c0_1 a1.t p1_0 ((a1.t.b).length) c1_0 p1_1 ((a1.t.f).length) c1_1 rfl (RO.pass hr0_0 hw) rfl (RO.pass hr0_1 hw) rfl (RO.pass hr1_0 hw) rfl (RO.pass hr1_1 hw) x3 e3) (sevs_cons rfl (sevs_cons rfl sevs_nil))) rfl ?_)))))))
  rintro _ _ ⟨_, ⟨rfl, rfl⟩, rfl⟩
  obtain ⟨y4, ey4, H0⟩ := bind_some H0
  refine oD (mv rfl) rfl (ow_cutY 6 16 y4 ?_ ?_)
  · rcases Bool.eq_false_or_eq_true x3 with hy4 | hy4
    · have ey4 := cond_t ey4 hy4
      obtain ⟨x5, e5, ey4⟩ := bind_some ey4
      refine oG rfl hy4 (fA 2 Tryd.underlying36 rfl ts31 rfl rfl rfl) rfl (oG rfl hy4 (stp_loadN (us := [_, _]) ts31 rfl (Cells.box (id := 0) rfl 2 rfl)) rfl (oG rfl hy4 (fA 2 Tryd.underlying36 rfl ts31 rfl rfl rfl) rfl (oG rfl hy4 (stp_loadN (us := [_, _]) ts31 rfl (Cells.box (id := 1) rfl 2 rfl)) rfl (ow_eff (.some rfl hy4) (stpU_call (fun i => 2 + i) cf21 (fun w hw => c_i_CacheSame fl w a0.c p0_2 ((a0.c.l).length) c0_2 a1.c p1_2 ((a1.c.l).length) c1_2 rfl (RO.pass hr0_2 hw) rfl (RO.pass hr1_2 hw) x5 e5) (sevs_cons rfl (sevs_cons rfl sevs_nil))) rfl ?_))))
      rintro _ _ ⟨_, ⟨rfl, rfl⟩, rfl⟩
      refine oD (stp_pick_t rfl hy4 rfl) rfl ?_
      obtain rfl := Option.some.inj ey4
      exact ow_nil (jy 6 0)
    · have ey4 := cond_f ey4 hy4
      refine oO rfl hy4 rfl (oO rfl hy4 rfl (oO rfl hy4 rfl (oO rfl hy4 rfl (oO rfl hy4 rfl (oD (stp_pick_f rfl hy4 rfl) rfl ?_)))))
      obtain rfl := Option.some.inj ey4
      exact ow_nil (jy 6 0)
  · obtain ⟨y6, ey6, H0⟩ := bind_some H0
    refine oD (mv rfl) rfl (ow_cutY 6 23 y6 ?_ ?_)
    · rcases Bool.eq_false_or_eq_true y4 with hy6 | hy6
      · have ey6 := cond_t ey6 hy6
        obtain ⟨x7, e7, ey6⟩ := bind_some ey6
        refine oG rfl hy6 (fA 4 Tryd.underlying36 rfl ts34 rfl rfl rfl) rfl (oG rfl hy6 (stp_loadN (us := [_, _, _, _]) ts34 rfl (Cells.box (id := 0) rfl 4 rfl)) rfl (oG rfl hy6 (fA 4 Tryd.underlying36 rfl ts34 rfl rfl rfl) rfl (oG rfl hy6 (stp_loadN (us := [_, _, _, _]) ts34 rfl (Cells.box (id := 1) rfl 4 rfl)) rfl (ow_eff (.some rfl hy6) (stpU_call (fun i => 2 + i) cf22 (fun w hw => c_i_TagsSame fl w a0.g p0_3 ((a0.g.o).length) c0_3 a1.g p1_3 ((a1.g.o).length) c1_3 rfl (RO.pass hr0_3 hw) rfl (RO.pass hr1_3 hw) x7 e7) (sevs_cons rfl (sevs_cons rfl sevs_nil))) rfl ?_))))
        rintro _ _ ⟨_, ⟨rfl, rfl⟩, rfl⟩
        refine oD (stp_pick_t rfl hy6 rfl) rfl ?_
        obtain rfl := Option.some.inj ey6
        exact ow_nil (jy 6 0)
      · have ey6 := cond_f ey6 hy6
        refine oO rfl hy6 rfl (oO rfl hy6 rfl (oO rfl hy6 rfl (oO rfl hy6 rfl (oO rfl hy6 rfl (oD (stp_pick_f rfl hy6 rfl) rfl ?_)))))
        obtain rfl := Option.some.inj ey6
        exact ow_nil (jy 6 0)
    · obtain ⟨y8, ey8, H0⟩ := bind_some H0
      refine oD (mv rfl) rfl (ow_cutY 6 30 y8 ?_ ?_)
      · rcases Bool.eq_false_or_eq_true y6 with hy8 | hy8
        · have ey8 := cond_t ey8 hy8
          refine oG rfl hy8 (fA 8 Tryd.underlying36 rfl ts3 rfl rfl rfl) rfl (oG rfl hy8 (lB 0 ts3 rfl rfl rfl) rfl (oG rfl hy8 (fA 8 Tryd.underlying36 rfl ts3 rfl rfl rfl) rfl (oG rfl hy8 (lB 1 ts3 rfl rfl rfl) rfl (oG rfl hy8 (stp_eql rfl rfl) rfl (oD (stp_pick_t rfl hy8 rfl) rfl ?_)))))
          obtain rfl := Option.some.inj ey8
          exact ow_nil (jy 6 0)
        · have ey8 := cond_f ey8 hy8
          refine oO rfl hy8 rfl (oO rfl hy8 rfl (oO rfl hy8 rfl (oO rfl hy8 rfl (oO rfl hy8 rfl (oD (stp_pick_f rfl hy8 rfl) rfl ?_)))))
          obtain rfl := Option.some.inj ey8
          exact ow_nil (jy 6 0)
      · refine oD (sg rfl) rfl (nn (cw_ret ?_))
        have q0 := Option.some.inj H0
        subst q0
        exact kw_ret Tryd.results7 (.cons (.tmp rfl) .nil) [] [] trivial (by decide) ⟨rfl, rfl⟩

theorem c_i_TableValid (fl : Nat) (w : World) (a0 : T) (p0_0 : Option Addr) (n0_0 c0_0 : Nat) (p0_1 : Option Addr) (n0_1 c0_1 : Nat) (hn0_0 : n0_0 = (a0.b).length) (hr0_0 : RO w (hkeys []) (RdL p0_0 c0_0 a0.b)) (hn0_1 : n0_1 = (a0.f).length) (hr0_1 : RO w (hkeys []) (RdL p0_1 c0_1 a0.f)) (hg : RO w (hkeys []) (fun w' => w'.rangeAt 0 0 [.bool false, .int .i64 0, .int .i64 0, .int .i64 0, .int .i64 (-1)])) (r : Bool) (H0 : i_TableValid fl a0 = some r) :
    Ct Tryd.prog 32 [.agg #[.slice p0_0 n0_0 c0_0, .slice p0_1 n0_1 c0_1]] w [] (fun rv h' => rv = .bool r ∧ h' = []) := by
  obtain rfl := hn0_0
  obtain rfl := hn0_1
  unfold i_TableValid at H0
  obtain rfl := Option.some.inj H0
  exact ct_of_calls (tableValid_c _ a0 w ⟨_, _, rfl, (hr0_0 w (Fr.refl _ _)).rd, (hr0_1 w (Fr.refl _ _)).rd⟩ (freeG_of (hg w (Fr.refl _ _))))

set_option maxHeartbeats 4000000 in
set_option maxRecDepth 20000 in
theorem c_i_tagValid (fl : Nat) (w : World) (a0 : Int) (r : Bool) (H0 : i_tagValid fl a0 = some r) :
    Ct Tryd.prog 73 [.int .i64 a0] w [] (fun rv h' => rv = .bool r ∧ h' = []) := by
  unfold i_tagValid at H0
  refine ct_of_cw Tryd.func73 rfl Tryd.ntmps73 rfl (Sat.refl _ _) ?_
  obtain ⟨y1, ey1, H0⟩ := bind_some H0
  refine sr (oD (sg rfl) rfl (nn (sr (oD (mv rfl) rfl (oD (stp_geq rfl rfl) rfl (oD (mv rfl) rfl (ow_cutY 3 8 y1 ?_ ?_)))))))
  · rcases Bool.eq_false_or_eq_true (decide ((-1) ≤ a0)) with hy1 | hy1
    · have ey1 := cond_t ey1 hy1
      refine oG rfl hy1 (mv rfl) rfl (oG rfl hy1 (stp_lss rfl rfl) rfl (oD (stp_pick_t rfl hy1 rfl) rfl ?_))
      obtain rfl := Option.some.inj ey1
      exact ow_nil (jy 3 0)
    · have ey1 := cond_f ey1 hy1
      refine oO rfl hy1 rfl (oO rfl hy1 rfl (oD (stp_pick_f rfl hy1 rfl) rfl ?_))
      obtain rfl := Option.some.inj ey1
      exact ow_nil (jy 3 0)
  · refine oD (sg rfl) rfl (nn (cw_ret ?_))
    have q0 := Option.some.inj H0
    subst q0
    exact kw_ret Tryd.results73 (.cons (.tmp rfl) .nil) [] [] trivial (by decide) ⟨rfl, rfl⟩

set_option maxHeartbeats 4000000 in
set_option maxRecDepth 20000 in
theorem c_i_RightsValid (fl : Nat) (w : World) (a0 : Int) (r : Bool) (H0 : i_RightsValid fl a0 = some r) :
    Ct Tryd.prog 24 [.int .i64 a0] w [] (fun rv h' => rv = .bool r ∧ h' = []) := by
  unfold i_RightsValid at H0
  refine ct_of_cw Tryd.func24 rfl Tryd.ntmps24 rfl (Sat.refl _ _) ?_
  obtain ⟨x1, e1, H0⟩ := bind_some H0
  refine sr (oD (sg rfl) rfl (nn (sr (oD (mv rfl) rfl (oE (stpU_call (fun i => 0 + i) cf23 (fun w hw => c_i_within fl w a0 8 x1 e1) (sevs_cons rfl (sevs_cons rfl sevs_nil))) rfl ?_)))))
  rintro _ _ ⟨_, ⟨rfl, rfl⟩, rfl⟩
  refine oD (sg rfl) rfl (nn (cw_ret ?_))
  have q0 := Option.some.inj H0
  subst q0
  exact kw_ret Tryd.results24 (.cons (.tmp rfl) .nil) [] [] trivial (by decide) ⟨rfl, rfl⟩

set_option maxHeartbeats 4000000 in
set_option maxRecDepth 20000 in
theorem c_i_lineValid (fl : Nat) (w : World) (a0 : Ln) (r : Bool) (H0 : i_lineValid fl a0 = some r) :
    Ct Tryd.prog 61 [.agg #[.bool a0.va, .int .i64 a0.tg, .int .i64 a0.pg, .int .i64 a0.fr, .int .i64 a0.ri, .bool a0.wi]] w [] (fun rv h' => rv = .bool r ∧ h' = []) := by
  unfold i_lineValid at H0
  refine ct_of_cw Tryd.func61 rfl Tryd.ntmps61 rfl (Sat.refl _ _) ?_
  refine sr (oE (stpU_box 0 rfl rfl) rfl ?_)
  rintro _ _ ⟨b1, rfl, rfl⟩
  refine oD (sg rfl) rfl (nn (cw_seq (sr (oD (fA 0 Tryd.underlying65 rfl ts4 rfl rfl rfl) rfl (oD (lB 0 ts4 rfl rfl rfl) rfl (oD (stp_not rfl) rfl (nn (cw_cond rfl (fun h2 => ?_) (fun h2 => ?_)))))))))
  · have H0 := cond_t H0 h2
    refine sr (oD (stp_loadN (us := [_, _, _, _, _, _]) ts65 rfl (Cells.box (id := 0) rfl 6 rfl)) rfl (oD (stp_build (cs := #[.bool false, .int .i64 0, .int .i64 0, .int .i64 0, .int .i64 0, .bool false]) sevp_nil bt65_15) rfl (oD (stp_eqlS te65 a0 (⟨false, 0, 0, 0, 0, false⟩ : Ln) rfl rfl) rfl (oD (sg rfl) rfl (nn (cw_ret (kw_nx_ret ?_)))))))
    have q0 := Option.some.inj H0
    subst q0
    exact kw_ret Tryd.results61 (.cons (.tmp rfl) .nil) [] [] trivial (by decide) ⟨rfl, rfl⟩
  · have H0 := cond_f H0 h2
    obtain ⟨x3, e3, H0⟩ := bind_some H0
    refine cw_skip (kw_nx (sr (oD (fA 1 Tryd.underlying65 rfl ts3 rfl rfl rfl) rfl (oD (lB 0 ts3 rfl rfl rfl) rfl (oE (stpU_call (fun i => 1 + i) cf73 (fun w hw => c_i_tagValid fl w a0.tg x3 e3) (sevs_cons rfl sevs_nil)) rfl ?_)))))
    rintro _ _ ⟨_, ⟨rfl, rfl⟩, rfl⟩
    obtain ⟨y4, ey4, H0⟩ := bind_some H0
    refine oD (mv rfl) rfl (ow_cutY 4 16 y4 ?_ ?_)
    · rcases Bool.eq_false_or_eq_true x3 with hy4 | hy4
      · have ey4 := cond_t ey4 hy4
        obtain ⟨x5, e5, ey4⟩ := bind_some ey4
        refine oG rfl hy4 (fA 2 Tryd.underlying65 rfl ts3 rfl rfl rfl) rfl (oG rfl hy4 (lB 0 ts3 rfl rfl rfl) rfl (ow_eff (.some rfl hy4) (stpU_call (fun i => 1 + i) cf23 (fun w hw => c_i_within fl w a0.pg 256 x5 e5) (sevs_cons rfl (sevs_cons rfl sevs_nil))) rfl ?_))
        rintro _ _ ⟨_, ⟨rfl, rfl⟩, rfl⟩
        refine oD (stp_pick_t rfl hy4 rfl) rfl ?_
        obtain rfl := Option.some.inj ey4
        exact ow_nil (jy 4 0)
      · have ey4 := cond_f ey4 hy4
        refine oO rfl hy4 rfl (oO rfl hy4 rfl (oO rfl hy4 rfl (oD (stp_pick_f rfl hy4 rfl) rfl ?_)))
        obtain rfl := Option.some.inj ey4
        exact ow_nil (jy 4 0)
    · obtain ⟨y6, ey6, H0⟩ := bind_some H0
      refine oD (mv rfl) rfl (ow_cutY 4 21 y6 ?_ ?_)
      · rcases Bool.eq_false_or_eq_true y4 with hy6 | hy6
        · have ey6 := cond_t ey6 hy6
          obtain ⟨x7, e7, ey6⟩ := bind_some ey6
          refine oG rfl hy6 (fA 3 Tryd.underlying65 rfl ts3 rfl rfl rfl) rfl (oG rfl hy6 (lB 0 ts3 rfl rfl rfl) rfl (ow_eff (.some rfl hy6) (stpU_call (fun i => 1 + i) cf23 (fun w hw => c_i_within fl w a0.fr 16 x7 e7) (sevs_cons rfl (sevs_cons rfl sevs_nil))) rfl ?_))
          rintro _ _ ⟨_, ⟨rfl, rfl⟩, rfl⟩
          refine oD (stp_pick_t rfl hy6 rfl) rfl ?_
          obtain rfl := Option.some.inj ey6
          exact ow_nil (jy 4 0)
        · have ey6 := cond_f ey6 hy6
          refine oO rfl hy6 rfl (oO rfl hy6 rfl (oO rfl hy6 rfl (oD (stp_pick_f rfl hy6 rfl) rfl ?_)))
          obtain rfl := Option.some.inj ey6
          exact ow_nil (jy 4 0)
      · obtain ⟨y8, ey8, H0⟩ := bind_some H0
        refine oD (mv rfl) rfl (ow_cutY 4 26 y8 ?_ ?_)
        · rcases Bool.eq_false_or_eq_true y6 with hy8 | hy8
          · have ey8 := cond_t ey8 hy8
            obtain ⟨x9, e9, ey8⟩ := bind_some ey8
            refine oG rfl hy8 (fA 4 Tryd.underlying65 rfl ts3 rfl rfl rfl) rfl (oG rfl hy8 (lB 0 ts3 rfl rfl rfl) rfl (ow_eff (.some rfl hy8) (stpU_call (fun i => 1 + i) cf24 (fun w hw => c_i_RightsValid fl w a0.ri x9 e9) (sevs_cons rfl sevs_nil)) rfl ?_))
            rintro _ _ ⟨_, ⟨rfl, rfl⟩, rfl⟩
            refine oD (stp_pick_t rfl hy8 rfl) rfl ?_
            obtain rfl := Option.some.inj ey8
            exact ow_nil (jy 4 0)
          · have ey8 := cond_f ey8 hy8
            refine oO rfl hy8 rfl (oO rfl hy8 rfl (oO rfl hy8 rfl (oD (stp_pick_f rfl hy8 rfl) rfl ?_)))
            obtain rfl := Option.some.inj ey8
            exact ow_nil (jy 4 0)
        · refine oD (sg rfl) rfl (nn (cw_ret ?_))
          have q0 := Option.some.inj H0
          subst q0
          exact kw_ret Tryd.results61 (.cons (.tmp rfl) .nil) [] [] trivial (by decide) ⟨rfl, rfl⟩

set_option maxHeartbeats 4000000 in
set_option maxRecDepth 20000 in
theorem c_i_clash (fl : Nat) (w : World) (a0 : Ln) (a1 : Ln) (r : Bool) (H0 : i_clash fl a0 a1 = some r) :
    Ct Tryd.prog 65 [.agg #[.bool a0.va, .int .i64 a0.tg, .int .i64 a0.pg, .int .i64 a0.fr, .int .i64 a0.ri, .bool a0.wi], .agg #[.bool a1.va, .int .i64 a1.tg, .int .i64 a1.pg, .int .i64 a1.fr, .int .i64 a1.ri, .bool a1.wi]] w [] (fun rv h' => rv = .bool r ∧ h' = []) := by
  unfold i_clash at H0
  refine ct_of_cw Tryd.func65 rfl Tryd.ntmps65 rfl (Sat.refl _ _) ?_
  refine sr (oE (stpU_box 0 rfl rfl) rfl ?_)
  rintro _ _ ⟨b1, rfl, rfl⟩
  refine oE (stpU_box 1 rfl rfl) rfl ?_
  rintro _ _ ⟨b2, rfl, rfl⟩
  obtain ⟨y3, ey3, H0⟩ := bind_some H0
  refine oD (sg rfl) rfl (nn (sr (oD (fA 0 Tryd.underlying65 rfl ts4 rfl rfl rfl) rfl (oD (lB 0 ts4 rfl rfl rfl) rfl (oD (mv rfl) rfl (ow_cutY 3 10 y3 ?_ ?_))))))
  · rcases Bool.eq_false_or_eq_true a0.va with hy3 | hy3
    · have ey3 := cond_t ey3 hy3
      refine oG rfl hy3 (fA 0 Tryd.underlying65 rfl ts4 rfl rfl rfl) rfl (oG rfl hy3 (lB 1 ts4 rfl rfl rfl) rfl (oD (stp_pick_t rfl hy3 rfl) rfl ?_))
      obtain rfl := Option.some.inj ey3
      exact ow_nil (jy 3 0)
    · have ey3 := cond_f ey3 hy3
      refine oO rfl hy3 rfl (oO rfl hy3 rfl (oD (stp_pick_f rfl hy3 rfl) rfl ?_))
      obtain rfl := Option.some.inj ey3
      exact ow_nil (jy 3 0)
  · obtain ⟨y4, ey4, H0⟩ := bind_some H0
    refine oD (mv rfl) rfl (ow_cutY 6 17 y4 ?_ ?_)
    · rcases Bool.eq_false_or_eq_true y3 with hy4 | hy4
      · have ey4 := cond_t ey4 hy4
        refine oG rfl hy4 (fA 2 Tryd.underlying65 rfl ts3 rfl rfl rfl) rfl (oG rfl hy4 (lB 0 ts3 rfl rfl rfl) rfl (oG rfl hy4 (fA 2 Tryd.underlying65 rfl ts3 rfl rfl rfl) rfl (oG rfl hy4 (lB 1 ts3 rfl rfl rfl) rfl (oG rfl hy4 (stp_eql rfl rfl) rfl (oD (stp_pick_t rfl hy4 rfl) rfl ?_)))))
        obtain rfl := Option.some.inj ey4
        exact ow_nil (jy 6 0)
      · have ey4 := cond_f ey4 hy4
        refine oO rfl hy4 rfl (oO rfl hy4 rfl (oO rfl hy4 rfl (oO rfl hy4 rfl (oO rfl hy4 rfl (oD (stp_pick_f rfl hy4 rfl) rfl ?_)))))
        obtain rfl := Option.some.inj ey4
        exact ow_nil (jy 6 0)
    · obtain ⟨y5, ey5, H0⟩ := bind_some H0
      refine oD (mv rfl) rfl (ow_cutY 16 34 y5 ?_ ?_)
      · rcases Bool.eq_false_or_eq_true y4 with hy5 | hy5
        · have ey5 := cond_t ey5 hy5
          obtain ⟨y6, ey6, ey5⟩ := bind_some ey5
          refine oG rfl hy5 (fA 1 Tryd.underlying65 rfl ts3 rfl rfl rfl) rfl (oG rfl hy5 (lB 0 ts3 rfl rfl rfl) rfl (oG rfl hy5 (fA 1 Tryd.underlying65 rfl ts3 rfl rfl rfl) rfl (oG rfl hy5 (lB 1 ts3 rfl rfl rfl) rfl (oG rfl hy5 (stp_eql rfl rfl) rfl (oG rfl hy5 (mv rfl) rfl (ow_cutY 4 28 y6 ?_ ?_))))))
          · rcases Bool.eq_false_or_eq_true (a0.tg == a1.tg) with hy6 | hy6
            · have ey6 := cond_t ey6 hy6
              refine oO rfl hy6 rfl (oO rfl hy6 rfl (oO rfl hy6 rfl (oG rfl hy5 (stp_pick_t rfl hy6 rfl) rfl ?_)))
              obtain rfl := Option.some.inj ey6
              exact ow_nil (jy 4 0)
            · have ey6 := cond_f ey6 hy6
              refine oG rfl hy6 (fA 1 Tryd.underlying65 rfl ts3 rfl rfl rfl) rfl (oG rfl hy6 (lB 0 ts3 rfl rfl rfl) rfl (oG rfl hy6 (stp_eql rfl rfl) rfl (oG rfl hy5 (stp_pick_f rfl hy6 rfl) rfl ?_)))
              obtain rfl := Option.some.inj ey6
              exact ow_nil (jy 4 0)
          · obtain ⟨y7, ey7, ey5⟩ := bind_some ey5
            refine oG rfl hy5 (mv rfl) rfl (ow_cutY 4 33 y7 ?_ ?_)
            · rcases Bool.eq_false_or_eq_true y6 with hy7 | hy7
              · have ey7 := cond_t ey7 hy7
                refine oO rfl hy7 rfl (oO rfl hy7 rfl (oO rfl hy7 rfl (oG rfl hy5 (stp_pick_t rfl hy7 rfl) rfl ?_)))
                obtain rfl := Option.some.inj ey7
                exact ow_nil (jy 4 0)
              · have ey7 := cond_f ey7 hy7
                refine oG rfl hy7 (fA 1 Tryd.underlying65 rfl ts3 rfl rfl rfl) rfl (oG rfl hy7 (lB 1 ts3 rfl rfl rfl) rfl (oG rfl hy7 (stp_eql rfl rfl) rfl (oG rfl hy5 (stp_pick_f rfl hy7 rfl) rfl ?_)))
                obtain rfl := Option.some.inj ey7
                exact ow_nil (jy 4 0)
            · refine oD (stp_pick_t rfl hy5 rfl) rfl ?_
              obtain rfl := Option.some.inj ey5
              exact ow_nil (jy 10 0)
        · have ey5 := cond_f ey5 hy5
          refine oO rfl hy5 rfl (oO rfl hy5 rfl (oO rfl hy5 rfl (oO rfl hy5 rfl (oO rfl hy5 rfl (oO rfl hy5 rfl (oX rfl rfl rfl (oX rfl rfl rfl (oX rfl rfl rfl (oO rfl hy5 rfl (oO rfl hy5 rfl (oX rfl rfl rfl (oX rfl rfl rfl (oX rfl rfl rfl ?_)))))))))))))
          refine oO rfl hy5 rfl (oD (stp_pick_f rfl hy5 rfl) rfl ?_)
          obtain rfl := Option.some.inj ey5
          exact ow_nil (jy 16 0)
      · refine oD (sg rfl) rfl (nn (cw_ret ?_))
        have q0 := Option.some.inj H0
        subst q0
        exact kw_ret Tryd.results65 (.cons (.tmp rfl) .nil) [] [] trivial (by decide) ⟨rfl, rfl⟩

set_option maxHeartbeats 4000000 in
set_option maxRecDepth 20000 in
theorem c_i_CacheValid (fl : Nat) (w : World) (a0 : Ca) (p0_0 : Option Addr) (n0_0 c0_0 : Nat) (hn0_0 : n0_0 = (a0.l).length) (hr0_0 : RO w (hkeys []) (RdL p0_0 c0_0 a0.l)) (r : Bool) (H0 : i_CacheValid fl a0 = some r) :
    Ct Tryd.prog 33 [.agg #[.slice p0_0 n0_0 c0_0, .int .i64 a0.h]] w [] (fun rv h' => rv = .bool r ∧ h' = []) := by
  obtain rfl := hn0_0
  unfold i_CacheValid at H0
  refine ct_of_cw Tryd.func33 rfl Tryd.ntmps33 rfl (Sat.refl _ _) ?_
  refine sr (oE (stpU_box 0 rfl rfl) rfl ?_)
  rintro _ _ ⟨b1, rfl, rfl⟩
  obtain ⟨y2, ey2, H0⟩ := bind_some H0
  refine oD (sg rfl) rfl (nn (sr (oD (fA 0 Tryd.underlying31 rfl ts29 rfl rfl rfl) rfl (oD (lB 0 ts29 rfl rfl rfl) rfl (oD (stp_len Tryd.underlying29 rfl) rfl (oD (sg rfl) rfl (nn (cw_seq (sr (oD (mv rfl) rfl (oD (stp_lss rfl rfl) rfl (oD (mv rfl) rfl (ow_cutY 3 17 y2 ?_ ?_)))))))))))))
  · rcases Bool.eq_false_or_eq_true (decide (((a0.l).length : Int) < 1)) with hy2 | hy2
    · have ey2 := cond_t ey2 hy2
      refine oO rfl hy2 rfl (oO rfl hy2 rfl (oD (stp_pick_t rfl hy2 rfl) rfl ?_))
      obtain rfl := Option.some.inj ey2
      exact ow_nil (jy 3 0)
    · have ey2 := cond_f ey2 hy2
      refine oG rfl hy2 (mv rfl) rfl (oG rfl hy2 (stp_gtr rfl rfl) rfl (oD (stp_pick_f rfl hy2 rfl) rfl ?_))
      obtain rfl := Option.some.inj ey2
      exact ow_nil (jy 3 0)
  · obtain ⟨y3, ey3, H0⟩ := bind_some H0
    refine oD (mv rfl) rfl (ow_cutY 6 24 y3 ?_ ?_)
    · rcases Bool.eq_false_or_eq_true y2 with hy3 | hy3
      · have ey3 := cond_t ey3 hy3
        refine oO rfl hy3 rfl (oO rfl hy3 rfl (oO rfl hy3 rfl (oO rfl hy3 rfl (oO rfl hy3 rfl (oD (stp_pick_t rfl hy3 rfl) rfl ?_)))))
        obtain rfl := Option.some.inj ey3
        exact ow_nil (jy 6 0)
      · have ey3 := cond_f ey3 hy3
        obtain ⟨x4, e4, ey3⟩ := bind_some ey3
        refine oG rfl hy3 (fA 1 Tryd.underlying31 rfl ts3 rfl rfl rfl) rfl (oG rfl hy3 (lB 0 ts3 rfl rfl rfl) rfl (oG rfl hy3 (mv rfl) rfl (ow_eff (.some rfl hy3) (stpU_call (fun i => 1 + i) cf23 (fun w hw => c_i_within fl w a0.h ((a0.l).length : Int) x4 e4) (sevs_cons rfl (sevs_cons rfl sevs_nil))) rfl ?_)))
        rintro _ _ ⟨_, ⟨rfl, rfl⟩, rfl⟩
        refine oG rfl hy3 (stp_not rfl) rfl (oD (stp_pick_f rfl hy3 rfl) rfl ?_)
        obtain rfl := Option.some.inj ey3
        exact ow_nil (jy 6 0)
    · refine ow_nil (kw_nx (cw_cond rfl (fun h5 => ?_) (fun h5 => ?_)))
      · have H0 := cond_t H0 h5
        refine sr (oD (sg rfl) rfl (nn (cw_ret (kw_nx_ret ?_))))
        have q0 := Option.some.inj H0
        subst q0
        exact kw_ret Tryd.results33 (.cons (.tmp rfl) .nil) [] [] trivial (by decide) ⟨rfl, rfl⟩
      · have H0 := cond_f H0 h5
        obtain ⟨o0_0, eo0_0, H0⟩ := bind_some H0
        refine cw_skip (kw_nx (sr (oD (sg rfl) rfl (nn (cw_seq (sr (oD (fA 0 Tryd.underlying31 rfl ts29 rfl rfl rfl) rfl (oD (lB 0 ts29 rfl rfl rfl) rfl (oD (stp_len Tryd.underlying29 rfl) rfl (oD (mv rfl) rfl (nn (cw_join (ι := Int × Bool) (fun | (v6, v7) => o0_0 = .out (v6, v7)) (fun | (v6, v7) => [(1, .pointer (some ⟨b1, 0, none⟩)), (4, .bool v7), (26, .slice p0_0 ((a0.l).length) c0_0), (27, .int .i64 ((a0.l).length : Int)), (28, .int .i64 v6)]) (fun | (v6, v7) => [(0, [(b1, .cells #[.slice p0_0 ((a0.l).length) c0_0, .int .i64 a0.h] 31 (0, 0))])]) ?_ ?_))))))))))))
        · refine cw_block (cw_loopS (ι := Nat × Int × Bool) (js := [0]) (fun x => x.1) (fun | (fuel, v6, v7) => i_CacheValid_L0 fl a0 fuel v6 v7 = some o0_0) (fun | (_, v6, v7) => [(1, .pointer (some ⟨b1, 0, none⟩)), (4, .bool v7), (26, .slice p0_0 ((a0.l).length) c0_0), (27, .int .i64 ((a0.l).length : Int)), (28, .int .i64 v6)]) (fun | (_, v6, v7) => [(0, [(b1, .cells #[.slice p0_0 ((a0.l).length) c0_0, .int .i64 a0.h] 31 (0, 0))])]) (fl, 0, false) eo0_0 ⟨rfl, rfl, rfl, rfl, rfl, trivial⟩ ⟨0, [], rfl, rfl, trivial⟩ (by decide) ?_)
          rintro ⟨fuel, v6, v7⟩ H1
          have H1 : i_CacheValid_L0 fl a0 fuel v6 v7 = some o0_0 := H1
          rcases fuel with _ | fuel
          · rw [i_CacheValid_L0.eq_1] at H1; cases H1
          rw [i_CacheValid_L0.eq_2] at H1
          refine CW.sub (s' := [(1, .pointer (some ⟨b1, 0, none⟩)), (4, .bool v7), (26, .slice p0_0 ((a0.l).length) c0_0), (27, .int .i64 ((a0.l).length : Int)), (28, .int .i64 v6)]) (h' := [(0, [(b1, .cells #[.slice p0_0 ((a0.l).length) c0_0, .int .i64 a0.h] 31 (0, 0))])]) ?_ ⟨rfl, rfl, rfl, rfl, rfl, trivial⟩ ⟨rfl, trivial⟩
          refine sr (oD (stp_lss rfl rfl) rfl (nn (cw_seq (cw_cond rfl (fun h8 => ?_) (fun h8 => ?_)))))
          · have H1 := cond_t H1 h8
            obtain ⟨x9, e9, H1⟩ := bind_some H1
            refine cw_skip (kw_nx (cw_seq (cw_block (sr (oD (mv rfl) rfl (oD (stp_indexAddr Tryd.underlying29 ts65 (by decide) rfl rfl rfl (Rdb.ro hr0_0) e9) rfl (oD (stp_loadN (us := [_, _, _, _, _, _]) ts65 rfl (Cells.el (Rdb.ro hr0_0) (by decide) e9 0 6 rfl)) rfl (oE (stpU_alloc 1 tz65 rfl) rfl ?_))))))))
            rintro _ _ ⟨b10, rfl, rfl⟩
            refine oD (sg rfl) rfl (oF (stpU_store (id := 1) (cs' := [.bool x9.va, .int .i64 x9.tg, .int .i64 x9.pg, .int .i64 x9.fr, .int .i64 x9.ri, .bool x9.wi]) ts65 rfl rfl rfl rfl rfl rfl rfl) ?_)
            rintro _ _ rfl
            obtain ⟨x11, e11, H1⟩ := bind_some H1
            refine nn (cw_seq (sr (oD (stp_loadN (us := [_, _, _, _, _, _]) ts65 rfl (Cells.box (id := 1) rfl 6 rfl)) rfl (oE (stpU_call (fun i => 2 + i) cf61 (fun w hw => c_i_lineValid fl w x9 x11 e11) (sevs_cons rfl sevs_nil)) rfl ?_))))
            rintro _ _ ⟨_, ⟨rfl, rfl⟩, rfl⟩
            refine oD (stp_not rfl) rfl (nn (cw_cond rfl (fun h12 => ?_) (fun h12 => ?_)))
            · have H1 := cond_t H1 h12
              refine sr (oD (sg rfl) rfl (nn (cw_ret (kw_nx_ret (kw_bl_ret (kw_nx_ret (kw_lq_ret (kw_bl_ret (kw_join_ret (kw_nx_ret ?_))))))))))
              have q1 := Option.some.inj H1
              subst q1
              have q0 := Option.some.inj H0
              subst q0
              exact kw_ret Tryd.results33 (.cons (.tmp rfl) .nil) [] [] trivial (by decide) ⟨rfl, rfl⟩
            · have H1 := cond_f H1 h12
              obtain ⟨x13, e13, H1⟩ := bind_some H1
              obtain ⟨o1_1, eo1_1, H1⟩ := bind_some H1
              refine cw_skip (kw_nx (cw_seq (sr (oD (fA 0 Tryd.underlying31 rfl ts29 rfl rfl rfl) rfl (oD (lB 0 ts29 rfl rfl rfl) rfl (oD (mv rfl) rfl (oD (stp_take Tryd.underlying29 ts65 rfl rfl rfl (Rdb.ro hr0_0) e13) rfl (oD (stp_len Tryd.underlying29 rfl) rfl (oD (mv rfl) rfl (nn (cw_join (ι := Int) (fun | v14 => o1_1 = .out v14) (fun | v14 => [(1, .pointer (some ⟨b1, 0, none⟩)), (4, .bool v7), (6, .pointer (some ⟨b10, 0, none⟩)), (26, .slice p0_0 ((a0.l).length) c0_0), (27, .int .i64 ((a0.l).length : Int)), (28, .int .i64 v6), (39, .slice p0_0 ((x13).length) c0_0), (40, .int .i64 ((x13).length : Int)), (41, .int .i64 v14)]) (fun | v14 => [(0, [(b1, .cells #[.slice p0_0 ((a0.l).length) c0_0, .int .i64 a0.h] 31 (0, 0))]), (1, [(b10, .cells #[.bool x9.va, .int .i64 x9.tg, .int .i64 x9.pg, .int .i64 x9.fr, .int .i64 x9.ri, .bool x9.wi] 65 (0, 0))])]) ?_ ?_)))))))))))
              · refine cw_block (cw_loopS (ι := Nat × Int) (js := [0, 1]) (fun x => x.1) (fun | (fuel, v14) => i_CacheValid_L1 fl x9 x13 fuel v14 = some o1_1) (fun | (_, v14) => [(1, .pointer (some ⟨b1, 0, none⟩)), (4, .bool v7), (6, .pointer (some ⟨b10, 0, none⟩)), (26, .slice p0_0 ((a0.l).length) c0_0), (27, .int .i64 ((a0.l).length : Int)), (28, .int .i64 v6), (39, .slice p0_0 ((x13).length) c0_0), (40, .int .i64 ((x13).length : Int)), (41, .int .i64 v14)]) (fun | (_, v14) => [(0, [(b1, .cells #[.slice p0_0 ((a0.l).length) c0_0, .int .i64 a0.h] 31 (0, 0))]), (1, [(b10, .cells #[.bool x9.va, .int .i64 x9.tg, .int .i64 x9.pg, .int .i64 x9.fr, .int .i64 x9.ri, .bool x9.wi] 65 (0, 0))])]) (fl, 0) eo1_1 ⟨rfl, rfl, rfl, rfl, rfl, rfl, rfl, rfl, rfl, trivial⟩ ⟨0, [1], rfl, rfl, 1, [], rfl, rfl, trivial⟩ (by decide) ?_)
                rintro ⟨fuel, v14⟩ H2
                have H2 : i_CacheValid_L1 fl x9 x13 fuel v14 = some o1_1 := H2
                rcases fuel with _ | fuel
                · rw [i_CacheValid_L1.eq_1] at H2; cases H2
                rw [i_CacheValid_L1.eq_2] at H2
                refine CW.sub (s' := [(1, .pointer (some ⟨b1, 0, none⟩)), (4, .bool v7), (6, .pointer (some ⟨b10, 0, none⟩)), (26, .slice p0_0 ((a0.l).length) c0_0), (27, .int .i64 ((a0.l).length : Int)), (28, .int .i64 v6), (39, .slice p0_0 ((x13).length) c0_0), (40, .int .i64 ((x13).length : Int)), (41, .int .i64 v14)]) (h' := [(0, [(b1, .cells #[.slice p0_0 ((a0.l).length) c0_0, .int .i64 a0.h] 31 (0, 0))]), (1, [(b10, .cells #[.bool x9.va, .int .i64 x9.tg, .int .i64 x9.pg, .int .i64 x9.fr, .int .i64 x9.ri, .bool x9.wi] 65 (0, 0))])]) ?_ ⟨rfl, rfl, rfl, rfl, rfl, rfl, rfl, rfl, rfl, trivial⟩ ⟨rfl, rfl, trivial⟩
                refine sr (oD (stp_lss rfl rfl) rfl (nn (cw_seq (cw_cond rfl (fun h15 => ?_) (fun h15 => ?_)))))
                · have H2 := cond_t H2 h15
                  obtain ⟨x16, e16, H2⟩ := bind_some H2
                  refine cw_skip (kw_nx (cw_seq (cw_block (sr (oD (stp_indexAddr Tryd.underlying29 ts65 (by decide) rfl rfl rfl (Rdb.ro (RO.take hr0_0 e13)) e16) rfl (oD (stp_loadN (us := [_, _, _, _, _, _]) ts65 rfl (Cells.el (Rdb.ro (RO.take hr0_0 e13)) (by decide) e16 0 6 rfl)) rfl (oE (stpU_alloc 2 tz65 rfl) rfl ?_)))))))
                  rintro _ _ ⟨b17, rfl, rfl⟩
                  refine oF (stpU_store (id := 2) (cs' := [.bool x16.va, .int .i64 x16.tg, .int .i64 x16.pg, .int .i64 x16.fr, .int .i64 x16.ri, .bool x16.wi]) ts65 rfl rfl rfl rfl rfl rfl rfl) ?_
                  rintro _ _ rfl
                  obtain ⟨x18, e18, H2⟩ := bind_some H2
                  refine nn (sr (oD (stp_loadN (us := [_, _, _, _, _, _]) ts65 rfl (Cells.box (id := 1) rfl 6 rfl)) rfl (oD (stp_loadN (us := [_, _, _, _, _, _]) ts65 rfl (Cells.box (id := 2) rfl 6 rfl)) rfl (oE (stpU_call (fun i => 3 + i) cf65 (fun w hw => c_i_clash fl w x9 x16 x18 e18) (sevs_cons rfl (sevs_cons rfl sevs_nil))) rfl ?_))))
                  rintro _ _ ⟨_, ⟨rfl, rfl⟩, rfl⟩
                  refine nn (cw_cond rfl (fun h19 => ?_) (fun h19 => ?_))
                  · have H2 := cond_t H2 h19
                    refine sr (oD (sg rfl) rfl (nn (cw_ret (kw_bl_ret (kw_nx_ret (kw_lq_ret (kw_bl_ret (kw_join_ret (kw_nx_ret (kw_bl_ret (kw_nx_ret (kw_lq_ret (kw_bl_ret ?_)))))))))))))
                    refine kw_join_ret (kw_nx_ret ?_)
                    have q2 := Option.some.inj H2
                    subst q2
                    have q1 := Option.some.inj H1
                    subst q1
                    have q0 := Option.some.inj H0
                    subst q0
                    exact kw_ret Tryd.results33 (.cons (.tmp rfl) .nil) [] [] trivial (by decide) ⟨rfl, rfl⟩
                  · have H2 := cond_f H2 h19
                    obtain ⟨x20, e20, H2⟩ := bind_some H2
                    exact cw_skip (kw_bl_normal (kw_nx (cw_region (oD (stp_add rfl rfl e20) rfl (oD (mv rfl) rfl (ow_nil (kw_lqS (js := [0, 1]) (fuel, x20) H2 (Nat.lt_succ_self _) ⟨rfl, rfl, rfl, rfl, rfl, rfl, rfl, rfl, rfl, trivial⟩ ⟨0, [1], rfl, rfl, 1, [], rfl, rfl, trivial⟩ (by decide))))))))
                · have H2 := cond_f H2 h15
                  refine cw_exit (kw_nx_exit (kw_lq_exit (kw_bl ?_)))
                  have q2 := Option.some.inj H2
                  subst q2
                  exact kw_joinS (js := [0, 1]) v14 rfl ⟨rfl, rfl, rfl, rfl, rfl, rfl, rfl, rfl, rfl, trivial⟩ ⟨0, [1], rfl, rfl, 1, [], rfl, rfl, trivial⟩ (by decide)
              · rintro v14 rfl
                refine KW.sub (s' := [(1, .pointer (some ⟨b1, 0, none⟩)), (4, .bool v7), (6, .pointer (some ⟨b10, 0, none⟩)), (26, .slice p0_0 ((a0.l).length) c0_0), (27, .int .i64 ((a0.l).length : Int)), (28, .int .i64 v6), (39, .slice p0_0 ((x13).length) c0_0), (40, .int .i64 ((x13).length : Int)), (41, .int .i64 v14)]) (h' := [(0, [(b1, .cells #[.slice p0_0 ((a0.l).length) c0_0, .int .i64 a0.h] 31 (0, 0))]), (1, [(b10, .cells #[.bool x9.va, .int .i64 x9.tg, .int .i64 x9.pg, .int .i64 x9.fr, .int .i64 x9.ri, .bool x9.wi] 65 (0, 0))])]) ?_ ⟨rfl, rfl, rfl, rfl, rfl, rfl, rfl, rfl, rfl, trivial⟩ ⟨rfl, rfl, trivial⟩
                obtain ⟨y21, ey21, H1⟩ := bind_some H1
                refine kw_nx (cw_region (oD (mv rfl) rfl (oD (mv rfl) rfl (ow_cutY 4 54 y21 ?_ ?_))))
                · rcases Bool.eq_false_or_eq_true v7 with hy21 | hy21
                  · have ey21 := cond_t ey21 hy21
                    refine oO rfl hy21 rfl (oO rfl hy21 rfl (oO rfl hy21 rfl (oD (stp_pick_t rfl hy21 rfl) rfl ?_)))
                    obtain rfl := Option.some.inj ey21
                    exact ow_nil (jy 4 0)
                  · have ey21 := cond_f ey21 hy21
                    refine oG rfl hy21 (fA 5 Tryd.underlying65 rfl ts4 rfl rfl rfl) rfl (oG rfl hy21 (lB 1 ts4 rfl rfl rfl) rfl (oG rfl hy21 (stp_not rfl) rfl (oD (stp_pick_f rfl hy21 rfl) rfl ?_)))
                    obtain rfl := Option.some.inj ey21
                    exact ow_nil (jy 4 0)
                · obtain ⟨x22, e22, H1⟩ := bind_some H1
                  exact oD (sg rfl) rfl (ow_nil (kw_bl_normal (kw_nx (cw_region (oD (stp_add rfl rfl e22) rfl (oD (mv rfl) rfl (ow_nil (kw_lqS (js := [0]) (fuel, x22, y21) H1 (Nat.lt_succ_self _) ⟨rfl, rfl, rfl, rfl, rfl, trivial⟩ ⟨0, [], rfl, rfl, trivial⟩ (by decide)))))))))
          · have H1 := cond_f H1 h8
            refine cw_exit (kw_nx_exit (kw_lq_exit (kw_bl ?_)))
            have q1 := Option.some.inj H1
            subst q1
            exact kw_joinS (js := [0]) (v6, v7) rfl ⟨rfl, rfl, rfl, rfl, rfl, trivial⟩ ⟨0, [], rfl, rfl, trivial⟩ (by decide)
        · rintro ⟨v6, v7⟩ rfl
          refine KW.sub (s' := [(1, .pointer (some ⟨b1, 0, none⟩)), (4, .bool v7), (26, .slice p0_0 ((a0.l).length) c0_0), (27, .int .i64 ((a0.l).length : Int)), (28, .int .i64 v6)]) (h' := [(0, [(b1, .cells #[.slice p0_0 ((a0.l).length) c0_0, .int .i64 a0.h] 31 (0, 0))])]) ?_ ⟨rfl, rfl, rfl, rfl, rfl, trivial⟩ ⟨rfl, trivial⟩
          refine kw_nx (sr (oD (mv rfl) rfl (oD (sg rfl) rfl (nn (cw_ret ?_)))))
          have q0 := Option.some.inj H0
          subst q0
          exact kw_ret Tryd.results33 (.cons (.tmp rfl) .nil) [] [] trivial (by decide) ⟨rfl, rfl⟩

set_option maxHeartbeats 4000000 in
set_option maxRecDepth 20000 in
theorem c_i_SpaceOf (fl : Nat) (w : World) (a0 : Tg) (p0_0 : Option Addr) (n0_0 c0_0 : Nat) (a1 : Int) (hn0_0 : n0_0 = (a0.o).length) (hr0_0 : RO w (hkeys []) (RdL p0_0 c0_0 a0.o)) (r : Int × Bool) (H0 : i_SpaceOf fl a0 a1 = some r) :
    Ct Tryd.prog 36 [.agg #[.int .i64 a0.c, .int .i64 a0.n, .int .i64 a0.r, .slice p0_0 n0_0 c0_0], .int .i64 a1] w [] (fun rv h' => rv = .tuple #[.int .i64 r.1, .bool r.2] ∧ h' = []) := by
  obtain rfl := hn0_0
  unfold i_SpaceOf at H0
  refine ct_of_cw Tryd.func36 rfl Tryd.ntmps36 rfl (Sat.refl _ _) ?_
  refine sr (oE (stpU_box 0 rfl rfl) rfl ?_)
  rintro _ _ ⟨b1, rfl, rfl⟩
  obtain ⟨x2, e2, H0⟩ := bind_some H0
  refine oD (sg rfl) rfl (oD (sg rfl) rfl (nn (cw_seq (sr (oD (stp_loadN (us := [_, _, _, _]) ts34 rfl (Cells.box (id := 0) rfl 4 rfl)) rfl (oE (stpU_call (fun i => 1 + i) cf34 (fun w hw => c_i_TagsValid fl w a0 p0_0 ((a0.o).length) c0_0 rfl (RO.pass hr0_0 hw) x2 e2) (sevs_cons rfl sevs_nil)) rfl ?_))))))
  rintro _ _ ⟨_, ⟨rfl, rfl⟩, rfl⟩
  refine oD (stp_not rfl) rfl (nn (cw_cond rfl (fun h3 => ?_) (fun h3 => ?_)))
  · have H0 := cond_t H0 h3
    refine sr (oD (sg rfl) rfl (oD (sg rfl) rfl (nn (cw_ret (kw_nx_ret ?_)))))
    have q0 := Option.some.inj H0
    subst q0
    exact kw_ret Tryd.results36 (.cons (.tmp rfl) (.cons (.tmp rfl) .nil)) [] [] trivial (by decide) ⟨rfl, rfl⟩
  · have H0 := cond_f H0 h3
    obtain ⟨o0_0, eo0_0, H0⟩ := bind_some H0
    refine cw_skip (kw_nx (cw_seq (sr (oD (fA 3 Tryd.underlying34 rfl ts32 rfl rfl rfl) rfl (oD (lB 0 ts32 rfl rfl rfl) rfl (oD (stp_len Tryd.underlying32 rfl) rfl (oD (mv rfl) rfl (nn (cw_join (ι := Int) (fun | v4 => o0_0 = .out v4) (fun | v4 => [(1, .int .i64 a1), (12, .slice p0_0 ((a0.o).length) c0_0), (13, .int .i64 ((a0.o).length : Int)), (14, .int .i64 v4)]) (fun | v4 => []) ?_ ?_)))))))))
    · refine cw_block (cw_loopS (ι := Nat × Int) (js := []) (fun x => x.1) (fun | (fuel, v4) => i_SpaceOf_L0 fl a0 a1 fuel v4 = some o0_0) (fun | (_, v4) => [(1, .int .i64 a1), (12, .slice p0_0 ((a0.o).length) c0_0), (13, .int .i64 ((a0.o).length : Int)), (14, .int .i64 v4)]) (fun | (_, v4) => []) (fl, 0) eo0_0 ⟨rfl, rfl, rfl, rfl, trivial⟩ trivial (by decide) ?_)
      rintro ⟨fuel, v4⟩ H1
      have H1 : i_SpaceOf_L0 fl a0 a1 fuel v4 = some o0_0 := H1
      rcases fuel with _ | fuel
      · rw [i_SpaceOf_L0.eq_1] at H1; cases H1
      rw [i_SpaceOf_L0.eq_2] at H1
      refine CW.sub (s' := [(1, .int .i64 a1), (12, .slice p0_0 ((a0.o).length) c0_0), (13, .int .i64 ((a0.o).length : Int)), (14, .int .i64 v4)]) (h' := []) ?_ ⟨rfl, rfl, rfl, rfl, trivial⟩ trivial
      refine sr (oD (stp_lss rfl rfl) rfl (nn (cw_seq (cw_cond rfl (fun h5 => ?_) (fun h5 => ?_)))))
      · have H1 := cond_t H1 h5
        obtain ⟨x6, e6, H1⟩ := bind_some H1
        refine cw_skip (kw_nx (cw_seq (cw_block (sr (oD (stp_indexAddr Tryd.underlying32 ts85 (by decide) rfl rfl rfl (Rdb.ro hr0_0) e6) rfl (oD (stp_loadN (us := [_, _]) ts85 rfl (Cells.el (Rdb.ro hr0_0) (by decide) e6 0 2 rfl)) rfl (oE (stpU_alloc 1 tz85 rfl) rfl ?_)))))))
        rintro _ _ ⟨b7, rfl, rfl⟩
        refine oF (stpU_store (id := 1) (cs' := [.int .i64 x6.sp, .int .i64 x6.tg]) ts85 rfl rfl rfl rfl rfl rfl rfl) ?_
        rintro _ _ rfl
        refine nn (sr (oD (fA 1 Tryd.underlying85 rfl ts3 rfl rfl rfl) rfl (oD (lB 1 ts3 rfl rfl rfl) rfl (oD (mv rfl) rfl (oD (stp_eql rfl rfl) rfl (nn (cw_cond rfl (fun h8 => ?_) (fun h8 => ?_))))))))
        · have H1 := cond_t H1 h8
          refine sr (oD (fA 0 Tryd.underlying85 rfl ts3 rfl rfl rfl) rfl (oD (lB 1 ts3 rfl rfl rfl) rfl (oD (sg rfl) rfl (oD (sg rfl) rfl (nn (cw_ret (kw_bl_ret (kw_nx_ret (kw_lq_ret (kw_bl_ret (kw_join_ret (kw_nx_ret ?_))))))))))))
          have q1 := Option.some.inj H1
          subst q1
          have q0 := Option.some.inj H0
          subst q0
          exact kw_ret Tryd.results36 (.cons (.tmp rfl) (.cons (.tmp rfl) .nil)) [] [] trivial (by decide) ⟨rfl, rfl⟩
        · have H1 := cond_f H1 h8
          obtain ⟨x9, e9, H1⟩ := bind_some H1
          exact cw_skip (kw_bl_normal (kw_nx (cw_region (oD (stp_add rfl rfl e9) rfl (oD (mv rfl) rfl (ow_nil (kw_lqS (js := []) (fuel, x9) H1 (Nat.lt_succ_self _) ⟨rfl, rfl, rfl, rfl, trivial⟩ trivial (by decide))))))))
      · have H1 := cond_f H1 h5
        refine cw_exit (kw_nx_exit (kw_lq_exit (kw_bl ?_)))
        have q1 := Option.some.inj H1
        subst q1
        exact kw_joinS (js := []) v4 rfl ⟨rfl, rfl, rfl, rfl, trivial⟩ trivial (by decide)
    · rintro v4 rfl
      refine KW.sub (s' := [(1, .int .i64 a1), (12, .slice p0_0 ((a0.o).length) c0_0), (13, .int .i64 ((a0.o).length : Int)), (14, .int .i64 v4)]) (h' := []) ?_ ⟨rfl, rfl, rfl, rfl, trivial⟩ trivial
      refine kw_nx (sr (oD (sg rfl) rfl (oD (sg rfl) rfl (nn (cw_ret ?_)))))
      have q0 := Option.some.inj H0
      subst q0
      exact kw_ret Tryd.results36 (.cons (.tmp rfl) (.cons (.tmp rfl) .nil)) [] [] trivial (by decide) ⟨rfl, rfl⟩

set_option maxHeartbeats 4000000 in
set_option maxRecDepth 20000 in
theorem c_i_KeyFor (fl : Nat) (w : World) (a0 : Int) (a1 : Int) (r : K) (H0 : i_KeyFor fl a0 a1 = some r) :
    Ct Tryd.prog 29 [.int .i64 a0, .int .i64 a1] w [] (fun rv h' => rv = .agg #[.int .i64 r.s, .int .i64 r.p] ∧ h' = []) := by
  unfold i_KeyFor at H0
  refine ct_of_cw Tryd.func29 rfl Tryd.ntmps29 rfl (Sat.refl _ _) ?_
  refine sr (oE (stpU_alloc 0 tz68 rfl) rfl ?_)
  rintro _ _ ⟨b1, rfl, rfl⟩
  refine nn (cw_seq (sr (oD (mv rfl) rfl (oD (stp_geq rfl rfl) rfl (nn (cw_cond rfl (fun h2 => ?_) (fun h2 => ?_)))))))
  · have H0 := cond_t H0 h2
    refine cw_region (oD (sg rfl) rfl (nn (sr (oD (mv rfl) rfl (oD (mv rfl) rfl (oD (stp_build (cs := #[.int .i64 0, .int .i64 a1]) (sevp_cons rfl (sevp_cons rfl sevp_nil)) bt68_16) rfl (oF (stpU_store (id := 0) (cs' := [.int .i64 0, .int .i64 a1]) ts68 rfl rfl rfl rfl rfl rfl rfl) ?_)))))))
    rintro _ _ rfl
    refine nn (cw_ret ?_)
    have q0 := Option.some.inj H0
    subst q0
    exact kw_ret Tryd.results29 (.cons (.cellN (us := [_, _]) ts68 rfl (Cells.box (id := 0) rfl 2 rfl)) .nil) [] [] trivial (by decide) ⟨rfl, rfl⟩
  · have H0 := cond_f H0 h2
    refine cw_skip (kw_nx (sr (oD (mv rfl) rfl (oD (mv rfl) rfl (oD (stp_build (cs := #[.int .i64 a0, .int .i64 a1]) (sevp_cons rfl (sevp_cons rfl sevp_nil)) bt68_16) rfl (oF (stpU_store (id := 0) (cs' := [.int .i64 a0, .int .i64 a1]) ts68 rfl rfl rfl rfl rfl rfl rfl) ?_))))))
    rintro _ _ rfl
    refine nn (cw_ret ?_)
    have q0 := Option.some.inj H0
    subst q0
    exact kw_ret Tryd.results29 (.cons (.cellN (us := [_, _]) ts68 rfl (Cells.box (id := 0) rfl 2 rfl)) .nil) [] [] trivial (by decide) ⟨rfl, rfl⟩

set_option maxHeartbeats 4000000 in
set_option maxRecDepth 20000 in
theorem c_i_Table_find_1 (fl : Nat) (w : World) (a0 : F) (qc0 : Nat) (ac0 : K) (hbac0 : RO w (hkeys []) (fun w' => w'.rangeAt qc0 0 [.int .i64 ac0.s, .int .i64 ac0.p])) (r : Bool) (H0 : i_Table_find_1 fl a0 ac0 = some r) :
    Ct Tryd.prog 59 [.agg #[.bool a0.u, .int .i64 a0.k.s, .int .i64 a0.k.p, .int .i64 a0.r, .int .i64 a0.nx], .pointer (some ⟨qc0, 0, none⟩)] w [] (fun rv h' => rv = .bool r ∧ h' = []) := by
  unfold i_Table_find_1 at H0
  refine ct_of_cw Tryd.func59 rfl Tryd.ntmps59 rfl (Sat.refl _ _) ?_
  refine sr (oE (stpU_box 0 rfl rfl) rfl ?_)
  rintro _ _ ⟨b1, rfl, rfl⟩
  obtain ⟨y2, ey2, H0⟩ := bind_some H0
  refine oD (sg rfl) rfl (nn (sr (oD (fA 0 Tryd.underlying71 rfl ts4 rfl rfl rfl) rfl (oD (lB 0 ts4 rfl rfl rfl) rfl (oD (mv rfl) rfl (ow_cutY 5 11 y2 ?_ ?_))))))
  · rcases Bool.eq_false_or_eq_true a0.u with hy2 | hy2
    · have ey2 := cond_t ey2 hy2
      refine oG rfl hy2 (fA 1 Tryd.underlying71 rfl ts68 rfl rfl rfl) rfl (oG rfl hy2 (stp_loadN (us := [_, _]) ts68 rfl (Cells.box (id := 0) rfl 2 rfl)) rfl (oG rfl hy2 (stp_loadN (us := [_, _]) ts68 rfl (Cells.ofRO hbac0 2 rfl)) rfl (oG rfl hy2 (stp_eqlS te68 a0.k ac0 rfl rfl) rfl (oD (stp_pick_t rfl hy2 rfl) rfl ?_))))
      obtain rfl := Option.some.inj ey2
      exact ow_nil (jy 5 0)
    · have ey2 := cond_f ey2 hy2
      refine oO rfl hy2 rfl (oO rfl hy2 rfl (oO rfl hy2 rfl (oO rfl hy2 rfl (oD (stp_pick_f rfl hy2 rfl) rfl ?_))))
      obtain rfl := Option.some.inj ey2
      exact ow_nil (jy 5 0)
  · refine oD (sg rfl) rfl (nn (cw_ret ?_))
    have q0 := Option.some.inj H0
    subst q0
    exact kw_ret Tryd.results59 (.cons (.tmp rfl) .nil) [] [] trivial (by decide) ⟨rfl, rfl⟩

set_option maxHeartbeats 4000000 in
set_option maxRecDepth 20000 in
theorem c_slices_IndexFunc_Frame_of_i_Table_find_1 (fl : Nat) (w : World) (a0 : (List F)) (p0_0 : Option Addr) (n0_0 c0_0 : Nat) (q1_0 : Nat) (a1_0 : K) (hn0_0 : n0_0 = (a0).length) (hr0_0 : RO w (hkeys []) (RdL p0_0 c0_0 a0)) (hba1_0 : RO w (hkeys []) (fun w' => w'.rangeAt q1_0 0 [.int .i64 a1_0.s, .int .i64 a1_0.p])) (r : Int) (H0 : slices_IndexFunc_Frame_of_i_Table_find_1 fl a0 a1_0 = some r) :
    Ct Tryd.prog 58 [.slice p0_0 n0_0 c0_0, .func (.func 59) #[] #[.pointer (some ⟨q1_0, 0, none⟩)]] w [] (fun rv h' => rv = .int .i64 r ∧ h' = []) := by
  obtain rfl := hn0_0
  unfold slices_IndexFunc_Frame_of_i_Table_find_1 at H0
  refine ct_of_cw Tryd.func58 rfl Tryd.ntmps58 rfl (Sat.refl _ _) ?_
  obtain ⟨o0_0, eo0_0, H0⟩ := bind_some H0
  refine sr (oD (sg rfl) rfl (nn (cw_seq (sr (oD (mv rfl) rfl (oD (stp_len Tryd.underlying26 rfl) rfl (oD (mv rfl) rfl (nn (cw_join (ι := Int) (fun | v1 => o0_0 = .out v1) (fun | v1 => [(0, .slice p0_0 ((a0).length) c0_0), (1, .func (.func 59) #[] #[.pointer (some ⟨q1_0, 0, none⟩)]), (7, .int .i64 ((a0).length : Int)), (8, .int .i64 v1)]) (fun | v1 => []) ?_ ?_)))))))))
  · refine cw_block (cw_loopS (ι := Nat × Int) (js := []) (fun x => x.1) (fun | (fuel, v1) => slices_IndexFunc_Frame_of_i_Table_find_1_L0 fl a0 a1_0 fuel v1 = some o0_0) (fun | (_, v1) => [(0, .slice p0_0 ((a0).length) c0_0), (1, .func (.func 59) #[] #[.pointer (some ⟨q1_0, 0, none⟩)]), (7, .int .i64 ((a0).length : Int)), (8, .int .i64 v1)]) (fun | (_, v1) => []) (fl, 0) eo0_0 ⟨rfl, rfl, rfl, rfl, trivial⟩ trivial (by decide) ?_)
    rintro ⟨fuel, v1⟩ H1
    have H1 : slices_IndexFunc_Frame_of_i_Table_find_1_L0 fl a0 a1_0 fuel v1 = some o0_0 := H1
    rcases fuel with _ | fuel
    · rw [slices_IndexFunc_Frame_of_i_Table_find_1_L0.eq_1] at H1; cases H1
    rw [slices_IndexFunc_Frame_of_i_Table_find_1_L0.eq_2] at H1
    refine CW.sub (s' := [(0, .slice p0_0 ((a0).length) c0_0), (1, .func (.func 59) #[] #[.pointer (some ⟨q1_0, 0, none⟩)]), (7, .int .i64 ((a0).length : Int)), (8, .int .i64 v1)]) (h' := []) ?_ ⟨rfl, rfl, rfl, rfl, trivial⟩ trivial
    refine sr (oD (stp_lss rfl rfl) rfl (nn (cw_seq (cw_cond rfl (fun h2 => ?_) (fun h2 => ?_)))))
    · have H1 := cond_t H1 h2
      obtain ⟨x3, e3, H1⟩ := bind_some H1
      refine cw_skip (kw_nx (cw_seq (cw_block (sr (oD (mv rfl) rfl (oD (sg rfl) rfl (nn (sr (oD (mv rfl) rfl (oD (mv rfl) rfl (oD (mv rfl) rfl (oD (stp_indexAddr Tryd.underlying26 ts71 (by decide) rfl rfl rfl (Rdb.ro hr0_0) e3) rfl (oD (stp_loadN (us := [_, _, _, _, _]) ts71 rfl (Cells.el (Rdb.ro hr0_0) (by decide) e3 0 5 rfl)) rfl ?_)))))))))))))
      obtain ⟨x4, e4, H1⟩ := bind_some H1
      refine oE (stpU_callF (vals := [_]) (ca := [_]) (fun i => 0 + i) cf59 (fun w hw => c_i_Table_find_1 fl w x3 q1_0 a1_0 (RO.pass hba1_0 hw) x4 e4) rfl (sevs_cons rfl sevs_nil)) rfl ?_
      rintro _ _ ⟨_, ⟨rfl, rfl⟩, rfl⟩
      refine nn (cw_cond rfl (fun h5 => ?_) (fun h5 => ?_))
      · have H1 := cond_t H1 h5
        refine sr (oD (mv rfl) rfl (oD (sg rfl) rfl (nn (cw_ret (kw_bl_ret (kw_nx_ret (kw_lq_ret (kw_bl_ret (kw_join_ret (kw_nx_ret ?_))))))))))
        have q1 := Option.some.inj H1
        subst q1
        have q0 := Option.some.inj H0
        subst q0
        exact kw_ret Tryd.results58 (.cons (.tmp rfl) .nil) [] [] trivial (by decide) ⟨rfl, rfl⟩
      · have H1 := cond_f H1 h5
        obtain ⟨x6, e6, H1⟩ := bind_some H1
        exact cw_skip (kw_bl_normal (kw_nx (cw_region (oD (stp_add rfl rfl e6) rfl (oD (mv rfl) rfl (ow_nil (kw_lqS (js := []) (fuel, x6) H1 (Nat.lt_succ_self _) ⟨rfl, rfl, rfl, rfl, trivial⟩ trivial (by decide))))))))
    · have H1 := cond_f H1 h2
      refine cw_exit (kw_nx_exit (kw_lq_exit (kw_bl ?_)))
      have q1 := Option.some.inj H1
      subst q1
      exact kw_joinS (js := []) v1 rfl ⟨rfl, rfl, rfl, rfl, trivial⟩ trivial (by decide)
  · rintro v1 rfl
    refine KW.sub (s' := [(0, .slice p0_0 ((a0).length) c0_0), (1, .func (.func 59) #[] #[.pointer (some ⟨q1_0, 0, none⟩)]), (7, .int .i64 ((a0).length : Int)), (8, .int .i64 v1)]) (h' := []) ?_ ⟨rfl, rfl, rfl, rfl, trivial⟩ trivial
    refine kw_nx (sr (oD (sg rfl) rfl (nn (cw_ret ?_))))
    have q0 := Option.some.inj H0
    subst q0
    exact kw_ret Tryd.results58 (.cons (.tmp rfl) .nil) [] [] trivial (by decide) ⟨rfl, rfl⟩

set_option maxHeartbeats 4000000 in
set_option maxRecDepth 20000 in
theorem c_i_Table_find (fl : Nat) (w : World) (a0 : T) (p0_0 : Option Addr) (n0_0 c0_0 : Nat) (p0_1 : Option Addr) (n0_1 c0_1 : Nat) (a1 : K) (hn0_0 : n0_0 = (a0.b).length) (hr0_0 : RO w (hkeys []) (RdL p0_0 c0_0 a0.b)) (hn0_1 : n0_1 = (a0.f).length) (hr0_1 : RO w (hkeys []) (RdL p0_1 c0_1 a0.f)) (r : Int) (H0 : i_Table_find fl a0 a1 = some r) :
    Ct Tryd.prog 28 [.agg #[.slice p0_0 n0_0 c0_0, .slice p0_1 n0_1 c0_1], .agg #[.int .i64 a1.s, .int .i64 a1.p]] w [] (fun rv h' => rv = .int .i64 r ∧ h' = []) := by
  obtain rfl := hn0_0
  obtain rfl := hn0_1
  unfold i_Table_find at H0
  refine ct_of_cw Tryd.func28 rfl Tryd.ntmps28 rfl (Sat.refl _ _) ?_
  refine sr (oE (stpU_box 0 rfl rfl) rfl ?_)
  rintro _ _ ⟨b1, rfl, rfl⟩
  refine oE (stpU_box 1 rfl rfl) rfl ?_
  rintro _ _ ⟨b2, rfl, rfl⟩
  obtain ⟨x3, e3, H0⟩ := bind_some H0
  refine oD (sg rfl) rfl (nn (sr (oD (fA 1 Tryd.underlying28 rfl ts26 rfl rfl rfl) rfl (oD (lB 0 ts26 rfl rfl rfl) rfl (oD (stp_makeFunc (sevs_cons rfl sevs_nil)) rfl (oE (stpU_call (fun i => 2 + i) cf58 (fun w hw => c_slices_IndexFunc_Frame_of_i_Table_find_1 fl w a0.f p0_1 ((a0.f).length) c0_1 b2 a1 rfl (RO.pass hr0_1 hw) (box_pass (id := 1) rfl hw) x3 e3) (sevs_cons rfl (sevs_cons rfl sevs_nil))) rfl ?_))))))
  rintro _ _ ⟨_, ⟨rfl, rfl⟩, rfl⟩
  refine oD (sg rfl) rfl (nn (cw_ret ?_))
  have q0 := Option.some.inj H0
  subst q0
  exact kw_ret Tryd.results28 (.cons (.tmp rfl) .nil) [] [] trivial (by decide) ⟨rfl, rfl⟩

set_option maxHeartbeats 4000000 in
set_option maxRecDepth 20000 in
theorem c_i_MachineValid (fl : Nat) (w : World) (a0 : Mc) (p0_0 : Option Addr) (n0_0 c0_0 : Nat) (p0_1 : Option Addr) (n0_1 c0_1 : Nat) (p0_2 : Option Addr) (n0_2 c0_2 : Nat) (p0_3 : Option Addr) (n0_3 c0_3 : Nat) (hn0_0 : n0_0 = (a0.t.b).length) (hr0_0 : RO w (hkeys []) (RdL p0_0 c0_0 a0.t.b)) (hn0_1 : n0_1 = (a0.t.f).length) (hr0_1 : RO w (hkeys []) (RdL p0_1 c0_1 a0.t.f)) (hn0_2 : n0_2 = (a0.c.l).length) (hr0_2 : RO w (hkeys []) (RdL p0_2 c0_2 a0.c.l)) (hn0_3 : n0_3 = (a0.g.o).length) (hr0_3 : RO w (hkeys []) (RdL p0_3 c0_3 a0.g.o)) (hg : RO w (hkeys []) (fun w' => w'.rangeAt 0 0 [.bool false, .int .i64 0, .int .i64 0, .int .i64 0, .int .i64 (-1)])) (r : Bool) (H0 : i_MachineValid fl a0 = some r) :
    Ct Tryd.prog 9 [.agg #[.slice p0_0 n0_0 c0_0, .slice p0_1 n0_1 c0_1, .slice p0_2 n0_2 c0_2, .int .i64 a0.c.h, .int .i64 a0.g.c, .int .i64 a0.g.n, .int .i64 a0.g.r, .slice p0_3 n0_3 c0_3, .int .i64 a0.s]] w [] (fun rv h' => rv = .bool r ∧ h' = []) := by
  obtain rfl := hn0_0
  obtain rfl := hn0_1
  obtain rfl := hn0_2
  obtain rfl := hn0_3
  unfold i_MachineValid at H0
  refine ct_of_cw Tryd.func9 rfl Tryd.ntmps9 rfl (Sat.refl _ _) ?_
  refine sr (oE (stpU_box 0 rfl rfl) rfl ?_)
  rintro _ _ ⟨b1, rfl, rfl⟩
  obtain ⟨x2, e2, H0⟩ := bind_some H0
  refine oD (sg rfl) rfl (nn (cw_seq (sr (oD (fA 0 Tryd.underlying36 rfl ts28 rfl rfl rfl) rfl (oD (stp_loadN (us := [_, _]) ts28 rfl (Cells.box (id := 0) rfl 2 rfl)) rfl (oE (stpU_call (fun i => 1 + i) cf32 (fun w hw => c_i_TableValid fl w a0.t p0_0 ((a0.t.b).length) c0_0 p0_1 ((a0.t.f).length) c0_1 rfl (RO.pass hr0_0 hw) rfl (RO.pass hr0_1 hw) (RO.pass hg hw) x2 e2) (sevs_cons rfl sevs_nil)) rfl ?_))))))
  rintro _ _ ⟨_, ⟨rfl, rfl⟩, rfl⟩
  obtain ⟨y3, ey3, H0⟩ := bind_some H0
  refine oD (stp_not rfl) rfl (oD (mv rfl) rfl (ow_cutY 5 21 y3 ?_ ?_))
  · rcases Bool.eq_false_or_eq_true (!x2) with hy3 | hy3
    · have ey3 := cond_t ey3 hy3
      refine oO rfl hy3 rfl (oO rfl hy3 rfl (oO rfl hy3 rfl (oO rfl hy3 rfl (oD (stp_pick_t rfl hy3 rfl) rfl ?_))))
      obtain rfl := Option.some.inj ey3
      exact ow_nil (jy 5 0)
    · have ey3 := cond_f ey3 hy3
      obtain ⟨x4, e4, ey3⟩ := bind_some ey3
      refine oG rfl hy3 (fA 2 Tryd.underlying36 rfl ts31 rfl rfl rfl) rfl (oG rfl hy3 (stp_loadN (us := [_, _]) ts31 rfl (Cells.box (id := 0) rfl 2 rfl)) rfl (ow_eff (.some rfl hy3) (stpU_call (fun i => 1 + i) cf33 (fun w hw => c_i_CacheValid fl w a0.c p0_2 ((a0.c.l).length) c0_2 rfl (RO.pass hr0_2 hw) x4 e4) (sevs_cons rfl sevs_nil)) rfl ?_))
      rintro _ _ ⟨_, ⟨rfl, rfl⟩, rfl⟩
      refine oG rfl hy3 (stp_not rfl) rfl (oD (stp_pick_f rfl hy3 rfl) rfl ?_)
      obtain rfl := Option.some.inj ey3
      exact ow_nil (jy 5 0)
  · obtain ⟨y5, ey5, H0⟩ := bind_some H0
    refine oD (mv rfl) rfl (ow_cutY 5 27 y5 ?_ ?_)
    · rcases Bool.eq_false_or_eq_true y3 with hy5 | hy5
      · have ey5 := cond_t ey5 hy5
        refine oO rfl hy5 rfl (oO rfl hy5 rfl (oO rfl hy5 rfl (oO rfl hy5 rfl (oD (stp_pick_t rfl hy5 rfl) rfl ?_))))
        obtain rfl := Option.some.inj ey5
        exact ow_nil (jy 5 0)
      · have ey5 := cond_f ey5 hy5
        obtain ⟨x6, e6, ey5⟩ := bind_some ey5
        refine oG rfl hy5 (fA 4 Tryd.underlying36 rfl ts34 rfl rfl rfl) rfl (oG rfl hy5 (stp_loadN (us := [_, _, _, _]) ts34 rfl (Cells.box (id := 0) rfl 4 rfl)) rfl (ow_eff (.some rfl hy5) (stpU_call (fun i => 1 + i) cf34 (fun w hw => c_i_TagsValid fl w a0.g p0_3 ((a0.g.o).length) c0_3 rfl (RO.pass hr0_3 hw) x6 e6) (sevs_cons rfl sevs_nil)) rfl ?_))
        rintro _ _ ⟨_, ⟨rfl, rfl⟩, rfl⟩
        refine oG rfl hy5 (stp_not rfl) rfl (oD (stp_pick_f rfl hy5 rfl) rfl ?_)
        obtain rfl := Option.some.inj ey5
        exact ow_nil (jy 5 0)
    · obtain ⟨y7, ey7, H0⟩ := bind_some H0
      refine oD (mv rfl) rfl (ow_cutY 7 35 y7 ?_ ?_)
      · rcases Bool.eq_false_or_eq_true y5 with hy7 | hy7
        · have ey7 := cond_t ey7 hy7
          refine oO rfl hy7 rfl (oO rfl hy7 rfl (oO rfl hy7 rfl (oO rfl hy7 rfl (oO rfl hy7 rfl (oO rfl hy7 rfl (oD (stp_pick_t rfl hy7 rfl) rfl ?_))))))
          obtain rfl := Option.some.inj ey7
          exact ow_nil (jy 7 0)
        · have ey7 := cond_f ey7 hy7
          obtain ⟨x8, e8, ey7⟩ := bind_some ey7
          refine oG rfl hy7 (fA 4 Tryd.underlying36 rfl ts34 rfl rfl rfl) rfl (oG rfl hy7 (stp_loadN (us := [_, _, _, _]) ts34 rfl (Cells.box (id := 0) rfl 4 rfl)) rfl (oG rfl hy7 (fA 8 Tryd.underlying36 rfl ts3 rfl rfl rfl) rfl (oG rfl hy7 (lB 0 ts3 rfl rfl rfl) rfl (ow_eff (.some rfl hy7) (stpU_call (fun i => 1 + i) cf35 (fun w hw => c_i_Tags_own fl w a0.g p0_3 ((a0.g.o).length) c0_3 a0.s rfl (RO.pass hr0_3 hw) x8 e8) (sevs_cons rfl (sevs_cons rfl sevs_nil))) rfl ?_))))
          rintro _ _ ⟨_, ⟨rfl, rfl⟩, rfl⟩
          refine oG rfl hy7 (stp_lss rfl rfl) rfl (oD (stp_pick_f rfl hy7 rfl) rfl ?_)
          obtain rfl := Option.some.inj ey7
          exact ow_nil (jy 7 0)
      · refine ow_nil (kw_nx (cw_cond rfl (fun h9 => ?_) (fun h9 => ?_)))
        · have H0 := cond_t H0 h9
          refine sr (oD (sg rfl) rfl (nn (cw_ret (kw_nx_ret ?_))))
          have q0 := Option.some.inj H0
          subst q0
          exact kw_ret Tryd.results9 (.cons (.tmp rfl) .nil) [] [] trivial (by decide) ⟨rfl, rfl⟩
        · have H0 := cond_f H0 h9
          obtain ⟨o0_0, eo0_0, H0⟩ := bind_some H0
          refine cw_skip (kw_nx (cw_seq (sr (oD (fA 0 Tryd.underlying36 rfl ts28 rfl rfl rfl) rfl (oD (fA 1 Tryd.underlying28 rfl ts26 rfl rfl rfl) rfl (oD (lB 0 ts26 rfl rfl rfl) rfl (oD (stp_len Tryd.underlying26 rfl) rfl (oD (mv rfl) rfl (nn (cw_join (ι := Int) (fun | v10 => o0_0 = .out v10) (fun | v10 => [(1, .pointer (some ⟨b1, 0, none⟩)), (38, .slice p0_1 ((a0.t.f).length) c0_1), (39, .int .i64 ((a0.t.f).length : Int)), (40, .int .i64 v10)]) (fun | v10 => [(0, [(b1, .cells #[.slice p0_0 ((a0.t.b).length) c0_0, .slice p0_1 ((a0.t.f).length) c0_1, .slice p0_2 ((a0.c.l).length) c0_2, .int .i64 a0.c.h, .int .i64 a0.g.c, .int .i64 a0.g.n, .int .i64 a0.g.r, .slice p0_3 ((a0.g.o).length) c0_3, .int .i64 a0.s] 36 (0, 0))])]) ?_ ?_))))))))))
          · refine cw_block (cw_loopS (ι := Nat × Int) (js := [0]) (fun x => x.1) (fun | (fuel, v10) => i_MachineValid_L0 fl a0 fuel v10 = some o0_0) (fun | (_, v10) => [(1, .pointer (some ⟨b1, 0, none⟩)), (38, .slice p0_1 ((a0.t.f).length) c0_1), (39, .int .i64 ((a0.t.f).length : Int)), (40, .int .i64 v10)]) (fun | (_, v10) => [(0, [(b1, .cells #[.slice p0_0 ((a0.t.b).length) c0_0, .slice p0_1 ((a0.t.f).length) c0_1, .slice p0_2 ((a0.c.l).length) c0_2, .int .i64 a0.c.h, .int .i64 a0.g.c, .int .i64 a0.g.n, .int .i64 a0.g.r, .slice p0_3 ((a0.g.o).length) c0_3, .int .i64 a0.s] 36 (0, 0))])]) (fl, 0) eo0_0 ⟨rfl, rfl, rfl, rfl, trivial⟩ ⟨0, [], rfl, rfl, trivial⟩ (by decide) ?_)
            rintro ⟨fuel, v10⟩ H1
            have H1 : i_MachineValid_L0 fl a0 fuel v10 = some o0_0 := H1
            rcases fuel with _ | fuel
            · rw [i_MachineValid_L0.eq_1] at H1; cases H1
            rw [i_MachineValid_L0.eq_2] at H1
            refine CW.sub (s' := [(1, .pointer (some ⟨b1, 0, none⟩)), (38, .slice p0_1 ((a0.t.f).length) c0_1), (39, .int .i64 ((a0.t.f).length : Int)), (40, .int .i64 v10)]) (h' := [(0, [(b1, .cells #[.slice p0_0 ((a0.t.b).length) c0_0, .slice p0_1 ((a0.t.f).length) c0_1, .slice p0_2 ((a0.c.l).length) c0_2, .int .i64 a0.c.h, .int .i64 a0.g.c, .int .i64 a0.g.n, .int .i64 a0.g.r, .slice p0_3 ((a0.g.o).length) c0_3, .int .i64 a0.s] 36 (0, 0))])]) ?_ ⟨rfl, rfl, rfl, rfl, trivial⟩ ⟨rfl, trivial⟩
            refine sr (oD (stp_lss rfl rfl) rfl (nn (cw_seq (cw_cond rfl (fun h11 => ?_) (fun h11 => ?_)))))
            · have H1 := cond_t H1 h11
              obtain ⟨x12, e12, H1⟩ := bind_some H1
              refine cw_skip (kw_nx (cw_seq (cw_block (sr (oD (stp_indexAddr Tryd.underlying26 ts71 (by decide) rfl rfl rfl (Rdb.ro hr0_1) e12) rfl (oD (stp_loadN (us := [_, _, _, _, _]) ts71 rfl (Cells.el (Rdb.ro hr0_1) (by decide) e12 0 5 rfl)) rfl (oE (stpU_alloc 1 tz71 rfl) rfl ?_)))))))
              rintro _ _ ⟨b13, rfl, rfl⟩
              refine oF (stpU_store (id := 1) (cs' := [.bool x12.u, .int .i64 x12.k.s, .int .i64 x12.k.p, .int .i64 x12.r, .int .i64 x12.nx]) ts71 rfl rfl rfl rfl rfl rfl rfl) ?_
              rintro _ _ rfl
              obtain ⟨y14, ey14, H1⟩ := bind_some H1
              refine nn (sr (oD (fA 0 Tryd.underlying71 rfl ts4 rfl rfl rfl) rfl (oD (lB 1 ts4 rfl rfl rfl) rfl (oD (mv rfl) rfl (ow_cutY 5 51 y14 ?_ ?_)))))
              · rcases Bool.eq_false_or_eq_true x12.u with hy14 | hy14
                · have ey14 := cond_t ey14 hy14
                  refine oG rfl hy14 (fA 1 Tryd.underlying71 rfl ts68 rfl rfl rfl) rfl (oG rfl hy14 (fA 1 Tryd.underlying68 rfl ts3 rfl rfl rfl) rfl (oG rfl hy14 (lB 1 ts3 rfl rfl rfl) rfl (oG rfl hy14 (stp_geq rfl rfl) rfl (oD (stp_pick_t rfl hy14 rfl) rfl ?_))))
                  obtain rfl := Option.some.inj ey14
                  exact ow_nil (jy 5 0)
                · have ey14 := cond_f ey14 hy14
                  refine oO rfl hy14 rfl (oO rfl hy14 rfl (oO rfl hy14 rfl (oO rfl hy14 rfl (oD (stp_pick_f rfl hy14 rfl) rfl ?_))))
                  obtain rfl := Option.some.inj ey14
                  exact ow_nil (jy 5 0)
              · obtain ⟨y15, ey15, H1⟩ := bind_some H1
                refine oD (mv rfl) rfl (ow_cutY 5 57 y15 ?_ ?_)
                · rcases Bool.eq_false_or_eq_true y14 with hy15 | hy15
                  · have ey15 := cond_t ey15 hy15
                    refine oG rfl hy15 (fA 1 Tryd.underlying71 rfl ts68 rfl rfl rfl) rfl (oG rfl hy15 (fA 0 Tryd.underlying68 rfl ts3 rfl rfl rfl) rfl (oG rfl hy15 (lB 1 ts3 rfl rfl rfl) rfl (oG rfl hy15 (stp_neq rfl rfl) rfl (oD (stp_pick_t rfl hy15 rfl) rfl ?_))))
                    obtain rfl := Option.some.inj ey15
                    exact ow_nil (jy 5 0)
                  · have ey15 := cond_f ey15 hy15
                    refine oO rfl hy15 rfl (oO rfl hy15 rfl (oO rfl hy15 rfl (oO rfl hy15 rfl (oD (stp_pick_f rfl hy15 rfl) rfl ?_))))
                    obtain rfl := Option.some.inj ey15
                    exact ow_nil (jy 5 0)
                · refine ow_nil (kw_nx (cw_cond rfl (fun h16 => ?_) (fun h16 => ?_)))
                  · have H1 := cond_t H1 h16
                    refine sr (oD (sg rfl) rfl (nn (cw_ret (kw_bl_ret (kw_nx_ret (kw_lq_ret (kw_bl_ret (kw_join_ret (kw_nx_ret ?_)))))))))
                    have q1 := Option.some.inj H1
                    subst q1
                    have q0 := Option.some.inj H0
                    subst q0
                    exact kw_ret Tryd.results9 (.cons (.tmp rfl) .nil) [] [] trivial (by decide) ⟨rfl, rfl⟩
                  · have H1 := cond_f H1 h16
                    obtain ⟨x17, e17, H1⟩ := bind_some H1
                    exact cw_skip (kw_bl_normal (kw_nx (cw_region (oD (stp_add rfl rfl e17) rfl (oD (mv rfl) rfl (ow_nil (kw_lqS (js := [0]) (fuel, x17) H1 (Nat.lt_succ_self _) ⟨rfl, rfl, rfl, rfl, trivial⟩ ⟨0, [], rfl, rfl, trivial⟩ (by decide))))))))
            · have H1 := cond_f H1 h11
              refine cw_exit (kw_nx_exit (kw_lq_exit (kw_bl ?_)))
              have q1 := Option.some.inj H1
              subst q1
              exact kw_joinS (js := [0]) v10 rfl ⟨rfl, rfl, rfl, rfl, trivial⟩ ⟨0, [], rfl, rfl, trivial⟩ (by decide)
          · rintro v10 rfl
            refine KW.sub (s' := [(1, .pointer (some ⟨b1, 0, none⟩)), (38, .slice p0_1 ((a0.t.f).length) c0_1), (39, .int .i64 ((a0.t.f).length : Int)), (40, .int .i64 v10)]) (h' := [(0, [(b1, .cells #[.slice p0_0 ((a0.t.b).length) c0_0, .slice p0_1 ((a0.t.f).length) c0_1, .slice p0_2 ((a0.c.l).length) c0_2, .int .i64 a0.c.h, .int .i64 a0.g.c, .int .i64 a0.g.n, .int .i64 a0.g.r, .slice p0_3 ((a0.g.o).length) c0_3, .int .i64 a0.s] 36 (0, 0))])]) ?_ ⟨rfl, rfl, rfl, rfl, trivial⟩ ⟨rfl, trivial⟩
            obtain ⟨o0_1, eo0_1, H0⟩ := bind_some H0
            refine kw_nx (cw_seq (sr (oD (fA 2 Tryd.underlying36 rfl ts31 rfl rfl rfl) rfl (oD (fA 0 Tryd.underlying31 rfl ts29 rfl rfl rfl) rfl (oD (lB 0 ts29 rfl rfl rfl) rfl (oD (stp_len Tryd.underlying29 rfl) rfl (oD (mv rfl) rfl (nn (cw_join (ι := Int) (fun | v18 => o0_1 = .out v18) (fun | v18 => [(1, .pointer (some ⟨b1, 0, none⟩)), (61, .slice p0_2 ((a0.c.l).length) c0_2), (62, .int .i64 ((a0.c.l).length : Int)), (63, .int .i64 v18)]) (fun | v18 => [(0, [(b1, .cells #[.slice p0_0 ((a0.t.b).length) c0_0, .slice p0_1 ((a0.t.f).length) c0_1, .slice p0_2 ((a0.c.l).length) c0_2, .int .i64 a0.c.h, .int .i64 a0.g.c, .int .i64 a0.g.n, .int .i64 a0.g.r, .slice p0_3 ((a0.g.o).length) c0_3, .int .i64 a0.s] 36 (0, 0))])]) ?_ ?_)))))))))
            · refine cw_block (cw_loopS (ι := Nat × Int) (js := [0]) (fun x => x.1) (fun | (fuel, v18) => i_MachineValid_L1 fl a0 fuel v18 = some o0_1) (fun | (_, v18) => [(1, .pointer (some ⟨b1, 0, none⟩)), (61, .slice p0_2 ((a0.c.l).length) c0_2), (62, .int .i64 ((a0.c.l).length : Int)), (63, .int .i64 v18)]) (fun | (_, v18) => [(0, [(b1, .cells #[.slice p0_0 ((a0.t.b).length) c0_0, .slice p0_1 ((a0.t.f).length) c0_1, .slice p0_2 ((a0.c.l).length) c0_2, .int .i64 a0.c.h, .int .i64 a0.g.c, .int .i64 a0.g.n, .int .i64 a0.g.r, .slice p0_3 ((a0.g.o).length) c0_3, .int .i64 a0.s] 36 (0, 0))])]) (fl, 0) eo0_1 ⟨rfl, rfl, rfl, rfl, trivial⟩ ⟨0, [], rfl, rfl, trivial⟩ (by decide) ?_)
              rintro ⟨fuel, v18⟩ H1
              have H1 : i_MachineValid_L1 fl a0 fuel v18 = some o0_1 := H1
              rcases fuel with _ | fuel
              · rw [i_MachineValid_L1.eq_1] at H1; cases H1
              rw [i_MachineValid_L1.eq_2] at H1
              refine CW.sub (s' := [(1, .pointer (some ⟨b1, 0, none⟩)), (61, .slice p0_2 ((a0.c.l).length) c0_2), (62, .int .i64 ((a0.c.l).length : Int)), (63, .int .i64 v18)]) (h' := [(0, [(b1, .cells #[.slice p0_0 ((a0.t.b).length) c0_0, .slice p0_1 ((a0.t.f).length) c0_1, .slice p0_2 ((a0.c.l).length) c0_2, .int .i64 a0.c.h, .int .i64 a0.g.c, .int .i64 a0.g.n, .int .i64 a0.g.r, .slice p0_3 ((a0.g.o).length) c0_3, .int .i64 a0.s] 36 (0, 0))])]) ?_ ⟨rfl, rfl, rfl, rfl, trivial⟩ ⟨rfl, trivial⟩
              refine sr (oD (stp_lss rfl rfl) rfl (nn (cw_seq (cw_cond rfl (fun h19 => ?_) (fun h19 => ?_)))))
              · have H1 := cond_t H1 h19
                obtain ⟨x20, e20, H1⟩ := bind_some H1
                refine cw_skip (kw_nx (cw_seq (cw_block (sr (oD (stp_indexAddr Tryd.underlying29 ts65 (by decide) rfl rfl rfl (Rdb.ro hr0_2) e20) rfl (oD (stp_loadN (us := [_, _, _, _, _, _]) ts65 rfl (Cells.el (Rdb.ro hr0_2) (by decide) e20 0 6 rfl)) rfl (oE (stpU_alloc 2 tz65 rfl) rfl ?_)))))))
                rintro _ _ ⟨b21, rfl, rfl⟩
                refine oF (stpU_store (id := 2) (cs' := [.bool x20.va, .int .i64 x20.tg, .int .i64 x20.pg, .int .i64 x20.fr, .int .i64 x20.ri, .bool x20.wi]) ts65 rfl rfl rfl rfl rfl rfl rfl) ?_
                rintro _ _ rfl
                refine nn (cw_seq (sr (oD (fA 0 Tryd.underlying65 rfl ts4 rfl rfl rfl) rfl (oD (lB 2 ts4 rfl rfl rfl) rfl (oD (stp_not rfl) rfl (nn (cw_cond rfl (fun h22 => ?_) (fun h22 => ?_))))))))
                · have H1 := cond_t H1 h22
                  obtain ⟨x23, e23, H1⟩ := bind_some H1
                  exact cw_exit (kw_nx_exit (kw_bl (kw_nx (cw_region (oD (stp_add rfl rfl e23) rfl (oD (mv rfl) rfl (ow_nil (kw_lqS (js := [0]) (fuel, x23) H1 (Nat.lt_succ_self _) ⟨rfl, rfl, rfl, rfl, trivial⟩ ⟨0, [], rfl, rfl, trivial⟩ (by decide)))))))))
                · have H1 := cond_f H1 h22
                  refine cw_skip (kw_nx (sr (oD (fA 2 Tryd.underlying65 rfl ts3 rfl rfl rfl) rfl (oD (lB 2 ts3 rfl rfl rfl) rfl (oD (stp_geq rfl rfl) rfl (oD (sg rfl) rfl (nn (cw_seq (sr (oD (mv rfl) rfl (oD (fA 1 Tryd.underlying65 rfl ts3 rfl rfl rfl) rfl (oD (lB 2 ts3 rfl rfl rfl) rfl (oD (stp_eql rfl rfl) rfl ?_)))))))))))))
                  obtain ⟨y24, ey24, H1⟩ := bind_some H1
                  refine oD (stp_neqB Tryd.underlying4 rfl rfl) rfl (oD (mv rfl) rfl (ow_cutY 7 85 y24 ?_ ?_))
                  · rcases Bool.eq_false_or_eq_true ((decide (128 ≤ x20.pg)) != (x20.tg == (-1))) with hy24 | hy24
                    · have ey24 := cond_t ey24 hy24
                      refine oO rfl hy24 rfl (oO rfl hy24 rfl (oO rfl hy24 rfl (oX rfl rfl rfl (oX rfl rfl rfl (oO rfl hy24 rfl (oD (stp_pick_t rfl hy24 rfl) rfl ?_))))))
                      obtain rfl := Option.some.inj ey24
                      exact ow_nil (jy 7 0)
                    · have ey24 := cond_f ey24 hy24
                      obtain ⟨y25, ey25, ey24⟩ := bind_some ey24
                      refine oG rfl hy24 (fA 5 Tryd.underlying65 rfl ts4 rfl rfl rfl) rfl (oG rfl hy24 (lB 2 ts4 rfl rfl rfl) rfl (oG rfl hy24 (mv rfl) rfl (ow_cutY 3 84 y25 ?_ ?_)))
                      · rcases Bool.eq_false_or_eq_true x20.wi with hy25 | hy25
                        · have ey25 := cond_t ey25 hy25
                          refine oG rfl hy25 (mv rfl) rfl (oG rfl hy25 (stp_not rfl) rfl (oG rfl hy24 (stp_pick_t rfl hy25 rfl) rfl ?_))
                          obtain rfl := Option.some.inj ey25
                          exact ow_nil (jy 3 0)
                        · have ey25 := cond_f ey25 hy25
                          refine oO rfl hy25 rfl (oO rfl hy25 rfl (oG rfl hy24 (stp_pick_f rfl hy25 rfl) rfl ?_))
                          obtain rfl := Option.some.inj ey25
                          exact ow_nil (jy 3 0)
                      · refine oD (stp_pick_f rfl hy24 rfl) rfl ?_
                        obtain rfl := Option.some.inj ey24
                        exact ow_nil (jy 5 0)
                  · refine ow_nil (kw_nx (cw_cond rfl (fun h26 => ?_) (fun h26 => ?_)))
                    · have H1 := cond_t H1 h26
                      refine sr (oD (sg rfl) rfl (nn (cw_ret (kw_nx_ret (kw_bl_ret (kw_nx_ret (kw_lq_ret (kw_bl_ret (kw_join_ret (kw_nx_ret ?_))))))))))
                      have q1 := Option.some.inj H1
                      subst q1
                      have q0 := Option.some.inj H0
                      subst q0
                      exact kw_ret Tryd.results9 (.cons (.tmp rfl) .nil) [] [] trivial (by decide) ⟨rfl, rfl⟩
                    · have H1 := cond_f H1 h26
                      refine cw_skip (kw_nx (sr (oD (sg rfl) rfl (nn (cw_seq (sr (oD (mv rfl) rfl (oD (stp_not rfl) rfl (nn (cw_cond rfl (fun h27 => ?_) (fun h27 => ?_)))))))))))
                      · have H1 := cond_t H1 h27
                        obtain ⟨x28, e28, H1⟩ := bind_some H1
                        refine sr (oD (fA 4 Tryd.underlying36 rfl ts34 rfl rfl rfl) rfl (oD (stp_loadN (us := [_, _, _, _]) ts34 rfl (Cells.box (id := 0) rfl 4 rfl)) rfl (oD (fA 1 Tryd.underlying65 rfl ts3 rfl rfl rfl) rfl (oD (lB 2 ts3 rfl rfl rfl) rfl (oE (stpU_call (fun i => 3 + i) cf36 (fun w hw => c_i_SpaceOf fl w a0.g p0_3 ((a0.g.o).length) c0_3 x20.tg rfl (RO.pass hr0_3 hw) x28 e28) (sevs_cons rfl (sevs_cons rfl sevs_nil))) rfl ?_)))))
                        rintro _ _ ⟨_, ⟨rfl, rfl⟩, rfl⟩
                        refine oD (mv rfl) rfl (oD (stp_extract rfl rfl) rfl (oD (stp_extract rfl rfl) rfl (oD (sg rfl) rfl (oD (sg rfl) rfl (nn (cw_seq (sr (oD (mv rfl) rfl (oD (stp_not rfl) rfl (nn (cw_cond rfl (fun h29 => ?_) (fun h29 => ?_))))))))))))
                        · have H1 := cond_t H1 h29
                          refine sr (oD (sg rfl) rfl (nn (cw_ret (kw_nx_ret (kw_nx_ret (kw_bl_ret (kw_nx_ret (kw_lq_ret (kw_bl_ret (kw_join_ret (kw_nx_ret ?_)))))))))))
                          have q1 := Option.some.inj H1
                          subst q1
                          have q0 := Option.some.inj H0
                          subst q0
                          exact kw_ret Tryd.results9 (.cons (.tmp rfl) .nil) [] [] trivial (by decide) ⟨rfl, rfl⟩
                        · have H1 := cond_f H1 h29
                          obtain ⟨x30, e30, H1⟩ := bind_some H1
                          obtain ⟨x31, e31, H1⟩ := bind_some H1
                          refine cw_skip (kw_nx (cw_region (oD (mv rfl) rfl (oD (sg rfl) rfl (nn (cw_seq (rdr g_mixed [1, 6, 8] [0, 2] { dst := dS [100, 101, 102, 103, 104, 105, 106, 12], pre := gA [] [[], [0], [], [], [3], [2, 3, 4], rn 0 6, rn 0 7], ids := fun _ => [], rs := rL [[(1, 0)], [(99, 1)], [(8, 0)], [(6, 0)], [(102, 4)], [(101, 3), (103, 5)], [(100, 2), (104, 6)], [(105, 7)]], rh := rL [[], [(0, 0)], [], [], [(2, 0)]], V := fun i g => gA undef [.pointer (some ⟨b1, 0, none⟩), .agg #[.slice p0_0 ((a0.t.b).length) c0_0, .slice p0_1 ((a0.t.f).length) c0_1], .int .i64 x28.1, .pointer (some ⟨b21, 2, none⟩), .int .i64 x20.pg, .agg #[.int .i64 x30.s, .int .i64 x30.p], .int .i64 x31, .int .i64 x31] i, U := fun _ _ => [], Φ := fun _ _ => True } ?_ ?_)))))))
                          · refine ⟨⟨⟨⟨⟨⟨⟨⟨trivial, lc rfl rfl fun hs hh => stp_fieldAddr (j := 0) Tryd.underlying36 rfl ts28 rfl (sv hs 1 rfl) rfl⟩, lc rfl rfl fun hs hh => stp_loadN (us := [_, _]) ts28 (sv hs 99 rfl) (Cells.box (id := 0) (hh.get 0 _ rfl) 2 rfl)⟩, lc rfl rfl fun hs hh => stp_move (sv hs 8 rfl)⟩, lc rfl rfl fun hs hh => stp_fieldAddr (j := 2) Tryd.underlying65 rfl ts3 rfl (sv hs 6 rfl) rfl⟩, lc rfl rfl fun hs hh => stp_load1 ts3 (sv hs 102 rfl) (Cells.box (id := 2) (hh.get 2 _ rfl) 1 rfl)⟩, ?_⟩, ?_⟩, lc rfl rfl fun hs hh => stp_assign (sv hs 105 rfl)⟩
                            · refine le rfl rfl (fun g hΦ s h hs hh => (stpU_call (fun i => 3 + i) cf29 (fun w hw => c_i_KeyFor fl w x28.1 x20.pg x30 e30) (sevs_cons (sv hs 101 rfl) (sevs_cons (sv hs 103 rfl) sevs_nil)))) ?_
                              rintro g _ _ ⟨_, ⟨rfl, rfl⟩, rfl⟩
                              exact ⟨⟨[], [], []⟩, trivial, .inr rfl, rfl⟩
                            · refine le rfl rfl (fun g hΦ s h hs hh => (stpU_call (fun i => 3 + i) cf28 (fun w hw => c_i_Table_find fl w a0.t p0_0 ((a0.t.b).length) c0_0 p0_1 ((a0.t.f).length) c0_1 x30 rfl (RO.pass hr0_0 hw) rfl (RO.pass hr0_1 hw) x31 e31) (sevs_cons (sv hs 100 rfl) (sevs_cons (sv hs 104 rfl) sevs_nil)))) ?_
                              rintro g _ _ ⟨_, ⟨rfl, rfl⟩, rfl⟩
                              exact ⟨⟨[], [], []⟩, trivial, .inr rfl, rfl⟩
                          · intro g hΦ
                            refine KW.sub (s' := [(1, .pointer (some ⟨b1, 0, none⟩)), (6, .pointer (some ⟨b21, 0, none⟩)), (11, .int .i64 x31), (61, .slice p0_2 ((a0.c.l).length) c0_2), (62, .int .i64 ((a0.c.l).length : Int)), (63, .int .i64 v18)]) (h' := [(0, [(b1, .cells #[.slice p0_0 ((a0.t.b).length) c0_0, .slice p0_1 ((a0.t.f).length) c0_1, .slice p0_2 ((a0.c.l).length) c0_2, .int .i64 a0.c.h, .int .i64 a0.g.c, .int .i64 a0.g.n, .int .i64 a0.g.r, .slice p0_3 ((a0.g.o).length) c0_3, .int .i64 a0.s] 36 (0, 0))]), (2, [(b21, .cells #[.bool x20.va, .int .i64 x20.tg, .int .i64 x20.pg, .int .i64 x20.fr, .int .i64 x20.ri, .bool x20.wi] 65 (0, 0))])]) ?_ ⟨rfl, rfl, rfl, rfl, rfl, rfl, trivial⟩ ⟨rfl, rfl, trivial⟩
                            obtain ⟨y32, ey32, H1⟩ := bind_some H1
                            obtain ⟨y33, ey33, H1⟩ := bind_some H1
                            refine kw_nx (cw_seq (cw_join (ι := Unit) (fun | _ => True) (fun | _ => [(1, .pointer (some ⟨b1, 0, none⟩)), (61, .slice p0_2 ((a0.c.l).length) c0_2), (62, .int .i64 ((a0.c.l).length : Int)), (63, .int .i64 v18), (125, .bool y33)]) (fun | _ => [(0, [(b1, .cells #[.slice p0_0 ((a0.t.b).length) c0_0, .slice p0_1 ((a0.t.f).length) c0_1, .slice p0_2 ((a0.c.l).length) c0_2, .int .i64 a0.c.h, .int .i64 a0.g.c, .int .i64 a0.g.n, .int .i64 a0.g.r, .slice p0_3 ((a0.g.o).length) c0_3, .int .i64 a0.s] 36 (0, 0))])]) ?_ ?_))
                            · rcases Bool.eq_false_or_eq_true (decide (x31 < 0)) with hy32 | hy32
                              · have ey32 := cond_t ey32 hy32
                                have qy32 := Option.some.inj ey32
                                have hy33 : y32 = true := by rw [← qy32]
                                have ey33 := cond_t ey33 hy33
                                have qy33 := Option.some.inj ey33
                                refine rdr g_mixed [11] [] { dst := dS [107, 108, 109, 110, 111, 112, 113, 114, 115, 116, 117, 118, 119, 120, 121, 122, 123, 124, 125, 126], pre := gA [] [[], [0], [0, 1], [0, 1, 2], [0, 1, 2], [0, 1, 2, 4], rn 0 6, rn 0 7, rn 0 8, rn 0 9, rn 0 10, rn 0 11, rn 0 9, rn 0 13, rn 0 14, rn 0 15, rn 0 9, [0, 1, 2, 3, 4, 5, 6, 7, 8, 16], rn 0 18, rn 0 19], ids := fun _ => [], rs := rL [[(11, 0)], [(106, 1)], [(107, 2)], [(108, 3)], [(108, 3)], [(108, 3)], [(108, 3)], [(108, 3), (112, 7)], [(113, 8)], [(114, 9)], [(114, 9)], [(114, 9)], [(114, 9)], [(114, 9)], [(114, 9)], [(114, 9)], [(114, 9)], [(114, 9)], [(114, 9)], [(114, 9), (124, 19)]], rh := fun _ => [], V := fun i g => gA undef [.int .i64 x31, .bool (decide (x31 < 0)), .bool (decide (x31 < 0)), undef, undef, undef, undef, .bool y32, .bool y32, undef, undef, undef, undef, undef, undef, undef, undef, undef, undef, .bool y33] i, U := fun _ _ => [], Φ := fun _ _ => True } ?_ ?_
                                · exact ⟨⟨⟨⟨⟨⟨⟨⟨⟨⟨⟨⟨⟨⟨⟨⟨⟨⟨⟨⟨trivial, lc rfl rfl fun hs hh => stp_move (sv hs 11 rfl)⟩, lc rfl rfl fun hs hh => stp_lss (sv hs 106 rfl) rfl⟩, lc rfl rfl fun hs hh => stp_move (sv hs 107 rfl)⟩, lo rfl rfl 108 hy32⟩, lo rfl rfl 108 hy32⟩, lo rfl rfl 108 hy32⟩, lo rfl rfl 108 hy32⟩, lc rfl rfl fun hs hh => stp_pick_tB (sv hs 108 rfl) hy32 rfl qy32⟩, lc rfl rfl fun hs hh => stp_move (sv hs 113 rfl)⟩, lo rfl rfl 114 hy33⟩, lo rfl rfl 114 hy33⟩, lo rfl rfl 114 hy33⟩, lo rfl rfl 114 hy33⟩, lo rfl rfl 114 hy33⟩, lo rfl rfl 114 hy33⟩, lo rfl rfl 114 hy33⟩, lo rfl rfl 114 hy33⟩, lo rfl rfl 114 hy33⟩, lo rfl rfl 114 hy33⟩, lc rfl rfl fun hs hh => stp_pick_tB (sv hs 114 rfl) hy33 rfl qy33⟩
                                · intro g hΦ
                                  exact kw_join () trivial ⟨rfl, rfl, rfl, rfl, rfl, trivial⟩ ⟨rfl, trivial⟩
                              · have ey32 := cond_f ey32 hy32
                                have qy32 := Option.some.inj ey32
                                rcases Bool.eq_false_or_eq_true y32 with hy33 | hy33
                                · have ey33 := cond_t ey33 hy33
                                  have qy33 := Option.some.inj ey33
                                  refine rdr g_mixed [6, 11] [2] { dst := dS [107, 108, 109, 110, 111, 112, 113, 114, 115, 116, 117, 118, 119, 120, 121, 122, 123, 124, 125, 126], pre := gA [] [[], [0], [0, 1], [0, 1, 2], [0, 1, 2], [0, 1, 2, 4], rn 0 6, rn 0 7, rn 0 8, rn 0 9, rn 0 10, rn 0 11, rn 0 9, rn 0 13, rn 0 14, rn 0 15, rn 0 9, [0, 1, 2, 3, 4, 5, 6, 7, 8, 16], rn 0 18, rn 0 19], ids := fun _ => [], rs := rL [[(11, 0)], [(106, 1)], [(107, 2)], [(11, 0), (108, 3)], [(6, 0), (108, 3)], [(110, 5), (108, 3)], [(109, 4), (111, 6), (108, 3)], [(108, 3), (112, 7)], [(113, 8)], [(114, 9)], [(114, 9)], [(114, 9)], [(114, 9)], [(114, 9)], [(114, 9)], [(114, 9)], [(114, 9)], [(114, 9)], [(114, 9)], [(114, 9), (124, 19)]], rh := rL [[], [], [], [], [], [(2, 0)]], V := fun i g => gA undef [.int .i64 x31, .bool (decide (x31 < 0)), .bool (decide (x31 < 0)), .int .i64 x31, .pointer (some ⟨b21, 3, none⟩), .int .i64 x20.fr, .bool (x31 != x20.fr), .bool y32, .bool y32, undef, undef, undef, undef, undef, undef, undef, undef, undef, undef, .bool y33] i, U := fun _ _ => [], Φ := fun _ _ => True } ?_ ?_
                                  · exact ⟨⟨⟨⟨⟨⟨⟨⟨⟨⟨⟨⟨⟨⟨⟨⟨⟨⟨⟨⟨trivial, lc rfl rfl fun hs hh => stp_move (sv hs 11 rfl)⟩, lc rfl rfl fun hs hh => stp_lss (sv hs 106 rfl) rfl⟩, lc rfl rfl fun hs hh => stp_move (sv hs 107 rfl)⟩, lg rfl rfl 108 hy32 fun hs hh => stp_move (sv hs 11 rfl)⟩, lg rfl rfl 108 hy32 fun hs hh => stp_fieldAddr (j := 3) Tryd.underlying65 rfl ts3 rfl (sv hs 6 rfl) rfl⟩, lg rfl rfl 108 hy32 fun hs hh => stp_load1 ts3 (sv hs 110 rfl) (Cells.box (id := 2) (hh.get 2 _ rfl) 1 rfl)⟩, lg rfl rfl 108 hy32 fun hs hh => stp_neq (sv hs 109 rfl) (sv hs 111 rfl)⟩, lc rfl rfl fun hs hh => stp_pick_fB (sv hs 108 rfl) hy32 (sv hs 112 rfl) qy32⟩, lc rfl rfl fun hs hh => stp_move (sv hs 113 rfl)⟩, lo rfl rfl 114 hy33⟩, lo rfl rfl 114 hy33⟩, lo rfl rfl 114 hy33⟩, lo rfl rfl 114 hy33⟩, lo rfl rfl 114 hy33⟩, lo rfl rfl 114 hy33⟩, lo rfl rfl 114 hy33⟩, lo rfl rfl 114 hy33⟩, lo rfl rfl 114 hy33⟩, lo rfl rfl 114 hy33⟩, lc rfl rfl fun hs hh => stp_pick_tB (sv hs 114 rfl) hy33 rfl qy33⟩
                                  · intro g hΦ
                                    exact kw_join () trivial ⟨rfl, rfl, rfl, rfl, rfl, trivial⟩ ⟨rfl, trivial⟩
                                · have ey33 := cond_f ey33 hy33
                                  obtain ⟨x34, e34, ey33⟩ := bind_some ey33
                                  have qy33 := Option.some.inj ey33
                                  refine rdr g_mixed [1, 6, 11] [0, 2] { dst := dS [107, 108, 109, 110, 111, 112, 113, 114, 115, 116, 117, 118, 119, 120, 121, 122, 123, 124, 125, 126], pre := gA [] [[], [0], [0, 1], [0, 1, 2], [0, 1, 2], [0, 1, 2, 4], rn 0 6, rn 0 7, rn 0 8, rn 0 9, rn 0 10, rn 0 11, rn 0 9, rn 0 13, rn 0 14, rn 0 15, rn 0 9, [0, 1, 2, 3, 4, 5, 6, 7, 8, 16], rn 0 18, rn 0 19], ids := fun _ => [], rs := rL [[(11, 0)], [(106, 1)], [(107, 2)], [(11, 0), (108, 3)], [(6, 0), (108, 3)], [(110, 5), (108, 3)], [(109, 4), (111, 6), (108, 3)], [(108, 3), (112, 7)], [(113, 8)], [(1, 0), (114, 9)], [(115, 10), (114, 9)], [(116, 11), (114, 9)], [(11, 0), (114, 9)], [(117, 12), (118, 13), (114, 9)], [(119, 14), (114, 9)], [(120, 15), (114, 9)], [(6, 0), (114, 9)], [(122, 17), (114, 9)], [(121, 16), (123, 18), (114, 9)], [(114, 9), (124, 19)]], rh := rL [[], [], [], [], [], [(2, 0)], [], [], [], [], [], [(0, 0)], [], [], [], [], [], [(2, 0)]], V := fun i g => gA undef [.int .i64 x31, .bool (decide (x31 < 0)), .bool (decide (x31 < 0)), .int .i64 x31, .pointer (some ⟨b21, 3, none⟩), .int .i64 x20.fr, .bool (x31 != x20.fr), .bool y32, .bool y32, .pointer (some ⟨b1, 0, none⟩), .pointer (some ⟨b1, 1, none⟩), .slice p0_1 ((a0.t.f).length) c0_1, .int .i64 x31, .pointer (some ⟨eB p0_1, eO p0_1 + Int.toNat x31 * Enc.sz F + 0, none⟩), .pointer (some ⟨eB p0_1, eO p0_1 + Int.toNat x31 * Enc.sz F + 3, none⟩), .int .i64 x34.r, .pointer (some ⟨b21, 4, none⟩), .int .i64 x20.ri, .bool (x34.r != x20.ri), .bool y33] i, U := fun _ _ => [], Φ := fun _ _ => True } ?_ ?_
                                  · exact ⟨⟨⟨⟨⟨⟨⟨⟨⟨⟨⟨⟨⟨⟨⟨⟨⟨⟨⟨⟨trivial, lc rfl rfl fun hs hh => stp_move (sv hs 11 rfl)⟩, lc rfl rfl fun hs hh => stp_lss (sv hs 106 rfl) rfl⟩, lc rfl rfl fun hs hh => stp_move (sv hs 107 rfl)⟩, lg rfl rfl 108 hy32 fun hs hh => stp_move (sv hs 11 rfl)⟩, lg rfl rfl 108 hy32 fun hs hh => stp_fieldAddr (j := 3) Tryd.underlying65 rfl ts3 rfl (sv hs 6 rfl) rfl⟩, lg rfl rfl 108 hy32 fun hs hh => stp_load1 ts3 (sv hs 110 rfl) (Cells.box (id := 2) (hh.get 2 _ rfl) 1 rfl)⟩, lg rfl rfl 108 hy32 fun hs hh => stp_neq (sv hs 109 rfl) (sv hs 111 rfl)⟩, lc rfl rfl fun hs hh => stp_pick_fB (sv hs 108 rfl) hy32 (sv hs 112 rfl) qy32⟩, lc rfl rfl fun hs hh => stp_move (sv hs 113 rfl)⟩, lg rfl rfl 114 hy33 fun hs hh => stp_fieldAddr (j := 0) Tryd.underlying36 rfl ts28 rfl (sv hs 1 rfl) rfl⟩, lg rfl rfl 114 hy33 fun hs hh => stp_fieldAddr (j := 1) Tryd.underlying28 rfl ts26 rfl (sv hs 115 rfl) rfl⟩, lg rfl rfl 114 hy33 fun hs hh => stp_load1 ts26 (sv hs 116 rfl) (Cells.box (id := 0) (hh.get 0 _ rfl) 1 rfl)⟩, lg rfl rfl 114 hy33 fun hs hh => stp_move (sv hs 11 rfl)⟩, lg rfl rfl 114 hy33 fun hs hh => stp_indexAddr Tryd.underlying26 ts71 (by decide) (sv hs 117 rfl) rfl (sv hs 118 rfl) (Rdb.ro hr0_1) e34⟩, lg rfl rfl 114 hy33 fun hs hh => stp_fieldAddr (j := 3) Tryd.underlying71 rfl ts3 rfl (sv hs 119 rfl) rfl⟩, lg rfl rfl 114 hy33 fun hs hh => stp_load1 ts3 (sv hs 120 rfl) (Cells.el (Rdb.ro hr0_1) (by decide) e34 3 1 rfl)⟩, lg rfl rfl 114 hy33 fun hs hh => stp_fieldAddr (j := 4) Tryd.underlying65 rfl ts3 rfl (sv hs 6 rfl) rfl⟩, lg rfl rfl 114 hy33 fun hs hh => stp_load1 ts3 (sv hs 122 rfl) (Cells.box (id := 2) (hh.get 2 _ rfl) 1 rfl)⟩, lg rfl rfl 114 hy33 fun hs hh => stp_neq (sv hs 121 rfl) (sv hs 123 rfl)⟩, lc rfl rfl fun hs hh => stp_pick_fB (sv hs 114 rfl) hy33 (sv hs 124 rfl) qy33⟩
                                  · intro g hΦ
                                    exact kw_join () trivial ⟨rfl, rfl, rfl, rfl, rfl, trivial⟩ ⟨rfl, trivial⟩
                            · rintro _ -
                              refine KW.sub (s' := [(1, .pointer (some ⟨b1, 0, none⟩)), (61, .slice p0_2 ((a0.c.l).length) c0_2), (62, .int .i64 ((a0.c.l).length : Int)), (63, .int .i64 v18), (125, .bool y33)]) (h' := [(0, [(b1, .cells #[.slice p0_0 ((a0.t.b).length) c0_0, .slice p0_1 ((a0.t.f).length) c0_1, .slice p0_2 ((a0.c.l).length) c0_2, .int .i64 a0.c.h, .int .i64 a0.g.c, .int .i64 a0.g.n, .int .i64 a0.g.r, .slice p0_3 ((a0.g.o).length) c0_3, .int .i64 a0.s] 36 (0, 0))])]) ?_ ⟨rfl, rfl, rfl, rfl, rfl, trivial⟩ ⟨rfl, trivial⟩
                              refine kw_nx (cw_cond rfl (fun h35 => ?_) (fun h35 => ?_))
                              · have H1 := cond_t H1 h35
                                refine sr (oD (sg rfl) rfl (nn (cw_ret (kw_bl_ret (kw_nx_ret (kw_lq_ret (kw_bl_ret (kw_join_ret (kw_nx_ret ?_)))))))))
                                have q1 := Option.some.inj H1
                                subst q1
                                have q0 := Option.some.inj H0
                                subst q0
                                exact kw_ret Tryd.results9 (.cons (.tmp rfl) .nil) [] [] trivial (by decide) ⟨rfl, rfl⟩
                              · have H1 := cond_f H1 h35
                                obtain ⟨x36, e36, H1⟩ := bind_some H1
                                exact cw_skip (kw_bl_normal (kw_nx (cw_region (oD (stp_add rfl rfl e36) rfl (oD (mv rfl) rfl (ow_nil (kw_lqS (js := [0]) (fuel, x36) H1 (Nat.lt_succ_self _) ⟨rfl, rfl, rfl, rfl, trivial⟩ ⟨0, [], rfl, rfl, trivial⟩ (by decide))))))))
                      · have H1 := cond_f H1 h27
                        obtain ⟨x37, e37, H1⟩ := bind_some H1
                        obtain ⟨x38, e38, H1⟩ := bind_some H1
                        refine cw_skip (kw_nx (cw_seq (rdr g_mixed [1, 6, 8] [0, 2] { dst := dS [100, 101, 102, 103, 104, 105, 106, 12], pre := gA [] [[], [0], [], [], [3], [2, 3, 4], rn 0 6, rn 0 7], ids := fun _ => [], rs := rL [[(1, 0)], [(99, 1)], [(8, 0)], [(6, 0)], [(102, 4)], [(101, 3), (103, 5)], [(100, 2), (104, 6)], [(105, 7)]], rh := rL [[], [(0, 0)], [], [], [(2, 0)]], V := fun i g => gA undef [.pointer (some ⟨b1, 0, none⟩), .agg #[.slice p0_0 ((a0.t.b).length) c0_0, .slice p0_1 ((a0.t.f).length) c0_1], .int .i64 0, .pointer (some ⟨b21, 2, none⟩), .int .i64 x20.pg, .agg #[.int .i64 x37.s, .int .i64 x37.p], .int .i64 x38, .int .i64 x38] i, U := fun _ _ => [], Φ := fun _ _ => True } ?_ ?_)))
                        · refine ⟨⟨⟨⟨⟨⟨⟨⟨trivial, lc rfl rfl fun hs hh => stp_fieldAddr (j := 0) Tryd.underlying36 rfl ts28 rfl (sv hs 1 rfl) rfl⟩, lc rfl rfl fun hs hh => stp_loadN (us := [_, _]) ts28 (sv hs 99 rfl) (Cells.box (id := 0) (hh.get 0 _ rfl) 2 rfl)⟩, lc rfl rfl fun hs hh => stp_move (sv hs 8 rfl)⟩, lc rfl rfl fun hs hh => stp_fieldAddr (j := 2) Tryd.underlying65 rfl ts3 rfl (sv hs 6 rfl) rfl⟩, lc rfl rfl fun hs hh => stp_load1 ts3 (sv hs 102 rfl) (Cells.box (id := 2) (hh.get 2 _ rfl) 1 rfl)⟩, ?_⟩, ?_⟩, lc rfl rfl fun hs hh => stp_assign (sv hs 105 rfl)⟩
                          · refine le rfl rfl (fun g hΦ s h hs hh => (stpU_call (fun i => 3 + i) cf29 (fun w hw => c_i_KeyFor fl w 0 x20.pg x37 e37) (sevs_cons (sv hs 101 rfl) (sevs_cons (sv hs 103 rfl) sevs_nil)))) ?_
                            rintro g _ _ ⟨_, ⟨rfl, rfl⟩, rfl⟩
                            exact ⟨⟨[], [], []⟩, trivial, .inr rfl, rfl⟩
                          · refine le rfl rfl (fun g hΦ s h hs hh => (stpU_call (fun i => 3 + i) cf28 (fun w hw => c_i_Table_find fl w a0.t p0_0 ((a0.t.b).length) c0_0 p0_1 ((a0.t.f).length) c0_1 x37 rfl (RO.pass hr0_0 hw) rfl (RO.pass hr0_1 hw) x38 e38) (sevs_cons (sv hs 100 rfl) (sevs_cons (sv hs 104 rfl) sevs_nil)))) ?_
                            rintro g _ _ ⟨_, ⟨rfl, rfl⟩, rfl⟩
                            exact ⟨⟨[], [], []⟩, trivial, .inr rfl, rfl⟩
                        · intro g hΦ
                          refine KW.sub (s' := [(1, .pointer (some ⟨b1, 0, none⟩)), (6, .pointer (some ⟨b21, 0, none⟩)), (11, .int .i64 x38), (61, .slice p0_2 ((a0.c.l).length) c0_2), (62, .int .i64 ((a0.c.l).length : Int)), (63, .int .i64 v18)]) (h' := [(0, [(b1, .cells #[.slice p0_0 ((a0.t.b).length) c0_0, .slice p0_1 ((a0.t.f).length) c0_1, .slice p0_2 ((a0.c.l).length) c0_2, .int .i64 a0.c.h, .int .i64 a0.g.c, .int .i64 a0.g.n, .int .i64 a0.g.r, .slice p0_3 ((a0.g.o).length) c0_3, .int .i64 a0.s] 36 (0, 0))]), (2, [(b21, .cells #[.bool x20.va, .int .i64 x20.tg, .int .i64 x20.pg, .int .i64 x20.fr, .int .i64 x20.ri, .bool x20.wi] 65 (0, 0))])]) ?_ ⟨rfl, rfl, rfl, rfl, rfl, rfl, trivial⟩ ⟨rfl, rfl, trivial⟩
                          obtain ⟨y39, ey39, H1⟩ := bind_some H1
                          obtain ⟨y40, ey40, H1⟩ := bind_some H1
                          refine kw_nx (cw_seq (cw_join (ι := Unit) (fun | _ => True) (fun | _ => [(1, .pointer (some ⟨b1, 0, none⟩)), (61, .slice p0_2 ((a0.c.l).length) c0_2), (62, .int .i64 ((a0.c.l).length : Int)), (63, .int .i64 v18), (125, .bool y40)]) (fun | _ => [(0, [(b1, .cells #[.slice p0_0 ((a0.t.b).length) c0_0, .slice p0_1 ((a0.t.f).length) c0_1, .slice p0_2 ((a0.c.l).length) c0_2, .int .i64 a0.c.h, .int .i64 a0.g.c, .int .i64 a0.g.n, .int .i64 a0.g.r, .slice p0_3 ((a0.g.o).length) c0_3, .int .i64 a0.s] 36 (0, 0))])]) ?_ ?_))
                          · rcases Bool.eq_false_or_eq_true (decide (x38 < 0)) with hy39 | hy39
                            · have ey39 := cond_t ey39 hy39
                              have qy39 := Option.some.inj ey39
                              have hy40 : y39 = true := by rw [← qy39]
                              have ey40 := cond_t ey40 hy40
                              have qy40 := Option.some.inj ey40
                              refine rdr g_mixed [11] [] { dst := dS [107, 108, 109, 110, 111, 112, 113, 114, 115, 116, 117, 118, 119, 120, 121, 122, 123, 124, 125, 126], pre := gA [] [[], [0], [0, 1], [0, 1, 2], [0, 1, 2], [0, 1, 2, 4], rn 0 6, rn 0 7, rn 0 8, rn 0 9, rn 0 10, rn 0 11, rn 0 9, rn 0 13, rn 0 14, rn 0 15, rn 0 9, [0, 1, 2, 3, 4, 5, 6, 7, 8, 16], rn 0 18, rn 0 19], ids := fun _ => [], rs := rL [[(11, 0)], [(106, 1)], [(107, 2)], [(108, 3)], [(108, 3)], [(108, 3)], [(108, 3)], [(108, 3), (112, 7)], [(113, 8)], [(114, 9)], [(114, 9)], [(114, 9)], [(114, 9)], [(114, 9)], [(114, 9)], [(114, 9)], [(114, 9)], [(114, 9)], [(114, 9)], [(114, 9), (124, 19)]], rh := fun _ => [], V := fun i g => gA undef [.int .i64 x38, .bool (decide (x38 < 0)), .bool (decide (x38 < 0)), undef, undef, undef, undef, .bool y39, .bool y39, undef, undef, undef, undef, undef, undef, undef, undef, undef, undef, .bool y40] i, U := fun _ _ => [], Φ := fun _ _ => True } ?_ ?_
                              · exact ⟨⟨⟨⟨⟨⟨⟨⟨⟨⟨⟨⟨⟨⟨⟨⟨⟨⟨⟨⟨trivial, lc rfl rfl fun hs hh => stp_move (sv hs 11 rfl)⟩, lc rfl rfl fun hs hh => stp_lss (sv hs 106 rfl) rfl⟩, lc rfl rfl fun hs hh => stp_move (sv hs 107 rfl)⟩, lo rfl rfl 108 hy39⟩, lo rfl rfl 108 hy39⟩, lo rfl rfl 108 hy39⟩, lo rfl rfl 108 hy39⟩, lc rfl rfl fun hs hh => stp_pick_tB (sv hs 108 rfl) hy39 rfl qy39⟩, lc rfl rfl fun hs hh => stp_move (sv hs 113 rfl)⟩, lo rfl rfl 114 hy40⟩, lo rfl rfl 114 hy40⟩, lo rfl rfl 114 hy40⟩, lo rfl rfl 114 hy40⟩, lo rfl rfl 114 hy40⟩, lo rfl rfl 114 hy40⟩, lo rfl rfl 114 hy40⟩, lo rfl rfl 114 hy40⟩, lo rfl rfl 114 hy40⟩, lo rfl rfl 114 hy40⟩, lc rfl rfl fun hs hh => stp_pick_tB (sv hs 114 rfl) hy40 rfl qy40⟩
                              · intro g hΦ
                                exact kw_join () trivial ⟨rfl, rfl, rfl, rfl, rfl, trivial⟩ ⟨rfl, trivial⟩
                            · have ey39 := cond_f ey39 hy39
                              have qy39 := Option.some.inj ey39
                              rcases Bool.eq_false_or_eq_true y39 with hy40 | hy40
                              · have ey40 := cond_t ey40 hy40
                                have qy40 := Option.some.inj ey40
                                refine rdr g_mixed [6, 11] [2] { dst := dS [107, 108, 109, 110, 111, 112, 113, 114, 115, 116, 117, 118, 119, 120, 121, 122, 123, 124, 125, 126], pre := gA [] [[], [0], [0, 1], [0, 1, 2], [0, 1, 2], [0, 1, 2, 4], rn 0 6, rn 0 7, rn 0 8, rn 0 9, rn 0 10, rn 0 11, rn 0 9, rn 0 13, rn 0 14, rn 0 15, rn 0 9, [0, 1, 2, 3, 4, 5, 6, 7, 8, 16], rn 0 18, rn 0 19], ids := fun _ => [], rs := rL [[(11, 0)], [(106, 1)], [(107, 2)], [(11, 0), (108, 3)], [(6, 0), (108, 3)], [(110, 5), (108, 3)], [(109, 4), (111, 6), (108, 3)], [(108, 3), (112, 7)], [(113, 8)], [(114, 9)], [(114, 9)], [(114, 9)], [(114, 9)], [(114, 9)], [(114, 9)], [(114, 9)], [(114, 9)], [(114, 9)], [(114, 9)], [(114, 9), (124, 19)]], rh := rL [[], [], [], [], [], [(2, 0)]], V := fun i g => gA undef [.int .i64 x38, .bool (decide (x38 < 0)), .bool (decide (x38 < 0)), .int .i64 x38, .pointer (some ⟨b21, 3, none⟩), .int .i64 x20.fr, .bool (x38 != x20.fr), .bool y39, .bool y39, undef, undef, undef, undef, undef, undef, undef, undef, undef, undef, .bool y40] i, U := fun _ _ => [], Φ := fun _ _ => True } ?_ ?_
                                · exact ⟨⟨⟨⟨⟨⟨⟨⟨⟨⟨⟨⟨⟨⟨⟨⟨⟨⟨⟨⟨trivial, lc rfl rfl fun hs hh => stp_move (sv hs 11 rfl)⟩, lc rfl rfl fun hs hh => stp_lss (sv hs 106 rfl) rfl⟩, lc rfl rfl fun hs hh => stp_move (sv hs 107 rfl)⟩, lg rfl rfl 108 hy39 fun hs hh => stp_move (sv hs 11 rfl)⟩, lg rfl rfl 108 hy39 fun hs hh => stp_fieldAddr (j := 3) Tryd.underlying65 rfl ts3 rfl (sv hs 6 rfl) rfl⟩, lg rfl rfl 108 hy39 fun hs hh => stp_load1 ts3 (sv hs 110 rfl) (Cells.box (id := 2) (hh.get 2 _ rfl) 1 rfl)⟩, lg rfl rfl 108 hy39 fun hs hh => stp_neq (sv hs 109 rfl) (sv hs 111 rfl)⟩, lc rfl rfl fun hs hh => stp_pick_fB (sv hs 108 rfl) hy39 (sv hs 112 rfl) qy39⟩, lc rfl rfl fun hs hh => stp_move (sv hs 113 rfl)⟩, lo rfl rfl 114 hy40⟩, lo rfl rfl 114 hy40⟩, lo rfl rfl 114 hy40⟩, lo rfl rfl 114 hy40⟩, lo rfl rfl 114 hy40⟩, lo rfl rfl 114 hy40⟩, lo rfl rfl 114 hy40⟩, lo rfl rfl 114 hy40⟩, lo rfl rfl 114 hy40⟩, lo rfl rfl 114 hy40⟩, lc rfl rfl fun hs hh => stp_pick_tB (sv hs 114 rfl) hy40 rfl qy40⟩
                                · intro g hΦ
                                  exact kw_join () trivial ⟨rfl, rfl, rfl, rfl, rfl, trivial⟩ ⟨rfl, trivial⟩
                              · have ey40 := cond_f ey40 hy40
                                obtain ⟨x41, e41, ey40⟩ := bind_some ey40
                                have qy40 := Option.some.inj ey40
                                refine rdr g_mixed [1, 6, 11] [0, 2] { dst := dS [107, 108, 109, 110, 111, 112, 113, 114, 115, 116, 117, 118, 119, 120, 121, 122, 123, 124, 125, 126], pre := gA [] [[], [0], [0, 1], [0, 1, 2], [0, 1, 2], [0, 1, 2, 4], rn 0 6, rn 0 7, rn 0 8, rn 0 9, rn 0 10, rn 0 11, rn 0 9, rn 0 13, rn 0 14, rn 0 15, rn 0 9, [0, 1, 2, 3, 4, 5, 6, 7, 8, 16], rn 0 18, rn 0 19], ids := fun _ => [], rs := rL [[(11, 0)], [(106, 1)], [(107, 2)], [(11, 0), (108, 3)], [(6, 0), (108, 3)], [(110, 5), (108, 3)], [(109, 4), (111, 6), (108, 3)], [(108, 3), (112, 7)], [(113, 8)], [(1, 0), (114, 9)], [(115, 10), (114, 9)], [(116, 11), (114, 9)], [(11, 0), (114, 9)], [(117, 12), (118, 13), (114, 9)], [(119, 14), (114, 9)], [(120, 15), (114, 9)], [(6, 0), (114, 9)], [(122, 17), (114, 9)], [(121, 16), (123, 18), (114, 9)], [(114, 9), (124, 19)]], rh := rL [[], [], [], [], [], [(2, 0)], [], [], [], [], [], [(0, 0)], [], [], [], [], [], [(2, 0)]], V := fun i g => gA undef [.int .i64 x38, .bool (decide (x38 < 0)), .bool (decide (x38 < 0)), .int .i64 x38, .pointer (some ⟨b21, 3, none⟩), .int .i64 x20.fr, .bool (x38 != x20.fr), .bool y39, .bool y39, .pointer (some ⟨b1, 0, none⟩), .pointer (some ⟨b1, 1, none⟩), .slice p0_1 ((a0.t.f).length) c0_1, .int .i64 x38, .pointer (some ⟨eB p0_1, eO p0_1 + Int.toNat x38 * Enc.sz F + 0, none⟩), .pointer (some ⟨eB p0_1, eO p0_1 + Int.toNat x38 * Enc.sz F + 3, none⟩), .int .i64 x41.r, .pointer (some ⟨b21, 4, none⟩), .int .i64 x20.ri, .bool (x41.r != x20.ri), .bool y40] i, U := fun _ _ => [], Φ := fun _ _ => True } ?_ ?_
                                · exact ⟨⟨⟨⟨⟨⟨⟨⟨⟨⟨⟨⟨⟨⟨⟨⟨⟨⟨⟨⟨trivial, lc rfl rfl fun hs hh => stp_move (sv hs 11 rfl)⟩, lc rfl rfl fun hs hh => stp_lss (sv hs 106 rfl) rfl⟩, lc rfl rfl fun hs hh => stp_move (sv hs 107 rfl)⟩, lg rfl rfl 108 hy39 fun hs hh => stp_move (sv hs 11 rfl)⟩, lg rfl rfl 108 hy39 fun hs hh => stp_fieldAddr (j := 3) Tryd.underlying65 rfl ts3 rfl (sv hs 6 rfl) rfl⟩, lg rfl rfl 108 hy39 fun hs hh => stp_load1 ts3 (sv hs 110 rfl) (Cells.box (id := 2) (hh.get 2 _ rfl) 1 rfl)⟩, lg rfl rfl 108 hy39 fun hs hh => stp_neq (sv hs 109 rfl) (sv hs 111 rfl)⟩, lc rfl rfl fun hs hh => stp_pick_fB (sv hs 108 rfl) hy39 (sv hs 112 rfl) qy39⟩, lc rfl rfl fun hs hh => stp_move (sv hs 113 rfl)⟩, lg rfl rfl 114 hy40 fun hs hh => stp_fieldAddr (j := 0) Tryd.underlying36 rfl ts28 rfl (sv hs 1 rfl) rfl⟩, lg rfl rfl 114 hy40 fun hs hh => stp_fieldAddr (j := 1) Tryd.underlying28 rfl ts26 rfl (sv hs 115 rfl) rfl⟩, lg rfl rfl 114 hy40 fun hs hh => stp_load1 ts26 (sv hs 116 rfl) (Cells.box (id := 0) (hh.get 0 _ rfl) 1 rfl)⟩, lg rfl rfl 114 hy40 fun hs hh => stp_move (sv hs 11 rfl)⟩, lg rfl rfl 114 hy40 fun hs hh => stp_indexAddr Tryd.underlying26 ts71 (by decide) (sv hs 117 rfl) rfl (sv hs 118 rfl) (Rdb.ro hr0_1) e41⟩, lg rfl rfl 114 hy40 fun hs hh => stp_fieldAddr (j := 3) Tryd.underlying71 rfl ts3 rfl (sv hs 119 rfl) rfl⟩, lg rfl rfl 114 hy40 fun hs hh => stp_load1 ts3 (sv hs 120 rfl) (Cells.el (Rdb.ro hr0_1) (by decide) e41 3 1 rfl)⟩, lg rfl rfl 114 hy40 fun hs hh => stp_fieldAddr (j := 4) Tryd.underlying65 rfl ts3 rfl (sv hs 6 rfl) rfl⟩, lg rfl rfl 114 hy40 fun hs hh => stp_load1 ts3 (sv hs 122 rfl) (Cells.box (id := 2) (hh.get 2 _ rfl) 1 rfl)⟩, lg rfl rfl 114 hy40 fun hs hh => stp_neq (sv hs 121 rfl) (sv hs 123 rfl)⟩, lc rfl rfl fun hs hh => stp_pick_fB (sv hs 114 rfl) hy40 (sv hs 124 rfl) qy40⟩
                                · intro g hΦ
                                  exact kw_join () trivial ⟨rfl, rfl, rfl, rfl, rfl, trivial⟩ ⟨rfl, trivial⟩
                          · rintro _ -
                            refine KW.sub (s' := [(1, .pointer (some ⟨b1, 0, none⟩)), (61, .slice p0_2 ((a0.c.l).length) c0_2), (62, .int .i64 ((a0.c.l).length : Int)), (63, .int .i64 v18), (125, .bool y40)]) (h' := [(0, [(b1, .cells #[.slice p0_0 ((a0.t.b).length) c0_0, .slice p0_1 ((a0.t.f).length) c0_1, .slice p0_2 ((a0.c.l).length) c0_2, .int .i64 a0.c.h, .int .i64 a0.g.c, .int .i64 a0.g.n, .int .i64 a0.g.r, .slice p0_3 ((a0.g.o).length) c0_3, .int .i64 a0.s] 36 (0, 0))])]) ?_ ⟨rfl, rfl, rfl, rfl, rfl, trivial⟩ ⟨rfl, trivial⟩
                            refine kw_nx (cw_cond rfl (fun h42 => ?_) (fun h42 => ?_))
                            · have H1 := cond_t H1 h42
                              refine sr (oD (sg rfl) rfl (nn (cw_ret (kw_bl_ret (kw_nx_ret (kw_lq_ret (kw_bl_ret (kw_join_ret (kw_nx_ret ?_)))))))))
                              have q1 := Option.some.inj H1
                              subst q1
                              have q0 := Option.some.inj H0
                              subst q0
                              exact kw_ret Tryd.results9 (.cons (.tmp rfl) .nil) [] [] trivial (by decide) ⟨rfl, rfl⟩
                            · have H1 := cond_f H1 h42
                              obtain ⟨x43, e43, H1⟩ := bind_some H1
                              exact cw_skip (kw_bl_normal (kw_nx (cw_region (oD (stp_add rfl rfl e43) rfl (oD (mv rfl) rfl (ow_nil (kw_lqS (js := [0]) (fuel, x43) H1 (Nat.lt_succ_self _) ⟨rfl, rfl, rfl, rfl, trivial⟩ ⟨0, [], rfl, rfl, trivial⟩ (by decide))))))))
              · have H1 := cond_f H1 h19
                refine cw_exit (kw_nx_exit (kw_lq_exit (kw_bl ?_)))
                have q1 := Option.some.inj H1
                subst q1
                exact kw_joinS (js := [0]) v18 rfl ⟨rfl, rfl, rfl, rfl, trivial⟩ ⟨0, [], rfl, rfl, trivial⟩ (by decide)
            · rintro v18 rfl
              refine KW.sub (s' := [(1, .pointer (some ⟨b1, 0, none⟩)), (61, .slice p0_2 ((a0.c.l).length) c0_2), (62, .int .i64 ((a0.c.l).length : Int)), (63, .int .i64 v18)]) (h' := [(0, [(b1, .cells #[.slice p0_0 ((a0.t.b).length) c0_0, .slice p0_1 ((a0.t.f).length) c0_1, .slice p0_2 ((a0.c.l).length) c0_2, .int .i64 a0.c.h, .int .i64 a0.g.c, .int .i64 a0.g.n, .int .i64 a0.g.r, .slice p0_3 ((a0.g.o).length) c0_3, .int .i64 a0.s] 36 (0, 0))])]) ?_ ⟨rfl, rfl, rfl, rfl, trivial⟩ ⟨rfl, trivial⟩
              refine kw_nx (sr (oD (sg rfl) rfl (nn (cw_ret ?_))))
              have q0 := Option.some.inj H0
              subst q0
              exact kw_ret Tryd.results9 (.cons (.tmp rfl) .nil) [] [] trivial (by decide) ⟨rfl, rfl⟩

set_option maxHeartbeats 4000000 in
set_option maxRecDepth 20000 in
theorem c_slices_Clone_Int (fl : Nat) (w : World) (a0 : (List Int)) (p0_0 : Option Addr) (n0_0 c0_0 : Nat) (hn0_0 : n0_0 = (a0).length) (hr0_0 : RO w (hkeys []) (RdL p0_0 c0_0 a0)) (r : (List Int)) (H0 : slices_Clone_Int fl a0 = some r) :
    Ct Tryd.prog 70 [.slice p0_0 n0_0 c0_0] w [] (fun rv h' => ∃ (x0 : Option Addr) (y0 z0 : Nat) (C0 : Res), rv = .slice x0 y0 z0 ∧ h' = [(0, C0)] ∧ y0 = (r).length ∧ OwnC 3 x0 z0 r C0) := by
  obtain rfl := hn0_0
  unfold slices_Clone_Int at H0
  refine ct_of_cw Tryd.func70 rfl Tryd.ntmps70 rfl (Sat.refl _ _) ?_
  refine sr (oD (sg rfl) rfl (nn (cw_seq (sr (oD (mv rfl) rfl (oD (stp_eqlNil Tryd.underlying25 rfl) rfl (nn (cw_cond rfl (fun h1 => ?_) (fun h1 => ?_)))))))))
  · have := True.intro
    obtain rfl : p0_0 = none := by simpa using h1
    obtain rfl : a0 = [] := nil_of_none hr0_0
    obtain rfl : r = [] := (cnt_some H0).1
    exact sr (oD (sg rfl) rfl (nn (cw_ret (kw_nx_ret (kw_addNil 0 (kw_ret Tryd.results70 (.cons (.tmp rfl) .nil) [(0, [])] [0] ⟨0, [], rfl, rfl, trivial⟩ (by decide) ⟨none, 0, 0, [], rfl, rfl, rfl, (OwnC.nil _ _)⟩))))))
  · have := True.intro
    refine cw_skip (kw_nx (sr (oE (stpU_lit0 sl25 1) rfl ?_)))
    rintro _ _ ⟨p2, C3, rfl, rfl, o3⟩
    refine oD (mv rfl) rfl ?_
    have e4 : cnt (([] : List Int) ++ a0) = some r := H0
    refine oE (stpU_append sl25 rfl (id := 1) rfl (by simp) rfl rfl rfl o3 (Rdb.ro hr0_0) e4) rfl ?_
    rintro _ _ ⟨p5, c6, C7, rfl, rfl, o7⟩
    exact oD (sg rfl) rfl (nn (cw_ret (kw_ret Tryd.results70 (.cons (.tmp rfl) .nil) [(0, C7)] [1] ⟨1, [], rfl, rfl, trivial⟩ (by decide) ⟨p5, ((r).length), c6, C7, rfl, rfl, rfl, o7⟩)))

set_option maxHeartbeats 4000000 in
set_option maxRecDepth 20000 in
theorem c_slices_Clone_Frame (fl : Nat) (w : World) (a0 : (List F)) (p0_0 : Option Addr) (n0_0 c0_0 : Nat) (hn0_0 : n0_0 = (a0).length) (hr0_0 : RO w (hkeys []) (RdL p0_0 c0_0 a0)) (r : (List F)) (H0 : slices_Clone_Frame fl a0 = some r) :
    Ct Tryd.prog 72 [.slice p0_0 n0_0 c0_0] w [] (fun rv h' => ∃ (x0 : Option Addr) (y0 z0 : Nat) (C0 : Res), rv = .slice x0 y0 z0 ∧ h' = [(0, C0)] ∧ y0 = (r).length ∧ OwnC 71 x0 z0 r C0) := by
  obtain rfl := hn0_0
  unfold slices_Clone_Frame at H0
  refine ct_of_cw Tryd.func72 rfl Tryd.ntmps72 rfl (Sat.refl _ _) ?_
  refine sr (oD (sg rfl) rfl (nn (cw_seq (sr (oD (mv rfl) rfl (oD (stp_eqlNil Tryd.underlying26 rfl) rfl (nn (cw_cond rfl (fun h1 => ?_) (fun h1 => ?_)))))))))
  · have := True.intro
    obtain rfl : p0_0 = none := by simpa using h1
    obtain rfl : a0 = [] := nil_of_none hr0_0
    obtain rfl : r = [] := (cnt_some H0).1
    exact sr (oD (sg rfl) rfl (nn (cw_ret (kw_nx_ret (kw_addNil 0 (kw_ret Tryd.results72 (.cons (.tmp rfl) .nil) [(0, [])] [0] ⟨0, [], rfl, rfl, trivial⟩ (by decide) ⟨none, 0, 0, [], rfl, rfl, rfl, (OwnC.nil _ _)⟩))))))
  · have := True.intro
    refine cw_skip (kw_nx (sr (oE (stpU_lit0 sl26 1) rfl ?_)))
    rintro _ _ ⟨p2, C3, rfl, rfl, o3⟩
    refine oD (mv rfl) rfl ?_
    have e4 : cnt (([] : List F) ++ a0) = some r := H0
    refine oE (stpU_append sl26 rfl (id := 1) rfl (by simp) rfl rfl rfl o3 (Rdb.ro hr0_0) e4) rfl ?_
    rintro _ _ ⟨p5, c6, C7, rfl, rfl, o7⟩
    exact oD (sg rfl) rfl (nn (cw_ret (kw_ret Tryd.results72 (.cons (.tmp rfl) .nil) [(0, C7)] [1] ⟨1, [], rfl, rfl, trivial⟩ (by decide) ⟨p5, ((r).length), c6, C7, rfl, rfl, rfl, o7⟩)))

set_option maxHeartbeats 4000000 in
set_option maxRecDepth 20000 in
theorem c_i_Table_clone (fl : Nat) (w : World) (a0 : T) (p0_0 : Option Addr) (n0_0 c0_0 : Nat) (p0_1 : Option Addr) (n0_1 c0_1 : Nat) (hn0_0 : n0_0 = (a0.b).length) (hr0_0 : RO w (hkeys []) (RdL p0_0 c0_0 a0.b)) (hn0_1 : n0_1 = (a0.f).length) (hr0_1 : RO w (hkeys []) (RdL p0_1 c0_1 a0.f)) (r : T) (H0 : i_Table_clone fl a0 = some r) :
    Ct Tryd.prog 52 [.agg #[.slice p0_0 n0_0 c0_0, .slice p0_1 n0_1 c0_1]] w [] (fun rv h' => ∃ (x0 : Option Addr) (y0 z0 : Nat) (C0 : Res) (x1 : Option Addr) (y1 z1 : Nat) (C1 : Res), rv = .agg #[.slice x0 y0 z0, .slice x1 y1 z1] ∧ h' = [(0, C0), (1, C1)] ∧ y0 = (r.b).length ∧ OwnC 3 x0 z0 r.b C0 ∧ y1 = (r.f).length ∧ OwnC 71 x1 z1 r.f C1) := by
  obtain rfl := hn0_0
  obtain rfl := hn0_1
  unfold i_Table_clone at H0
  refine ct_of_cw Tryd.func52 rfl Tryd.ntmps52 rfl (Sat.refl _ _) ?_
  refine sr (oE (stpU_box 0 rfl rfl) rfl ?_)
  rintro _ _ ⟨b1, rfl, rfl⟩
  refine oE (stpU_alloc 1 tz28 rfl) rfl ?_
  rintro _ _ ⟨b2, rfl, rfl⟩
  obtain ⟨x3, e3, H0⟩ := bind_some H0
  obtain ⟨x8, e8, H0⟩ := bind_some H0
  refine nn (cw_seq (rdr g_mixed [1, 2] [0, 1] { dst := dS [4, 5, 6, 7, 8, 9, 10, 11, 12, 0], pre := gA [] [[], [0], [0, 1], [0, 1, 2], [], [4], rn 0 6, rn 0 7, rn 0 8, rn 0 9], ids := gA [] [[], [], [2], [], [], [], [3], [], [], [1]], rs := rL [[(1, 0)], [(3, 1)], [(4, 2)], [(5, 3)], [(1, 0)], [(7, 5)], [(8, 6)], [(9, 7)], [(6, 4), (10, 8)], [(2, 0), (11, 9)]], rh := rL [[], [(0, 0)], [], [], [], [(0, 0)], [], [], [], [(1, 0)]], V := fun i g => gA undef [.pointer (some ⟨b1, 0, none⟩), .slice p0_0 ((a0.b).length) c0_0, .slice ((g 2).A 0) ((x3).length) ((g 2).C 0), .slice ((g 2).A 0) ((x3).length) ((x3).length), .pointer (some ⟨b1, 1, none⟩), .slice p0_1 ((a0.f).length) c0_1, .slice ((g 6).A 0) ((x8).length) ((g 6).C 0), .slice ((g 6).A 0) ((x8).length) ((x8).length), .agg #[.slice ((g 2).A 0) ((x3).length) ((x3).length), .slice ((g 6).A 0) ((x8).length) ((x8).length)]] i, U := fun i g => gA [] [[], [], [(2, ((g 2).R 0))], [], [], [], [(3, ((g 6).R 0))], [], [], [(1, [(b2, .cells #[.slice ((g 2).A 0) ((x3).length) ((x3).length), .slice ((g 6).A 0) ((x8).length) ((x8).length)] 28 (0, 0))])]] i, Φ := fun i x => match i with | 2 => OwnC (α := Int) 3 (x.A 0) (x.C 0) x3 (x.R 0) | 6 => OwnC (α := F) 71 (x.A 0) (x.C 0) x8 (x.R 0) | _ => True } ?_ ?_))
  · refine ⟨⟨⟨⟨⟨⟨⟨⟨⟨⟨trivial, lc rfl rfl fun hs hh => stp_fieldAddr (j := 0) Tryd.underlying28 rfl ts25 rfl (sv hs 1 rfl) rfl⟩, lc rfl rfl fun hs hh => stp_load1 ts25 (sv hs 3 rfl) (Cells.box (id := 0) (hh.get 0 _ rfl) 1 rfl)⟩, ?_⟩, ?_⟩, lc rfl rfl fun hs hh => stp_fieldAddr (j := 1) Tryd.underlying28 rfl ts26 rfl (sv hs 1 rfl) rfl⟩, lc rfl rfl fun hs hh => stp_load1 ts26 (sv hs 7 rfl) (Cells.box (id := 0) (hh.get 0 _ rfl) 1 rfl)⟩, ?_⟩, ?_⟩, ld rfl rfl fun g hΦ s h hs hh => stp_build (cs := #[.slice ((g 2).A 0) ((x3).length) ((x3).length), .slice ((g 6).A 0) ((x8).length) ((x8).length)]) (sevp_cons (sv hs 6 rfl) (sevp_cons (sv hs 10 rfl) sevp_nil)) bt28_1⟩, ?_⟩
    · refine le rfl rfl (fun g hΦ s h hs hh => (stpU_call (fun i => 2 + i) cf70 (fun w hw => c_slices_Clone_Int fl w a0.b p0_0 ((a0.b).length) c0_0 rfl (RO.pass hr0_0 hw) x3 e3) (sevs_cons (sv hs 4 rfl) sevs_nil))) ?_
      rintro g _ _ ⟨_, ⟨p4, n5, c6, C7, rfl, rfl, hnn5, o7⟩, rfl⟩
      obtain rfl := hnn5
      exact ⟨⟨[p4], [c6], [C7]⟩, o7, .inr rfl, rfl⟩
    · refine le rfl rfl (fun g hΦ s h hs hh => (stpU_call (fun i => i) cf69 (fun w hw => c_clip69 w ((g 2).A 0) ((x3).length) ((g 2).C 0) (OwnC.len (hΦ 2 rfl)).1) (sevs_cons (sv hs 5 rfl) sevs_nil))) ?_
      rintro g _ _ ⟨_, ⟨rfl, rfl⟩, rfl⟩
      exact ⟨⟨[], [], []⟩, trivial, .inr rfl, rfl⟩
    · refine le rfl rfl (fun g hΦ s h hs hh => (stpU_call (fun i => 3 + i) cf72 (fun w hw => c_slices_Clone_Frame fl w a0.f p0_1 ((a0.f).length) c0_1 rfl (RO.pass hr0_1 hw) x8 e8) (sevs_cons (sv hs 8 rfl) sevs_nil))) ?_
      rintro g _ _ ⟨_, ⟨p9, n10, c11, C12, rfl, rfl, hnn10, o12⟩, rfl⟩
      obtain rfl := hnn10
      exact ⟨⟨[p9], [c11], [C12]⟩, o12, .inr rfl, rfl⟩
    · refine le rfl rfl (fun g hΦ s h hs hh => (stpU_call (fun i => i) cf71 (fun w hw => c_clip71 w ((g 6).A 0) ((x8).length) ((g 6).C 0) (OwnC.len (hΦ 6 rfl)).1) (sevs_cons (sv hs 9 rfl) sevs_nil))) ?_
      rintro g _ _ ⟨_, ⟨rfl, rfl⟩, rfl⟩
      exact ⟨⟨[], [], []⟩, trivial, .inr rfl, rfl⟩
    · refine le rfl rfl (fun g hΦ s h hs hh => (stpU_store (id := 1) (cs' := [.slice ((g 2).A 0) ((x3).length) ((x3).length), .slice ((g 6).A 0) ((x8).length) ((x8).length)]) ts28 (sv hs 2 rfl) (sv hs 11 rfl) (hh.get 1 _ rfl) rfl rfl rfl rfl)) ?_
      rintro g _ _ rfl
      exact ⟨⟨[], [], []⟩, trivial, .inl rfl, rfl⟩
  · intro g hΦ
    refine kw_gen (ι := Option Addr × Nat × Res × Option Addr × Nat × Res) (((g 2).A 0), ((g 2).C 0), ((g 2).R 0), ((g 6).A 0), ((g 6).C 0), ((g 6).R 0)) (fun | (p4, c6, C7, p9, c11, C12) => OwnC (α := Int) 3 p4 c6 x3 C7 ∧ OwnC (α := F) 71 p9 c11 x8 C12) (fun | (p4, c6, C7, p9, c11, C12) => [(2, .pointer (some ⟨b2, 0, none⟩))]) (fun | (p4, c6, C7, p9, c11, C12) => [(1, [(b2, .cells #[.slice p4 ((x3).length) ((x3).length), .slice p9 ((x8).length) ((x8).length)] 28 (0, 0))]), (2, C7), (3, C12)]) ⟨(hΦ 2 (by decide)), (hΦ 6 (by decide))⟩ ⟨rfl, trivial⟩ ⟨rfl, rfl, rfl, trivial⟩ ?_
    rintro ⟨p4, c6, C7, p9, c11, C12⟩ ⟨o7, o12⟩
    refine KW.sub (s' := [(2, .pointer (some ⟨b2, 0, none⟩))]) (h' := [(1, [(b2, .cells #[.slice p4 ((x3).length) ((x3).length), .slice p9 ((x8).length) ((x8).length)] 28 (0, 0))]), (2, C7), (3, C12)]) ?_ ⟨rfl, trivial⟩ ⟨rfl, rfl, rfl, trivial⟩
    refine kw_nx (cw_ret ?_)
    have q0 := Option.some.inj H0
    subst q0
    exact kw_ret Tryd.results52 (.cons (.cellN (us := [_, _]) ts28 rfl (Cells.box (id := 1) rfl 2 rfl)) .nil) [(0, C7), (1, C12)] [2, 3] ⟨2, [3], rfl, rfl, 3, [], rfl, rfl, trivial⟩ (by decide) ⟨p4, ((x3).length), ((x3).length), C7, p9, ((x8).length), ((x8).length), C12, rfl, rfl, rfl, (OwnC.clip o7), rfl, (OwnC.clip o12)⟩

set_option maxHeartbeats 4000000 in
set_option maxRecDepth 20000 in
theorem c_slices_Clone_Line (fl : Nat) (w : World) (a0 : (List Ln)) (p0_0 : Option Addr) (n0_0 c0_0 : Nat) (hn0_0 : n0_0 = (a0).length) (hr0_0 : RO w (hkeys []) (RdL p0_0 c0_0 a0)) (r : (List Ln)) (H0 : slices_Clone_Line fl a0 = some r) :
    Ct Tryd.prog 54 [.slice p0_0 n0_0 c0_0] w [] (fun rv h' => ∃ (x0 : Option Addr) (y0 z0 : Nat) (C0 : Res), rv = .slice x0 y0 z0 ∧ h' = [(0, C0)] ∧ y0 = (r).length ∧ OwnC 65 x0 z0 r C0) := by
  obtain rfl := hn0_0
  unfold slices_Clone_Line at H0
  refine ct_of_cw Tryd.func54 rfl Tryd.ntmps54 rfl (Sat.refl _ _) ?_
  refine sr (oD (sg rfl) rfl (nn (cw_seq (sr (oD (mv rfl) rfl (oD (stp_eqlNil Tryd.underlying29 rfl) rfl (nn (cw_cond rfl (fun h1 => ?_) (fun h1 => ?_)))))))))
  · have := True.intro
    obtain rfl : p0_0 = none := by simpa using h1
    obtain rfl : a0 = [] := nil_of_none hr0_0
    obtain rfl : r = [] := (cnt_some H0).1
    exact sr (oD (sg rfl) rfl (nn (cw_ret (kw_nx_ret (kw_addNil 0 (kw_ret Tryd.results54 (.cons (.tmp rfl) .nil) [(0, [])] [0] ⟨0, [], rfl, rfl, trivial⟩ (by decide) ⟨none, 0, 0, [], rfl, rfl, rfl, (OwnC.nil _ _)⟩))))))
  · have := True.intro
    refine cw_skip (kw_nx (sr (oE (stpU_lit0 sl29 1) rfl ?_)))
    rintro _ _ ⟨p2, C3, rfl, rfl, o3⟩
    refine oD (mv rfl) rfl ?_
    have e4 : cnt (([] : List Ln) ++ a0) = some r := H0
    refine oE (stpU_append sl29 rfl (id := 1) rfl (by simp) rfl rfl rfl o3 (Rdb.ro hr0_0) e4) rfl ?_
    rintro _ _ ⟨p5, c6, C7, rfl, rfl, o7⟩
    exact oD (sg rfl) rfl (nn (cw_ret (kw_ret Tryd.results54 (.cons (.tmp rfl) .nil) [(0, C7)] [1] ⟨1, [], rfl, rfl, trivial⟩ (by decide) ⟨p5, ((r).length), c6, C7, rfl, rfl, rfl, o7⟩)))

set_option maxHeartbeats 4000000 in
set_option maxRecDepth 20000 in
theorem c_i_Machine_clone (fl : Nat) (w : World) (a0 : Mc) (p0_0 : Option Addr) (n0_0 c0_0 : Nat) (p0_1 : Option Addr) (n0_1 c0_1 : Nat) (p0_2 : Option Addr) (n0_2 c0_2 : Nat) (p0_3 : Option Addr) (n0_3 c0_3 : Nat) (hn0_0 : n0_0 = (a0.t.b).length) (hr0_0 : RO w (hkeys []) (RdL p0_0 c0_0 a0.t.b)) (hn0_1 : n0_1 = (a0.t.f).length) (hr0_1 : RO w (hkeys []) (RdL p0_1 c0_1 a0.t.f)) (hn0_2 : n0_2 = (a0.c.l).length) (hr0_2 : RO w (hkeys []) (RdL p0_2 c0_2 a0.c.l)) (hn0_3 : n0_3 = (a0.g.o).length) (hr0_3 : RO w (hkeys []) (RdL p0_3 c0_3 a0.g.o)) (r : Mc) (H0 : i_Machine_clone fl a0 = some r) :
    Ct Tryd.prog 25 [.agg #[.slice p0_0 n0_0 c0_0, .slice p0_1 n0_1 c0_1, .slice p0_2 n0_2 c0_2, .int .i64 a0.c.h, .int .i64 a0.g.c, .int .i64 a0.g.n, .int .i64 a0.g.r, .slice p0_3 n0_3 c0_3, .int .i64 a0.s]] w [] (fun rv h' => ∃ (x0 : Option Addr) (y0 z0 : Nat) (C0 : Res) (x1 : Option Addr) (y1 z1 : Nat) (C1 : Res) (x2 : Option Addr) (y2 z2 : Nat) (C2 : Res) (x3 : Option Addr) (y3 z3 : Nat) (C3 : Res), rv = .agg #[.slice x0 y0 z0, .slice x1 y1 z1, .slice x2 y2 z2, .int .i64 r.c.h, .int .i64 r.g.c, .int .i64 r.g.n, .int .i64 r.g.r, .slice x3 y3 z3, .int .i64 r.s] ∧ h' = [(0, C0), (1, C1), (2, C2), (3, C3)] ∧ y0 = (r.t.b).length ∧ OwnC 3 x0 z0 r.t.b C0 ∧ y1 = (r.t.f).length ∧ OwnC 71 x1 z1 r.t.f C1 ∧ y2 = (r.c.l).length ∧ OwnC 65 x2 z2 r.c.l C2 ∧ y3 = (r.g.o).length ∧ OwnC 85 x3 z3 r.g.o C3) := by
  obtain rfl := hn0_0
  obtain rfl := hn0_1
  obtain rfl := hn0_2
  obtain rfl := hn0_3
  unfold i_Machine_clone at H0
  refine ct_of_cw Tryd.func25 rfl Tryd.ntmps25 rfl (Sat.refl _ _) ?_
  refine sr (oE (stpU_box 0 rfl rfl) rfl ?_)
  rintro _ _ ⟨b1, rfl, rfl⟩
  refine oE (stpU_alloc 1 tz36 rfl) rfl ?_
  rintro _ _ ⟨b2, rfl, rfl⟩
  obtain ⟨x3, e3, H0⟩ := bind_some H0
  refine nn (sr (oD (fA 0 Tryd.underlying36 rfl ts28 rfl rfl rfl) rfl (oD (stp_loadN (us := [_, _]) ts28 rfl (Cells.box (id := 0) rfl 2 rfl)) rfl (oE (stpU_call (fun i => 2 + i) cf52 (fun w hw => c_i_Table_clone fl w a0.t p0_0 ((a0.t.b).length) c0_0 p0_1 ((a0.t.f).length) c0_1 rfl (RO.pass hr0_0 hw) rfl (RO.pass hr0_1 hw) x3 e3) (sevs_cons rfl sevs_nil)) rfl ?_))))
  rintro _ _ ⟨_, ⟨p4, n5, c6, C7, p8, n9, c10, C11, rfl, rfl, hnn5, o7, hnn9, o11⟩, rfl⟩
  obtain rfl := hnn5
  obtain rfl := hnn9
  refine oD (fA 0 Tryd.underlying36 rfl ts28 rfl rfl rfl) rfl (oF (stpU_store (id := 0) (cs' := [.slice p4 ((x3.b).length) c6, .slice p8 ((x3.f).length) c10, .slice p0_2 ((a0.c.l).length) c0_2, .int .i64 a0.c.h, .int .i64 a0.g.c, .int .i64 a0.g.n, .int .i64 a0.g.r, .slice p0_3 ((a0.g.o).length) c0_3, .int .i64 a0.s]) ts28 rfl rfl rfl rfl rfl rfl rfl) ?_)
  rintro _ _ rfl
  obtain ⟨x12, e12, H0⟩ := bind_some H0
  refine nn (sr (oD (fA 2 Tryd.underlying36 rfl ts31 rfl rfl rfl) rfl (oD (fA 0 Tryd.underlying31 rfl ts29 rfl rfl rfl) rfl (oD (lB 0 ts29 rfl rfl rfl) rfl (oE (stpU_call (fun i => 4 + i) cf54 (fun w hw => c_slices_Clone_Line fl w a0.c.l p0_2 ((a0.c.l).length) c0_2 rfl (RO.pass hr0_2 hw) x12 e12) (sevs_cons rfl sevs_nil)) rfl ?_)))))
  rintro _ _ ⟨_, ⟨p13, n14, c15, C16, rfl, rfl, hnn14, o16⟩, rfl⟩
  obtain rfl := hnn14
  refine oE (stpU_call (fun i => i) cf53 (fun w hw => c_clip53 w p13 ((x12).length) c15 (OwnC.len o16).1) (sevs_cons rfl sevs_nil)) rfl ?_
  rintro _ _ ⟨_, ⟨rfl, rfl⟩, rfl⟩
  refine oD (fA 2 Tryd.underlying36 rfl ts31 rfl rfl rfl) rfl (oD (fA 0 Tryd.underlying31 rfl ts29 rfl rfl rfl) rfl (oF (stpU_store (id := 0) (cs' := [.slice p4 ((x3.b).length) c6, .slice p8 ((x3.f).length) c10, .slice p13 ((x12).length) ((x12).length), .int .i64 a0.c.h, .int .i64 a0.g.c, .int .i64 a0.g.n, .int .i64 a0.g.r, .slice p0_3 ((a0.g.o).length) c0_3, .int .i64 a0.s]) ts29 rfl rfl rfl rfl rfl rfl rfl) ?_))
  rintro _ _ rfl
  obtain ⟨x17, e17, H0⟩ := bind_some H0
  refine nn (sr (oD (fA 4 Tryd.underlying36 rfl ts34 rfl rfl rfl) rfl (oD (fA 3 Tryd.underlying34 rfl ts32 rfl rfl rfl) rfl (oD (lB 0 ts32 rfl rfl rfl) rfl (oE (stpU_call (fun i => 5 + i) cf42 (fun w hw => c_slices_Clone_Own fl w a0.g.o p0_3 ((a0.g.o).length) c0_3 rfl (RO.pass hr0_3 hw) x17 e17) (sevs_cons rfl sevs_nil)) rfl ?_)))))
  rintro _ _ ⟨_, ⟨p18, n19, c20, C21, rfl, rfl, hnn19, o21⟩, rfl⟩
  obtain rfl := hnn19
  refine oE (stpU_call (fun i => i) cf41 (fun w hw => c_clip41 w p18 ((x17).length) c20 (OwnC.len o21).1) (sevs_cons rfl sevs_nil)) rfl ?_
  rintro _ _ ⟨_, ⟨rfl, rfl⟩, rfl⟩
  refine oD (fA 4 Tryd.underlying36 rfl ts34 rfl rfl rfl) rfl (oD (fA 3 Tryd.underlying34 rfl ts32 rfl rfl rfl) rfl (oF (stpU_store (id := 0) (cs' := [.slice p4 ((x3.b).length) c6, .slice p8 ((x3.f).length) c10, .slice p13 ((x12).length) ((x12).length), .int .i64 a0.c.h, .int .i64 a0.g.c, .int .i64 a0.g.n, .int .i64 a0.g.r, .slice p18 ((x17).length) ((x17).length), .int .i64 a0.s]) ts32 rfl rfl rfl rfl rfl rfl rfl) ?_))
  rintro _ _ rfl
  refine nn (sr (oD (stp_loadN (us := [_, _, _, _, _, _, _, _, _]) ts36 rfl (Cells.box (id := 0) rfl 9 rfl)) rfl (oF (stpU_store (id := 1) (cs' := [.slice p4 ((x3.b).length) c6, .slice p8 ((x3.f).length) c10, .slice p13 ((x12).length) ((x12).length), .int .i64 a0.c.h, .int .i64 a0.g.c, .int .i64 a0.g.n, .int .i64 a0.g.r, .slice p18 ((x17).length) ((x17).length), .int .i64 a0.s]) ts36 rfl rfl rfl rfl rfl rfl rfl) ?_)))
  rintro _ _ rfl
  refine nn (cw_ret ?_)
  have q0 := Option.some.inj H0
  subst q0
  exact kw_ret Tryd.results25 (.cons (.cellN (us := [_, _, _, _, _, _, _, _, _]) ts36 rfl (Cells.box (id := 1) rfl 9 rfl)) .nil) [(0, C7), (1, C11), (2, C16), (3, C21)] [2, 3, 4, 5] ⟨2, [3, 4, 5], rfl, rfl, 3, [4, 5], rfl, rfl, 4, [5], rfl, rfl, 5, [], rfl, rfl, trivial⟩ (by decide) ⟨p4, ((x3.b).length), c6, C7, p8, ((x3.f).length), c10, C11, p13, ((x12).length), ((x12).length), C16, p18, ((x17).length), ((x17).length), C21, rfl, rfl, rfl, o7, rfl, o11, rfl, (OwnC.clip o16), rfl, (OwnC.clip o21)⟩

set_option maxHeartbeats 4000000 in
set_option maxRecDepth 20000 in
theorem c_i_TagOf (fl : Nat) (w : World) (a0 : Tg) (p0_0 : Option Addr) (n0_0 c0_0 : Nat) (a1 : Int) (hn0_0 : n0_0 = (a0.o).length) (hr0_0 : RO w (hkeys []) (RdL p0_0 c0_0 a0.o)) (r : Int × Bool) (H0 : i_TagOf fl a0 a1 = some r) :
    Ct Tryd.prog 55 [.agg #[.int .i64 a0.c, .int .i64 a0.n, .int .i64 a0.r, .slice p0_0 n0_0 c0_0], .int .i64 a1] w [] (fun rv h' => rv = .tuple #[.int .i64 r.1, .bool r.2] ∧ h' = []) := by
  obtain rfl := hn0_0
  unfold i_TagOf at H0
  refine ct_of_cw Tryd.func55 rfl Tryd.ntmps55 rfl (Sat.refl _ _) ?_
  refine sr (oE (stpU_box 0 rfl rfl) rfl ?_)
  rintro _ _ ⟨b1, rfl, rfl⟩
  obtain ⟨x2, e2, H0⟩ := bind_some H0
  refine oD (sg rfl) rfl (oD (sg rfl) rfl (nn (cw_seq (sr (oD (stp_loadN (us := [_, _, _, _]) ts34 rfl (Cells.box (id := 0) rfl 4 rfl)) rfl (oE (stpU_call (fun i => 1 + i) cf34 (fun w hw => c_i_TagsValid fl w a0 p0_0 ((a0.o).length) c0_0 rfl (RO.pass hr0_0 hw) x2 e2) (sevs_cons rfl sevs_nil)) rfl ?_))))))
  rintro _ _ ⟨_, ⟨rfl, rfl⟩, rfl⟩
  obtain ⟨y3, ey3, H0⟩ := bind_some H0
  refine oD (stp_not rfl) rfl (oD (mv rfl) rfl (ow_cutY 5 14 y3 ?_ ?_))
  · rcases Bool.eq_false_or_eq_true (!x2) with hy3 | hy3
    · have ey3 := cond_t ey3 hy3
      refine oO rfl hy3 rfl (oO rfl hy3 rfl (oO rfl hy3 rfl (oO rfl hy3 rfl (oD (stp_pick_t rfl hy3 rfl) rfl ?_))))
      obtain rfl := Option.some.inj ey3
      exact ow_nil (jy 5 0)
    · have ey3 := cond_f ey3 hy3
      obtain ⟨x4, e4, ey3⟩ := bind_some ey3
      refine oG rfl hy3 (stp_loadN (us := [_, _, _, _]) ts34 rfl (Cells.box (id := 0) rfl 4 rfl)) rfl (oG rfl hy3 (mv rfl) rfl (ow_eff (.some rfl hy3) (stpU_call (fun i => 1 + i) cf35 (fun w hw => c_i_Tags_own fl w a0 p0_0 ((a0.o).length) c0_0 a1 rfl (RO.pass hr0_0 hw) x4 e4) (sevs_cons rfl (sevs_cons rfl sevs_nil))) rfl ?_))
      rintro _ _ ⟨_, ⟨rfl, rfl⟩, rfl⟩
      refine oG rfl hy3 (stp_lss rfl rfl) rfl (oD (stp_pick_f rfl hy3 rfl) rfl ?_)
      obtain rfl := Option.some.inj ey3
      exact ow_nil (jy 5 0)
  · refine ow_nil (kw_nx (cw_cond rfl (fun h5 => ?_) (fun h5 => ?_)))
    · have H0 := cond_t H0 h5
      refine sr (oD (sg rfl) rfl (oD (sg rfl) rfl (nn (cw_ret (kw_nx_ret ?_)))))
      have q0 := Option.some.inj H0
      subst q0
      exact kw_ret Tryd.results55 (.cons (.tmp rfl) (.cons (.tmp rfl) .nil)) [] [] trivial (by decide) ⟨rfl, rfl⟩
    · have H0 := cond_f H0 h5
      obtain ⟨x6, e6, H0⟩ := bind_some H0
      obtain ⟨x7, e7, H0⟩ := bind_some H0
      refine cw_skip (kw_nx (cw_seq (rdr g_mixed [1, 2] [0] { dst := dS [16, 17, 18, 19, 20, 21, 22, 23, 5, 6], pre := gA [] [[], [0], [], [], [2, 3], rn 0 5, rn 0 6, rn 0 7, rn 0 8, rn 0 9], ids := fun _ => [], rs := rL [[(2, 0)], [(15, 1)], [(2, 0)], [(1, 0)], [(17, 3), (18, 4)], [(16, 2), (19, 5)], [(20, 6)], [(21, 7)], [(22, 8)], []], rh := rL [[], [(0, 0)], [(0, 0)]], V := fun i g => gA undef [.pointer (some ⟨b1, 3, none⟩), .slice p0_0 ((a0.o).length) c0_0, .agg #[.int .i64 a0.c, .int .i64 a0.n, .int .i64 a0.r, .slice p0_0 ((a0.o).length) c0_0], .int .i64 a1, .int .i64 x6, .pointer (some ⟨eB p0_0, eO p0_0 + Int.toNat x6 * Enc.sz Ow + 0, none⟩), .pointer (some ⟨eB p0_0, eO p0_0 + Int.toNat x6 * Enc.sz Ow + 1, none⟩), .int .i64 x7.tg, .int .i64 x7.tg, .bool true] i, U := fun _ _ => [], Φ := fun _ _ => True } ?_ ?_)))
      · refine ⟨⟨⟨⟨⟨⟨⟨⟨⟨⟨trivial, lc rfl rfl fun hs hh => stp_fieldAddr (j := 3) Tryd.underlying34 rfl ts32 rfl (sv hs 2 rfl) rfl⟩, lc rfl rfl fun hs hh => stp_load1 ts32 (sv hs 15 rfl) (Cells.box (id := 0) (hh.get 0 _ rfl) 1 rfl)⟩, lc rfl rfl fun hs hh => stp_loadN (us := [_, _, _, _]) ts34 (sv hs 2 rfl) (Cells.box (id := 0) (hh.get 0 _ rfl) 4 rfl)⟩, lc rfl rfl fun hs hh => stp_move (sv hs 1 rfl)⟩, ?_⟩, lc rfl rfl fun hs hh => stp_indexAddr Tryd.underlying32 ts85 (by decide) (sv hs 16 rfl) rfl (sv hs 19 rfl) (Rdb.ro hr0_0) e7⟩, lc rfl rfl fun hs hh => stp_fieldAddr (j := 1) Tryd.underlying85 rfl ts3 rfl (sv hs 20 rfl) rfl⟩, lc rfl rfl fun hs hh => stp_load1 ts3 (sv hs 21 rfl) (Cells.el (Rdb.ro hr0_0) (by decide) e7 1 1 rfl)⟩, lc rfl rfl fun hs hh => stp_assign (sv hs 22 rfl)⟩, lc rfl rfl fun hs hh => stp_assign rfl⟩
        · refine le rfl rfl (fun g hΦ s h hs hh => (stpU_call (fun i => 1 + i) cf35 (fun w hw => c_i_Tags_own fl w a0 p0_0 ((a0.o).length) c0_0 a1 rfl (RO.pass hr0_0 hw) x6 e6) (sevs_cons (sv hs 17 rfl) (sevs_cons (sv hs 18 rfl) sevs_nil)))) ?_
          rintro g _ _ ⟨_, ⟨rfl, rfl⟩, rfl⟩
          exact ⟨⟨[], [], []⟩, trivial, .inr rfl, rfl⟩
      · intro g hΦ
        refine KW.sub (s' := [(4, .int .i64 x7.tg), (5, .bool true)]) (h' := []) ?_ ⟨rfl, rfl, trivial⟩ trivial
        refine kw_nx (cw_ret ?_)
        have q0 := Option.some.inj H0
        subst q0
        exact kw_ret Tryd.results55 (.cons (.tmp rfl) (.cons (.tmp rfl) .nil)) [] [] trivial (by decide) ⟨rfl, rfl⟩

set_option maxHeartbeats 4000000 in
set_option maxRecDepth 20000 in
theorem c_i_Machine_tagFor (fl : Nat) (w : World) (a0 : Mc) (p0_0 : Option Addr) (n0_0 c0_0 : Nat) (p0_1 : Option Addr) (n0_1 c0_1 : Nat) (p0_2 : Option Addr) (n0_2 c0_2 : Nat) (p0_3 : Option Addr) (n0_3 c0_3 : Nat) (a1 : Int) (a2 : Int) (hn0_0 : n0_0 = (a0.t.b).length) (hr0_0 : RO w (hkeys []) (RdL p0_0 c0_0 a0.t.b)) (hn0_1 : n0_1 = (a0.t.f).length) (hr0_1 : RO w (hkeys []) (RdL p0_1 c0_1 a0.t.f)) (hn0_2 : n0_2 = (a0.c.l).length) (hr0_2 : RO w (hkeys []) (RdL p0_2 c0_2 a0.c.l)) (hn0_3 : n0_3 = (a0.g.o).length) (hr0_3 : RO w (hkeys []) (RdL p0_3 c0_3 a0.g.o)) (r : Int × Bool) (H0 : i_Machine_tagFor fl a0 a1 a2 = some r) :
    Ct Tryd.prog 26 [.agg #[.slice p0_0 n0_0 c0_0, .slice p0_1 n0_1 c0_1, .slice p0_2 n0_2 c0_2, .int .i64 a0.c.h, .int .i64 a0.g.c, .int .i64 a0.g.n, .int .i64 a0.g.r, .slice p0_3 n0_3 c0_3, .int .i64 a0.s], .int .i64 a1, .int .i64 a2] w [] (fun rv h' => rv = .tuple #[.int .i64 r.1, .bool r.2] ∧ h' = []) := by
  obtain rfl := hn0_0
  obtain rfl := hn0_1
  obtain rfl := hn0_2
  obtain rfl := hn0_3
  unfold i_Machine_tagFor at H0
  refine ct_of_cw Tryd.func26 rfl Tryd.ntmps26 rfl (Sat.refl _ _) ?_
  refine sr (oE (stpU_box 0 rfl rfl) rfl ?_)
  rintro _ _ ⟨b1, rfl, rfl⟩
  refine oD (sg rfl) rfl (oD (sg rfl) rfl (nn (cw_seq (sr (oD (mv rfl) rfl (oD (stp_geq rfl rfl) rfl (nn (cw_cond rfl (fun h2 => ?_) (fun h2 => ?_)))))))))
  · have H0 := cond_t H0 h2
    refine sr (oD (sg rfl) rfl (oD (sg rfl) rfl (nn (cw_ret (kw_nx_ret ?_)))))
    have q0 := Option.some.inj H0
    subst q0
    exact kw_ret Tryd.results26 (.cons (.tmp rfl) (.cons (.tmp rfl) .nil)) [] [] trivial (by decide) ⟨rfl, rfl⟩
  · have H0 := cond_f H0 h2
    obtain ⟨x3, e3, H0⟩ := bind_some H0
    refine cw_skip (kw_nx (sr (oD (fA 4 Tryd.underlying36 rfl ts34 rfl rfl rfl) rfl (oD (stp_loadN (us := [_, _, _, _]) ts34 rfl (Cells.box (id := 0) rfl 4 rfl)) rfl (oD (mv rfl) rfl (oE (stpU_call (fun i => 1 + i) cf55 (fun w hw => c_i_TagOf fl w a0.g p0_3 ((a0.g.o).length) c0_3 a1 rfl (RO.pass hr0_3 hw) x3 e3) (sevs_cons rfl (sevs_cons rfl sevs_nil))) rfl ?_))))))
    rintro _ _ ⟨_, ⟨rfl, rfl⟩, rfl⟩
    refine oD (stp_extract rfl rfl) rfl (oD (stp_extract rfl rfl) rfl (oD (sg rfl) rfl (oD (sg rfl) rfl (nn (cw_ret ?_)))))
    have q0 := Option.some.inj H0
    subst q0
    exact kw_ret Tryd.results26 (.cons (.tmp rfl) (.cons (.tmp rfl) .nil)) [] [] trivial (by decide) ⟨rfl, rfl⟩

set_option maxHeartbeats 4000000 in
set_option maxRecDepth 20000 in
theorem c_i_Cache_place_1 (fl : Nat) (w : World) (a0 : Ln) (qc0 : Nat) (ac0 : Int) (qc1 : Nat) (ac1 : Int) (hbac0 : RO w (hkeys []) (fun w' => w'.rangeAt qc0 0 [.int .i64 ac0])) (hbac1 : RO w (hkeys []) (fun w' => w'.rangeAt qc1 0 [.int .i64 ac1])) (r : Bool) (H0 : i_Cache_place_1 fl a0 ac0 ac1 = some r) :
    Ct Tryd.prog 57 [.agg #[.bool a0.va, .int .i64 a0.tg, .int .i64 a0.pg, .int .i64 a0.fr, .int .i64 a0.ri, .bool a0.wi], .pointer (some ⟨qc0, 0, none⟩), .pointer (some ⟨qc1, 0, none⟩)] w [] (fun rv h' => rv = .bool r ∧ h' = []) := by
  unfold i_Cache_place_1 at H0
  refine ct_of_cw Tryd.func57 rfl Tryd.ntmps57 rfl (Sat.refl _ _) ?_
  refine sr (oE (stpU_box 0 rfl rfl) rfl ?_)
  rintro _ _ ⟨b1, rfl, rfl⟩
  obtain ⟨y2, ey2, H0⟩ := bind_some H0
  refine oD (sg rfl) rfl (nn (sr (oD (fA 0 Tryd.underlying65 rfl ts4 rfl rfl rfl) rfl (oD (lB 0 ts4 rfl rfl rfl) rfl (oD (mv rfl) rfl (ow_cutY 5 12 y2 ?_ ?_))))))
  · rcases Bool.eq_false_or_eq_true a0.va with hy2 | hy2
    · have ey2 := cond_t ey2 hy2
      refine oG rfl hy2 (fA 2 Tryd.underlying65 rfl ts3 rfl rfl rfl) rfl (oG rfl hy2 (lB 0 ts3 rfl rfl rfl) rfl (oG rfl hy2 (stp_load1 ts3 rfl (Cells.ofRO hbac0 1 rfl)) rfl (oG rfl hy2 (stp_eql rfl rfl) rfl (oD (stp_pick_t rfl hy2 rfl) rfl ?_))))
      obtain rfl := Option.some.inj ey2
      exact ow_nil (jy 5 0)
    · have ey2 := cond_f ey2 hy2
      refine oO rfl hy2 rfl (oO rfl hy2 rfl (oO rfl hy2 rfl (oO rfl hy2 rfl (oD (stp_pick_f rfl hy2 rfl) rfl ?_))))
      obtain rfl := Option.some.inj ey2
      exact ow_nil (jy 5 0)
  · obtain ⟨y3, ey3, H0⟩ := bind_some H0
    refine oD (mv rfl) rfl (ow_cutY 10 23 y3 ?_ ?_)
    · rcases Bool.eq_false_or_eq_true y2 with hy3 | hy3
      · have ey3 := cond_t ey3 hy3
        obtain ⟨y4, ey4, ey3⟩ := bind_some ey3
        refine oG rfl hy3 (fA 1 Tryd.underlying65 rfl ts3 rfl rfl rfl) rfl (oG rfl hy3 (lB 0 ts3 rfl rfl rfl) rfl (oG rfl hy3 (stp_load1 ts3 rfl (Cells.ofRO hbac1 1 rfl)) rfl (oG rfl hy3 (stp_eql rfl rfl) rfl (oG rfl hy3 (mv rfl) rfl (ow_cutY 4 22 y4 ?_ ?_)))))
        · rcases Bool.eq_false_or_eq_true (a0.tg == ac1) with hy4 | hy4
          · have ey4 := cond_t ey4 hy4
            refine oO rfl hy4 rfl (oO rfl hy4 rfl (oO rfl hy4 rfl (oG rfl hy3 (stp_pick_t rfl hy4 rfl) rfl ?_)))
            obtain rfl := Option.some.inj ey4
            exact ow_nil (jy 4 0)
          · have ey4 := cond_f ey4 hy4
            refine oG rfl hy4 (fA 1 Tryd.underlying65 rfl ts3 rfl rfl rfl) rfl (oG rfl hy4 (lB 0 ts3 rfl rfl rfl) rfl (oG rfl hy4 (stp_eql rfl rfl) rfl (oG rfl hy3 (stp_pick_f rfl hy4 rfl) rfl ?_)))
            obtain rfl := Option.some.inj ey4
            exact ow_nil (jy 4 0)
        · refine oD (stp_pick_t rfl hy3 rfl) rfl ?_
          obtain rfl := Option.some.inj ey3
          exact ow_nil (jy 7 0)
      · have ey3 := cond_f ey3 hy3
        refine oO rfl hy3 rfl (oO rfl hy3 rfl (oO rfl hy3 rfl (oO rfl hy3 rfl (oO rfl hy3 rfl (oX rfl rfl rfl (oX rfl rfl rfl (oX rfl rfl rfl (oO rfl hy3 rfl (oD (stp_pick_f rfl hy3 rfl) rfl ?_)))))))))
        obtain rfl := Option.some.inj ey3
        exact ow_nil (jy 10 0)
    · refine oD (sg rfl) rfl (nn (cw_ret ?_))
      have q0 := Option.some.inj H0
      subst q0
      exact kw_ret Tryd.results57 (.cons (.tmp rfl) .nil) [] [] trivial (by decide) ⟨rfl, rfl⟩

set_option maxHeartbeats 4000000 in
set_option maxRecDepth 20000 in
theorem c_slices_IndexFunc_Line_of_i_Cache_place_1 (fl : Nat) (w : World) (a0 : (List Ln)) (p0_0 : Option Addr) (n0_0 c0_0 : Nat) (q1_0 : Nat) (a1_0 : Int) (q1_1 : Nat) (a1_1 : Int) (hn0_0 : n0_0 = (a0).length) (hr0_0 : RO w (hkeys []) (RdL p0_0 c0_0 a0)) (hba1_0 : RO w (hkeys []) (fun w' => w'.rangeAt q1_0 0 [.int .i64 a1_0])) (hba1_1 : RO w (hkeys []) (fun w' => w'.rangeAt q1_1 0 [.int .i64 a1_1])) (r : Int) (H0 : slices_IndexFunc_Line_of_i_Cache_place_1 fl a0 a1_0 a1_1 = some r) :
    Ct Tryd.prog 56 [.slice p0_0 n0_0 c0_0, .func (.func 57) #[] #[.pointer (some ⟨q1_0, 0, none⟩), .pointer (some ⟨q1_1, 0, none⟩)]] w [] (fun rv h' => rv = .int .i64 r ∧ h' = []) := by
  obtain rfl := hn0_0
  unfold slices_IndexFunc_Line_of_i_Cache_place_1 at H0
  refine ct_of_cw Tryd.func56 rfl Tryd.ntmps56 rfl (Sat.refl _ _) ?_
  obtain ⟨o0_0, eo0_0, H0⟩ := bind_some H0
  refine sr (oD (sg rfl) rfl (nn (cw_seq (sr (oD (mv rfl) rfl (oD (stp_len Tryd.underlying29 rfl) rfl (oD (mv rfl) rfl (nn (cw_join (ι := Int) (fun | v1 => o0_0 = .out v1) (fun | v1 => [(0, .slice p0_0 ((a0).length) c0_0), (1, .func (.func 57) #[] #[.pointer (some ⟨q1_0, 0, none⟩), .pointer (some ⟨q1_1, 0, none⟩)]), (7, .int .i64 ((a0).length : Int)), (8, .int .i64 v1)]) (fun | v1 => []) ?_ ?_)))))))))
  · refine cw_block (cw_loopS (ι := Nat × Int) (js := []) (fun x => x.1) (fun | (fuel, v1) => slices_IndexFunc_Line_of_i_Cache_place_1_L0 fl a0 a1_0 a1_1 fuel v1 = some o0_0) (fun | (_, v1) => [(0, .slice p0_0 ((a0).length) c0_0), (1, .func (.func 57) #[] #[.pointer (some ⟨q1_0, 0, none⟩), .pointer (some ⟨q1_1, 0, none⟩)]), (7, .int .i64 ((a0).length : Int)), (8, .int .i64 v1)]) (fun | (_, v1) => []) (fl, 0) eo0_0 ⟨rfl, rfl, rfl, rfl, trivial⟩ trivial (by decide) ?_)
    rintro ⟨fuel, v1⟩ H1
    have H1 : slices_IndexFunc_Line_of_i_Cache_place_1_L0 fl a0 a1_0 a1_1 fuel v1 = some o0_0 := H1
    rcases fuel with _ | fuel
    · rw [slices_IndexFunc_Line_of_i_Cache_place_1_L0.eq_1] at H1; cases H1
    rw [slices_IndexFunc_Line_of_i_Cache_place_1_L0.eq_2] at H1
    refine CW.sub (s' := [(0, .slice p0_0 ((a0).length) c0_0), (1, .func (.func 57) #[] #[.pointer (some ⟨q1_0, 0, none⟩), .pointer (some ⟨q1_1, 0, none⟩)]), (7, .int .i64 ((a0).length : Int)), (8, .int .i64 v1)]) (h' := []) ?_ ⟨rfl, rfl, rfl, rfl, trivial⟩ trivial
    refine sr (oD (stp_lss rfl rfl) rfl (nn (cw_seq (cw_cond rfl (fun h2 => ?_) (fun h2 => ?_)))))
    · have H1 := cond_t H1 h2
      obtain ⟨x3, e3, H1⟩ := bind_some H1
      refine cw_skip (kw_nx (cw_seq (cw_block (sr (oD (mv rfl) rfl (oD (sg rfl) rfl (nn (sr (oD (mv rfl) rfl (oD (mv rfl) rfl (oD (mv rfl) rfl (oD (stp_indexAddr Tryd.underlying29 ts65 (by decide) rfl rfl rfl (Rdb.ro hr0_0) e3) rfl (oD (stp_loadN (us := [_, _, _, _, _, _]) ts65 rfl (Cells.el (Rdb.ro hr0_0) (by decide) e3 0 6 rfl)) rfl ?_)))))))))))))
      obtain ⟨x4, e4, H1⟩ := bind_some H1
      refine oE (stpU_callF (vals := [_]) (ca := [_, _]) (fun i => 0 + i) cf57 (fun w hw => c_i_Cache_place_1 fl w x3 q1_0 a1_0 q1_1 a1_1 (RO.pass hba1_0 hw) (RO.pass hba1_1 hw) x4 e4) rfl (sevs_cons rfl sevs_nil)) rfl ?_
      rintro _ _ ⟨_, ⟨rfl, rfl⟩, rfl⟩
      refine nn (cw_cond rfl (fun h5 => ?_) (fun h5 => ?_))
      · have H1 := cond_t H1 h5
        refine sr (oD (mv rfl) rfl (oD (sg rfl) rfl (nn (cw_ret (kw_bl_ret (kw_nx_ret (kw_lq_ret (kw_bl_ret (kw_join_ret (kw_nx_ret ?_))))))))))
        have q1 := Option.some.inj H1
        subst q1
        have q0 := Option.some.inj H0
        subst q0
        exact kw_ret Tryd.results56 (.cons (.tmp rfl) .nil) [] [] trivial (by decide) ⟨rfl, rfl⟩
      · have H1 := cond_f H1 h5
        obtain ⟨x6, e6, H1⟩ := bind_some H1
        exact cw_skip (kw_bl_normal (kw_nx (cw_region (oD (stp_add rfl rfl e6) rfl (oD (mv rfl) rfl (ow_nil (kw_lqS (js := []) (fuel, x6) H1 (Nat.lt_succ_self _) ⟨rfl, rfl, rfl, rfl, trivial⟩ trivial (by decide))))))))
    · have H1 := cond_f H1 h2
      refine cw_exit (kw_nx_exit (kw_lq_exit (kw_bl ?_)))
      have q1 := Option.some.inj H1
      subst q1
      exact kw_joinS (js := []) v1 rfl ⟨rfl, rfl, rfl, rfl, trivial⟩ trivial (by decide)
  · rintro v1 rfl
    refine KW.sub (s' := [(0, .slice p0_0 ((a0).length) c0_0), (1, .func (.func 57) #[] #[.pointer (some ⟨q1_0, 0, none⟩), .pointer (some ⟨q1_1, 0, none⟩)]), (7, .int .i64 ((a0).length : Int)), (8, .int .i64 v1)]) (h' := []) ?_ ⟨rfl, rfl, rfl, rfl, trivial⟩ trivial
    refine kw_nx (sr (oD (sg rfl) rfl (nn (cw_ret ?_))))
    have q0 := Option.some.inj H0
    subst q0
    exact kw_ret Tryd.results56 (.cons (.tmp rfl) .nil) [] [] trivial (by decide) ⟨rfl, rfl⟩

set_option maxHeartbeats 4000000 in
set_option maxRecDepth 20000 in
theorem c_i_Cache_place (fl : Nat) (w : World) (a0 : Ca) (p0_0 : Option Addr) (n0_0 c0_0 : Nat) (a1 : Int) (a2 : Int) (hn0_0 : n0_0 = (a0.l).length) (hr0_0 : RO w (hkeys []) (RdL p0_0 c0_0 a0.l)) (r : Int) (H0 : i_Cache_place fl a0 a1 a2 = some r) :
    Ct Tryd.prog 27 [.agg #[.slice p0_0 n0_0 c0_0, .int .i64 a0.h], .int .i64 a1, .int .i64 a2] w [] (fun rv h' => rv = .int .i64 r ∧ h' = []) := by
  obtain rfl := hn0_0
  unfold i_Cache_place at H0
  refine ct_of_cw Tryd.func27 rfl Tryd.ntmps27 rfl (Sat.refl _ _) ?_
  refine sr (oE (stpU_box 0 rfl rfl) rfl ?_)
  rintro _ _ ⟨b1, rfl, rfl⟩
  refine oE (stpU_box 1 rfl rfl) rfl ?_
  rintro _ _ ⟨b2, rfl, rfl⟩
  refine oE (stpU_box 2 rfl rfl) rfl ?_
  rintro _ _ ⟨b3, rfl, rfl⟩
  obtain ⟨x4, e4, H0⟩ := bind_some H0
  refine oD (sg rfl) rfl (nn (sr (oD (fA 0 Tryd.underlying31 rfl ts29 rfl rfl rfl) rfl (oD (lB 0 ts29 rfl rfl rfl) rfl (oD (stp_makeFunc (sevs_cons rfl (sevs_cons rfl sevs_nil))) rfl (oE (stpU_call (fun i => 3 + i) cf56 (fun w hw => c_slices_IndexFunc_Line_of_i_Cache_place_1 fl w a0.l p0_0 ((a0.l).length) c0_0 b3 a2 b2 a1 rfl (RO.pass hr0_0 hw) (box_pass (id := 2) rfl hw) (box_pass (id := 1) rfl hw) x4 e4) (sevs_cons rfl (sevs_cons rfl sevs_nil))) rfl ?_))))))
  rintro _ _ ⟨_, ⟨rfl, rfl⟩, rfl⟩
  refine oD (sg rfl) rfl (nn (cw_ret ?_))
  have q0 := Option.some.inj H0
  subst q0
  exact kw_ret Tryd.results27 (.cons (.tmp rfl) .nil) [] [] trivial (by decide) ⟨rfl, rfl⟩

set_option maxHeartbeats 4000000 in
set_option maxRecDepth 20000 in
theorem c_i_Allows (fl : Nat) (w : World) (a0 : Int) (a1 : Int) (r : Bool) (H0 : i_Allows fl a0 a1 = some r) :
    Ct Tryd.prog 31 [.int .i64 a0, .int .i64 a1] w [] (fun rv h' => rv = .bool r ∧ h' = []) := by
  unfold i_Allows at H0
  refine ct_of_cw Tryd.func31 rfl Tryd.ntmps31 rfl (Sat.refl _ _) ?_
  obtain ⟨x1, e1, H0⟩ := bind_some H0
  refine sr (oD (sg rfl) rfl (nn (sr (oD (mv rfl) rfl (oE (stpU_call (fun i => 0 + i) cf24 (fun w hw => c_i_RightsValid fl w a0 x1 e1) (sevs_cons rfl sevs_nil)) rfl ?_)))))
  rintro _ _ ⟨_, ⟨rfl, rfl⟩, rfl⟩
  obtain ⟨y2, ey2, H0⟩ := bind_some H0
  refine oD (mv rfl) rfl (ow_cutY 3 10 y2 ?_ ?_)
  · rcases Bool.eq_false_or_eq_true x1 with hy2 | hy2
    · have ey2 := cond_t ey2 hy2
      obtain ⟨x3, e3, ey2⟩ := bind_some ey2
      refine oG rfl hy2 (mv rfl) rfl (ow_eff (.some rfl hy2) (stpU_call (fun i => 0 + i) cf24 (fun w hw => c_i_RightsValid fl w a1 x3 e3) (sevs_cons rfl sevs_nil)) rfl ?_)
      rintro _ _ ⟨_, ⟨rfl, rfl⟩, rfl⟩
      refine oD (stp_pick_t rfl hy2 rfl) rfl ?_
      obtain rfl := Option.some.inj ey2
      exact ow_nil (jy 3 0)
    · have ey2 := cond_f ey2 hy2
      refine oO rfl hy2 rfl (oO rfl hy2 rfl (oD (stp_pick_f rfl hy2 rfl) rfl ?_))
      obtain rfl := Option.some.inj ey2
      exact ow_nil (jy 3 0)
  · obtain ⟨y4, ey4, H0⟩ := bind_some H0
    refine oD (mv rfl) rfl (ow_cutY 5 16 y4 ?_ ?_)
    · rcases Bool.eq_false_or_eq_true y2 with hy4 | hy4
      · have ey4 := cond_t ey4 hy4
        refine oG rfl hy4 (mv rfl) rfl (oG rfl hy4 (mv rfl) rfl (oG rfl hy4 (stp_andNot rfl rfl) rfl (oG rfl hy4 (stp_eql rfl rfl) rfl (oD (stp_pick_t rfl hy4 rfl) rfl ?_))))
        obtain rfl := Option.some.inj ey4
        exact ow_nil (jy 5 0)
      · have ey4 := cond_f ey4 hy4
        refine oO rfl hy4 rfl (oO rfl hy4 rfl (oO rfl hy4 rfl (oO rfl hy4 rfl (oD (stp_pick_f rfl hy4 rfl) rfl ?_))))
        obtain rfl := Option.some.inj ey4
        exact ow_nil (jy 5 0)
    · refine oD (sg rfl) rfl (nn (cw_ret ?_))
      have q0 := Option.some.inj H0
      subst q0
      exact kw_ret Tryd.results31 (.cons (.tmp rfl) .nil) [] [] trivial (by decide) ⟨rfl, rfl⟩

set_option maxHeartbeats 4000000 in
set_option maxRecDepth 20000 in
theorem c_i_VictimOf (fl : Nat) (w : World) (a0 : Ca) (p0_0 : Option Addr) (n0_0 c0_0 : Nat) (hn0_0 : n0_0 = (a0.l).length) (hr0_0 : RO w (hkeys []) (RdL p0_0 c0_0 a0.l)) (r : Int × Bool) (H0 : i_VictimOf fl a0 = some r) :
    Ct Tryd.prog 60 [.agg #[.slice p0_0 n0_0 c0_0, .int .i64 a0.h]] w [] (fun rv h' => rv = .tuple #[.int .i64 r.1, .bool r.2] ∧ h' = []) := by
  obtain rfl := hn0_0
  unfold i_VictimOf at H0
  refine ct_of_cw Tryd.func60 rfl Tryd.ntmps60 rfl (Sat.refl _ _) ?_
  refine sr (oE (stpU_box 0 rfl rfl) rfl ?_)
  rintro _ _ ⟨b1, rfl, rfl⟩
  obtain ⟨x2, e2, H0⟩ := bind_some H0
  refine oD (sg rfl) rfl (oD (sg rfl) rfl (nn (cw_seq (sr (oD (stp_loadN (us := [_, _]) ts31 rfl (Cells.box (id := 0) rfl 2 rfl)) rfl (oE (stpU_call (fun i => 1 + i) cf33 (fun w hw => c_i_CacheValid fl w a0 p0_0 ((a0.l).length) c0_0 rfl (RO.pass hr0_0 hw) x2 e2) (sevs_cons rfl sevs_nil)) rfl ?_))))))
  rintro _ _ ⟨_, ⟨rfl, rfl⟩, rfl⟩
  refine oD (stp_not rfl) rfl (nn (cw_cond rfl (fun h3 => ?_) (fun h3 => ?_)))
  · have H0 := cond_t H0 h3
    refine sr (oD (sg rfl) rfl (oD (sg rfl) rfl (nn (cw_ret (kw_nx_ret ?_)))))
    have q0 := Option.some.inj H0
    subst q0
    exact kw_ret Tryd.results60 (.cons (.tmp rfl) (.cons (.tmp rfl) .nil)) [] [] trivial (by decide) ⟨rfl, rfl⟩
  · have H0 := cond_f H0 h3
    obtain ⟨o0_0, eo0_0, H0⟩ := bind_some H0
    refine cw_skip (kw_nx (cw_seq (sr (oD (fA 0 Tryd.underlying31 rfl ts29 rfl rfl rfl) rfl (oD (lB 0 ts29 rfl rfl rfl) rfl (oD (stp_len Tryd.underlying29 rfl) rfl (oD (mv rfl) rfl (nn (cw_join (ι := Int) (fun | v4 => o0_0 = .out v4) (fun | v4 => [(1, .pointer (some ⟨b1, 0, none⟩)), (11, .slice p0_0 ((a0.l).length) c0_0), (12, .int .i64 ((a0.l).length : Int)), (13, .int .i64 v4)]) (fun | v4 => [(0, [(b1, .cells #[.slice p0_0 ((a0.l).length) c0_0, .int .i64 a0.h] 31 (0, 0))])]) ?_ ?_)))))))))
    · refine cw_block (cw_loopS (ι := Nat × Int) (js := [0]) (fun x => x.1) (fun | (fuel, v4) => i_VictimOf_L0 fl a0 fuel v4 = some o0_0) (fun | (_, v4) => [(1, .pointer (some ⟨b1, 0, none⟩)), (11, .slice p0_0 ((a0.l).length) c0_0), (12, .int .i64 ((a0.l).length : Int)), (13, .int .i64 v4)]) (fun | (_, v4) => [(0, [(b1, .cells #[.slice p0_0 ((a0.l).length) c0_0, .int .i64 a0.h] 31 (0, 0))])]) (fl, 0) eo0_0 ⟨rfl, rfl, rfl, rfl, trivial⟩ ⟨0, [], rfl, rfl, trivial⟩ (by decide) ?_)
      rintro ⟨fuel, v4⟩ H1
      have H1 : i_VictimOf_L0 fl a0 fuel v4 = some o0_0 := H1
      rcases fuel with _ | fuel
      · rw [i_VictimOf_L0.eq_1] at H1; cases H1
      rw [i_VictimOf_L0.eq_2] at H1
      refine CW.sub (s' := [(1, .pointer (some ⟨b1, 0, none⟩)), (11, .slice p0_0 ((a0.l).length) c0_0), (12, .int .i64 ((a0.l).length : Int)), (13, .int .i64 v4)]) (h' := [(0, [(b1, .cells #[.slice p0_0 ((a0.l).length) c0_0, .int .i64 a0.h] 31 (0, 0))])]) ?_ ⟨rfl, rfl, rfl, rfl, trivial⟩ ⟨rfl, trivial⟩
      refine sr (oD (stp_lss rfl rfl) rfl (nn (cw_seq (cw_cond rfl (fun h5 => ?_) (fun h5 => ?_)))))
      · have H1 := cond_t H1 h5
        obtain ⟨x6, e6, H1⟩ := bind_some H1
        refine cw_skip (kw_nx (cw_seq (cw_block (sr (oD (mv rfl) rfl (oD (stp_indexAddr Tryd.underlying29 ts65 (by decide) rfl rfl rfl (Rdb.ro hr0_0) e6) rfl (oD (stp_loadN (us := [_, _, _, _, _, _]) ts65 rfl (Cells.el (Rdb.ro hr0_0) (by decide) e6 0 6 rfl)) rfl (oE (stpU_alloc 1 tz65 rfl) rfl ?_))))))))
        rintro _ _ ⟨b7, rfl, rfl⟩
        refine oD (sg rfl) rfl (oF (stpU_store (id := 1) (cs' := [.bool x6.va, .int .i64 x6.tg, .int .i64 x6.pg, .int .i64 x6.fr, .int .i64 x6.ri, .bool x6.wi]) ts65 rfl rfl rfl rfl rfl rfl rfl) ?_)
        rintro _ _ rfl
        refine nn (sr (oD (fA 0 Tryd.underlying65 rfl ts4 rfl rfl rfl) rfl (oD (lB 1 ts4 rfl rfl rfl) rfl (oD (stp_not rfl) rfl (nn (cw_cond rfl (fun h8 => ?_) (fun h8 => ?_)))))))
        · have H1 := cond_t H1 h8
          refine sr (oD (mv rfl) rfl (oD (sg rfl) rfl (oD (sg rfl) rfl (nn (cw_ret (kw_bl_ret (kw_nx_ret (kw_lq_ret (kw_bl_ret (kw_join_ret (kw_nx_ret ?_)))))))))))
          have q1 := Option.some.inj H1
          subst q1
          have q0 := Option.some.inj H0
          subst q0
          exact kw_ret Tryd.results60 (.cons (.tmp rfl) (.cons (.tmp rfl) .nil)) [] [] trivial (by decide) ⟨rfl, rfl⟩
        · have H1 := cond_f H1 h8
          obtain ⟨x9, e9, H1⟩ := bind_some H1
          exact cw_skip (kw_bl_normal (kw_nx (cw_region (oD (stp_add rfl rfl e9) rfl (oD (mv rfl) rfl (ow_nil (kw_lqS (js := [0]) (fuel, x9) H1 (Nat.lt_succ_self _) ⟨rfl, rfl, rfl, rfl, trivial⟩ ⟨0, [], rfl, rfl, trivial⟩ (by decide))))))))
      · have H1 := cond_f H1 h5
        refine cw_exit (kw_nx_exit (kw_lq_exit (kw_bl ?_)))
        have q1 := Option.some.inj H1
        subst q1
        exact kw_joinS (js := [0]) v4 rfl ⟨rfl, rfl, rfl, rfl, trivial⟩ ⟨0, [], rfl, rfl, trivial⟩ (by decide)
    · rintro v4 rfl
      refine KW.sub (s' := [(1, .pointer (some ⟨b1, 0, none⟩)), (11, .slice p0_0 ((a0.l).length) c0_0), (12, .int .i64 ((a0.l).length : Int)), (13, .int .i64 v4)]) (h' := [(0, [(b1, .cells #[.slice p0_0 ((a0.l).length) c0_0, .int .i64 a0.h] 31 (0, 0))])]) ?_ ⟨rfl, rfl, rfl, rfl, trivial⟩ ⟨rfl, trivial⟩
      obtain ⟨o0_1, eo0_1, H0⟩ := bind_some H0
      refine kw_nx (sr (oD (fA 1 Tryd.underlying31 rfl ts3 rfl rfl rfl) rfl (oD (lB 0 ts3 rfl rfl rfl) rfl (oD (sg rfl) rfl (nn (cw_seq (cw_join (ι := Int) (fun | v10 => o0_1 = .out v10) (fun | v10 => [(1, .pointer (some ⟨b1, 0, none⟩)), (6, .int .i64 v10)]) (fun | v10 => [(0, [(b1, .cells #[.slice p0_0 ((a0.l).length) c0_0, .int .i64 a0.h] 31 (0, 0))])]) ?_ ?_)))))))
      · refine cw_block (cw_loopS (ι := Nat × Int) (js := [0]) (fun x => x.1) (fun | (fuel, v10) => i_VictimOf_L1 fl a0 fuel v10 = some o0_1) (fun | (_, v10) => [(1, .pointer (some ⟨b1, 0, none⟩)), (6, .int .i64 v10)]) (fun | (_, v10) => [(0, [(b1, .cells #[.slice p0_0 ((a0.l).length) c0_0, .int .i64 a0.h] 31 (0, 0))])]) (fl, a0.h) eo0_1 ⟨rfl, rfl, trivial⟩ ⟨0, [], rfl, rfl, trivial⟩ (by decide) ?_)
        rintro ⟨fuel, v10⟩ H1
        have H1 : i_VictimOf_L1 fl a0 fuel v10 = some o0_1 := H1
        rcases fuel with _ | fuel
        · rw [i_VictimOf_L1.eq_1] at H1; cases H1
        rw [i_VictimOf_L1.eq_2] at H1
        refine CW.sub (s' := [(1, .pointer (some ⟨b1, 0, none⟩)), (6, .int .i64 v10)]) (h' := [(0, [(b1, .cells #[.slice p0_0 ((a0.l).length) c0_0, .int .i64 a0.h] 31 (0, 0))])]) ?_ ⟨rfl, rfl, trivial⟩ ⟨rfl, trivial⟩
        obtain ⟨x11, e11, H1⟩ := bind_some H1
        refine cw_seq (sr (oD (fA 0 Tryd.underlying31 rfl ts29 rfl rfl rfl) rfl (oD (lB 0 ts29 rfl rfl rfl) rfl (oD (mv rfl) rfl (oD (stp_indexAddr Tryd.underlying29 ts65 (by decide) rfl rfl rfl (Rdb.ro hr0_0) e11) rfl (oD (fA 5 Tryd.underlying65 rfl ts4 rfl rfl rfl) rfl (oD (stp_load1 ts4 rfl (Cells.el (Rdb.ro hr0_0) (by decide) e11 5 1 rfl)) rfl (nn (cw_cond rfl (fun h12 => ?_) (fun h12 => ?_))))))))))
        · have H1 := cond_t H1 h12
          obtain ⟨x13, e13, H1⟩ := bind_some H1
          obtain ⟨x14, e14, H1⟩ := bind_some H1
          exact cw_skip (kw_nx (cw_block (cw_region (oD (mv rfl) rfl (oD (stp_add rfl rfl e13) rfl (oD (fA 0 Tryd.underlying31 rfl ts29 rfl rfl rfl) rfl (oD (lB 0 ts29 rfl rfl rfl) rfl (oD (stp_len Tryd.underlying29 rfl) rfl (oD (stp_rem rfl rfl e14) rfl (oD (sg rfl) rfl (ow_nil (kw_bl_normal (kw_lqS (js := [0]) (fuel, x14) H1 (Nat.lt_succ_self _) ⟨rfl, rfl, trivial⟩ ⟨0, [], rfl, rfl, trivial⟩ (by decide))))))))))))))
        · have H1 := cond_f H1 h12
          refine cw_exit (kw_nx_exit (kw_lq_exit (kw_bl ?_)))
          have q1 := Option.some.inj H1
          subst q1
          exact kw_joinS (js := [0]) v10 rfl ⟨rfl, rfl, trivial⟩ ⟨0, [], rfl, rfl, trivial⟩ (by decide)
      · rintro v10 rfl
        refine KW.sub (s' := [(1, .pointer (some ⟨b1, 0, none⟩)), (6, .int .i64 v10)]) (h' := [(0, [(b1, .cells #[.slice p0_0 ((a0.l).length) c0_0, .int .i64 a0.h] 31 (0, 0))])]) ?_ ⟨rfl, rfl, trivial⟩ ⟨rfl, trivial⟩
        refine kw_nx (sr (oD (mv rfl) rfl (oD (sg rfl) rfl (oD (sg rfl) rfl (nn (cw_ret ?_))))))
        have q0 := Option.some.inj H0
        subst q0
        exact kw_ret Tryd.results60 (.cons (.tmp rfl) (.cons (.tmp rfl) .nil)) [] [] trivial (by decide) ⟨rfl, rfl⟩

set_option maxHeartbeats 4000000 in
set_option maxRecDepth 20000 in
theorem c_i_Cache_with (fl : Nat) (w : World) (a0 : Ca) (p0_0 : Option Addr) (n0_0 c0_0 : Nat) (a1 : Int) (a2 : Ln) (hn0_0 : n0_0 = (a0.l).length) (hr0_0 : RO w (hkeys []) (RdL p0_0 c0_0 a0.l)) (r : Ca) (H0 : i_Cache_with fl a0 a1 a2 = some r) :
    Ct Tryd.prog 62 [.agg #[.slice p0_0 n0_0 c0_0, .int .i64 a0.h], .int .i64 a1, .agg #[.bool a2.va, .int .i64 a2.tg, .int .i64 a2.pg, .int .i64 a2.fr, .int .i64 a2.ri, .bool a2.wi]] w [] (fun rv h' => ∃ (x0 : Option Addr) (y0 z0 : Nat) (C0 : Res), rv = .agg #[.slice x0 y0 z0, .int .i64 r.h] ∧ h' = [(0, C0)] ∧ y0 = (r.l).length ∧ OwnC 65 x0 z0 r.l C0) := by
  obtain rfl := hn0_0
  unfold i_Cache_with at H0
  refine ct_of_cw Tryd.func62 rfl Tryd.ntmps62 rfl (Sat.refl _ _) ?_
  refine sr (oE (stpU_box 0 rfl rfl) rfl ?_)
  rintro _ _ ⟨b1, rfl, rfl⟩
  refine oE (stpU_box 1 rfl rfl) rfl ?_
  rintro _ _ ⟨b2, rfl, rfl⟩
  refine oE (stpU_alloc 2 tz31 rfl) rfl ?_
  rintro _ _ ⟨b3, rfl, rfl⟩
  obtain ⟨x4, e4, H0⟩ := bind_some H0
  refine nn (cw_seq (rdr g_mixed [3] [0] { dst := dS [9, 10, 11, 12, 13, 14, 15, 8, 0], pre := gA [] [[], [0], [0, 1], [0, 1, 2], [], [4], rn 0 6, [], rn 0 8], ids := gA [] [[], [], [3], [], [], [], [], [4], [4]], rs := rL [[(3, 0)], [(8, 1)], [(9, 2)], [(10, 3)], [(3, 0)], [(12, 5)], [(11, 4), (13, 6)], [], [(7, 8), (14, 7)]], rh := rL [[], [(0, 0)], [], [], [], [(0, 0)], [], [], [(4, 8)]], V := fun i g => gA undef [.pointer (some ⟨b1, 0, none⟩), .slice p0_0 ((a0.l).length) c0_0, .slice ((g 2).A 0) ((x4).length) ((g 2).C 0), .slice ((g 2).A 0) ((x4).length) ((x4).length), .pointer (some ⟨b1, 1, none⟩), .int .i64 a0.h, .agg #[.slice ((g 2).A 0) ((x4).length) ((x4).length), .int .i64 a0.h], .pointer (some ⟨((g 7).C 0), 0, none⟩)] i, U := fun i g => gA [] [[], [], [(3, ((g 2).R 0))], [], [], [], [], [(4, [(((g 7).C 0), .cells #[.slice none 0 0, .int .i64 0] 31 (0, 0))])], [(4, [(((g 7).C 0), .cells #[.slice ((g 2).A 0) ((x4).length) ((x4).length), .int .i64 a0.h] 31 (0, 0))])]] i, Φ := fun i x => gA True [True, True, OwnC (α := Ln) 65 (x.A 0) (x.C 0) x4 (x.R 0)] i } ?_ ?_))
  · refine ⟨⟨⟨⟨⟨⟨⟨⟨⟨trivial, lc rfl rfl fun hs hh => stp_fieldAddr (j := 0) Tryd.underlying31 rfl ts29 rfl (sv hs 3 rfl) rfl⟩, lc rfl rfl fun hs hh => stp_load1 ts29 (sv hs 8 rfl) (Cells.box (id := 0) (hh.get 0 _ rfl) 1 rfl)⟩, ?_⟩, ?_⟩, lc rfl rfl fun hs hh => stp_fieldAddr (j := 1) Tryd.underlying31 rfl ts3 rfl (sv hs 3 rfl) rfl⟩, lc rfl rfl fun hs hh => stp_load1 ts3 (sv hs 12 rfl) (Cells.box (id := 0) (hh.get 0 _ rfl) 1 rfl)⟩, ld rfl rfl fun g hΦ s h hs hh => stp_build (cs := #[.slice ((g 2).A 0) ((x4).length) ((x4).length), .int .i64 a0.h]) (sevp_cons (sv hs 11 rfl) (sevp_cons (sv hs 13 rfl) sevp_nil)) bt31_18⟩, ?_⟩, ?_⟩
    · refine le rfl rfl (fun g hΦ s h hs hh => (stpU_call (fun i => 3 + i) cf54 (fun w hw => c_slices_Clone_Line fl w a0.l p0_0 ((a0.l).length) c0_0 rfl (RO.pass hr0_0 hw) x4 e4) (sevs_cons (sv hs 9 rfl) sevs_nil))) ?_
      rintro g _ _ ⟨_, ⟨p5, n6, c7, C8, rfl, rfl, hnn6, o8⟩, rfl⟩
      obtain rfl := hnn6
      exact ⟨⟨[p5], [c7], [C8]⟩, o8, .inr rfl, rfl⟩
    · refine le rfl rfl (fun g hΦ s h hs hh => (stpU_call (fun i => i) cf53 (fun w hw => c_clip53 w ((g 2).A 0) ((x4).length) ((g 2).C 0) (OwnC.len (hΦ 2 rfl)).1) (sevs_cons (sv hs 10 rfl) sevs_nil))) ?_
      rintro g _ _ ⟨_, ⟨rfl, rfl⟩, rfl⟩
      exact ⟨⟨[], [], []⟩, trivial, .inr rfl, rfl⟩
    · refine le rfl rfl (fun g hΦ s h hs hh => (stpU_alloc 4 tz31 rfl)) ?_
      rintro g _ _ ⟨b9, rfl, rfl⟩
      exact ⟨⟨[], [b9], []⟩, trivial, .inr rfl, rfl⟩
    · refine le rfl rfl (fun g hΦ s h hs hh => (stpU_store (id := 4) (cs' := [.slice ((g 2).A 0) ((x4).length) ((x4).length), .int .i64 a0.h]) ts31 (sv hs 7 rfl) (sv hs 14 rfl) (hh.get 4 _ rfl) rfl rfl rfl rfl)) ?_
      rintro g _ _ rfl
      exact ⟨⟨[], [], []⟩, trivial, .inl rfl, rfl⟩
  · intro g hΦ
    refine kw_gen (ι := Option Addr × Nat × Res × Nat) (((g 2).A 0), ((g 2).C 0), ((g 2).R 0), ((g 7).C 0)) (fun | (p5, c7, C8, b9) => OwnC (α := Ln) 65 p5 c7 x4 C8) (fun | (p5, c7, C8, b9) => [(1, .int .i64 a1), (5, .pointer (some ⟨b2, 0, none⟩)), (6, .pointer (some ⟨b3, 0, none⟩)), (7, .pointer (some ⟨b9, 0, none⟩))]) (fun | (p5, c7, C8, b9) => [(1, [(b2, .cells #[.bool a2.va, .int .i64 a2.tg, .int .i64 a2.pg, .int .i64 a2.fr, .int .i64 a2.ri, .bool a2.wi] 65 (0, 0))]), (2, [(b3, .cells #[.slice none 0 0, .int .i64 0] 31 (0, 0))]), (3, C8), (4, [(b9, .cells #[.slice p5 ((x4).length) ((x4).length), .int .i64 a0.h] 31 (0, 0))])]) (hΦ 2 (by decide)) ⟨rfl, rfl, rfl, rfl, trivial⟩ ⟨rfl, rfl, rfl, rfl, trivial⟩ ?_
    rintro ⟨p5, c7, C8, b9⟩ o8
    have o8 : OwnC (α := Ln) 65 p5 c7 x4 C8 := o8
    refine KW.sub (s' := [(1, .int .i64 a1), (5, .pointer (some ⟨b2, 0, none⟩)), (6, .pointer (some ⟨b3, 0, none⟩)), (7, .pointer (some ⟨b9, 0, none⟩))]) (h' := [(1, [(b2, .cells #[.bool a2.va, .int .i64 a2.tg, .int .i64 a2.pg, .int .i64 a2.fr, .int .i64 a2.ri, .bool a2.wi] 65 (0, 0))]), (2, [(b3, .cells #[.slice none 0 0, .int .i64 0] 31 (0, 0))]), (3, C8), (4, [(b9, .cells #[.slice p5 ((x4).length) ((x4).length), .int .i64 a0.h] 31 (0, 0))])]) ?_ ⟨rfl, rfl, rfl, rfl, trivial⟩ ⟨rfl, rfl, rfl, rfl, trivial⟩
    obtain ⟨x10, e10, H0⟩ := bind_some H0
    refine kw_nx (sr (oD (fA 0 Tryd.underlying31 rfl ts29 rfl rfl rfl) rfl (oD (lB 4 ts29 rfl rfl rfl) rfl (oD (mv rfl) rfl (oD (stp_loadN (us := [_, _, _, _, _, _]) ts65 rfl (Cells.box (id := 1) rfl 6 rfl)) rfl (oD (stp_indexAddr Tryd.underlying29 ts65 (by decide) rfl rfl rfl (Rdb.own (id := 3) rfl (OwnC.clip o8)) e10) rfl (oF (stpU_storeEl (id := 3) (i := 0) a2 (by decide) ts65 rfl rfl rfl (OwnC.clip o8) e10 rfl rfl rfl rfl) ?_)))))))
    rintro _ _ ⟨C11, rfl, o11⟩
    refine nn (sr (oD (stp_loadN (us := [_, _]) ts31 rfl (Cells.box (id := 4) rfl 2 rfl)) rfl (oF (stpU_store (id := 2) (cs' := [.slice p5 ((x4).length) ((x4).length), .int .i64 a0.h]) ts31 rfl rfl rfl rfl rfl rfl rfl) ?_)))
    rintro _ _ rfl
    refine nn (cw_ret ?_)
    have q0 := Option.some.inj H0
    subst q0
    exact kw_ret Tryd.results62 (.cons (.cellN (us := [_, _]) ts31 rfl (Cells.box (id := 2) rfl 2 rfl)) .nil) [(0, C11)] [3] ⟨3, [], rfl, rfl, trivial⟩ (by decide) ⟨p5, ((x4).length), ((x4).length), C11, rfl, rfl, (by simp), o11⟩

set_option maxHeartbeats 4000000 in
set_option maxRecDepth 20000 in
theorem c_i_FillLine (fl : Nat) (w : World) (a0 : Ca) (p0_0 : Option Addr) (n0_0 c0_0 : Nat) (a1 : Ln) (hn0_0 : n0_0 = (a0.l).length) (hr0_0 : RO w (hkeys []) (RdL p0_0 c0_0 a0.l)) (r : Ca × Int × Bool) (H0 : i_FillLine fl a0 a1 = some r) :
    Ct Tryd.prog 30 [.agg #[.slice p0_0 n0_0 c0_0, .int .i64 a0.h], .agg #[.bool a1.va, .int .i64 a1.tg, .int .i64 a1.pg, .int .i64 a1.fr, .int .i64 a1.ri, .bool a1.wi]] w [] (fun rv h' => ∃ (x0 : Option Addr) (y0 z0 : Nat) (C0 : Res), rv = .tuple #[.agg #[.slice x0 y0 z0, .int .i64 r.1.h], .int .i64 r.2.1, .bool r.2.2] ∧ h' = [(0, C0)] ∧ y0 = (r.1.l).length ∧ OwnC 65 x0 z0 r.1.l C0) := by
  obtain rfl := hn0_0
  unfold i_FillLine at H0
  refine ct_of_cw Tryd.func30 rfl Tryd.ntmps30 rfl (Sat.refl _ _) ?_
  refine sr (oE (stpU_box 0 rfl rfl) rfl ?_)
  rintro _ _ ⟨b1, rfl, rfl⟩
  refine oE (stpU_box 1 rfl rfl) rfl ?_
  rintro _ _ ⟨b2, rfl, rfl⟩
  refine oE (stpU_alloc 2 tz31 rfl) rfl ?_
  rintro _ _ ⟨b3, rfl, rfl⟩
  obtain ⟨x4, e4, H0⟩ := bind_some H0
  refine oD (sg rfl) rfl (oD (sg rfl) rfl (nn (sr (oD (stp_loadN (us := [_, _]) ts31 rfl (Cells.box (id := 0) rfl 2 rfl)) rfl (oE (stpU_call (fun i => 3 + i) cf60 (fun w hw => c_i_VictimOf fl w a0 p0_0 ((a0.l).length) c0_0 rfl (RO.pass hr0_0 hw) x4 e4) (sevs_cons rfl sevs_nil)) rfl ?_)))))
  rintro _ _ ⟨_, ⟨rfl, rfl⟩, rfl⟩
  obtain ⟨y5, ey5, H0⟩ := bind_some H0
  refine oD (mv rfl) rfl (oD (stp_extract rfl rfl) rfl (oD (stp_extract rfl rfl) rfl (oD (sg rfl) rfl (oD (sg rfl) rfl (nn (cw_seq (sr (oD (mv rfl) rfl (oD (stp_not rfl) rfl (oD (mv rfl) rfl (ow_cutY 4 21 y5 ?_ ?_)))))))))))
  · rcases Bool.eq_false_or_eq_true (!x4.2) with hy5 | hy5
    · have ey5 := cond_t ey5 hy5
      refine oO rfl hy5 rfl (oO rfl hy5 rfl (oO rfl hy5 rfl (oD (stp_pick_t rfl hy5 rfl) rfl ?_)))
      obtain rfl := Option.some.inj ey5
      exact ow_nil (jy 4 0)
    · have ey5 := cond_f ey5 hy5
      refine oG rfl hy5 (fA 0 Tryd.underlying65 rfl ts4 rfl rfl rfl) rfl (oG rfl hy5 (lB 1 ts4 rfl rfl rfl) rfl (oG rfl hy5 (stp_not rfl) rfl (oD (stp_pick_f rfl hy5 rfl) rfl ?_)))
      obtain rfl := Option.some.inj ey5
      exact ow_nil (jy 4 0)
  · obtain ⟨y6, ey6, H0⟩ := bind_some H0
    refine oD (mv rfl) rfl (ow_cutY 4 26 y6 ?_ ?_)
    · rcases Bool.eq_false_or_eq_true y5 with hy6 | hy6
      · have ey6 := cond_t ey6 hy6
        refine oO rfl hy6 rfl (oO rfl hy6 rfl (oO rfl hy6 rfl (oD (stp_pick_t rfl hy6 rfl) rfl ?_)))
        obtain rfl := Option.some.inj ey6
        exact ow_nil (jy 4 0)
      · have ey6 := cond_f ey6 hy6
        obtain ⟨x7, e7, ey6⟩ := bind_some ey6
        refine oG rfl hy6 (stp_loadN (us := [_, _, _, _, _, _]) ts65 rfl (Cells.box (id := 1) rfl 6 rfl)) rfl (ow_eff (.some rfl hy6) (stpU_call (fun i => 3 + i) cf61 (fun w hw => c_i_lineValid fl w a1 x7 e7) (sevs_cons rfl sevs_nil)) rfl ?_)
        rintro _ _ ⟨_, ⟨rfl, rfl⟩, rfl⟩
        refine oG rfl hy6 (stp_not rfl) rfl (oD (stp_pick_f rfl hy6 rfl) rfl ?_)
        obtain rfl := Option.some.inj ey6
        exact ow_nil (jy 4 0)
    · obtain ⟨y8, ey8, H0⟩ := bind_some H0
      refine oD (mv rfl) rfl (ow_cutY 8 35 y8 ?_ ?_)
      · rcases Bool.eq_false_or_eq_true y6 with hy8 | hy8
        · have ey8 := cond_t ey8 hy8
          refine oO rfl hy8 rfl (oO rfl hy8 rfl (oO rfl hy8 rfl (oO rfl hy8 rfl (oO rfl hy8 rfl (oO rfl hy8 rfl (oO rfl hy8 rfl (oD (stp_pick_t rfl hy8 rfl) rfl ?_)))))))
          obtain rfl := Option.some.inj ey8
          exact ow_nil (jy 8 0)
        · have ey8 := cond_f ey8 hy8
          obtain ⟨x9, e9, ey8⟩ := bind_some ey8
          refine oG rfl hy8 (stp_loadN (us := [_, _]) ts31 rfl (Cells.box (id := 0) rfl 2 rfl)) rfl (oG rfl hy8 (fA 1 Tryd.underlying65 rfl ts3 rfl rfl rfl) rfl (oG rfl hy8 (lB 1 ts3 rfl rfl rfl) rfl (oG rfl hy8 (fA 2 Tryd.underlying65 rfl ts3 rfl rfl rfl) rfl (oG rfl hy8 (lB 1 ts3 rfl rfl rfl) rfl (ow_eff (.some rfl hy8) (stpU_call (fun i => 3 + i) cf27 (fun w hw => c_i_Cache_place fl w a0 p0_0 ((a0.l).length) c0_0 a1.tg a1.pg rfl (RO.pass hr0_0 hw) x9 e9) (sevs_cons rfl (sevs_cons rfl (sevs_cons rfl sevs_nil)))) rfl ?_)))))
          rintro _ _ ⟨_, ⟨rfl, rfl⟩, rfl⟩
          refine oG rfl hy8 (stp_geq rfl rfl) rfl (oD (stp_pick_f rfl hy8 rfl) rfl ?_)
          obtain rfl := Option.some.inj ey8
          exact ow_nil (jy 8 0)
      · refine ow_nil (kw_nx (cw_cond rfl (fun h10 => ?_) (fun h10 => ?_)))
        · have H0 := cond_t H0 h10
          refine sr (oD (stp_build (cs := #[.slice none 0 0, .int .i64 0]) sevp_nil bt31_2) rfl (oF (stpU_store (id := 2) (cs' := [.slice none 0 0, .int .i64 0]) ts31 rfl rfl rfl rfl rfl rfl rfl) ?_))
          rintro _ _ rfl
          refine oD (sg rfl) rfl (oD (sg rfl) rfl (nn (cw_ret (kw_nx_ret (kw_addNil 3 ?_)))))
          have q0 := Option.some.inj H0
          subst q0
          exact kw_ret Tryd.results30 (.cons (.cellN (us := [_, _]) ts31 rfl (Cells.box (id := 2) rfl 2 rfl)) (.cons (.tmp rfl) (.cons (.tmp rfl) .nil))) [(0, [])] [3] ⟨3, [], rfl, rfl, trivial⟩ (by decide) ⟨none, 0, 0, [], rfl, rfl, rfl, (OwnC.nil _ _)⟩
        · have H0 := cond_f H0 h10
          obtain ⟨x11, e11, H0⟩ := bind_some H0
          refine cw_skip (kw_nx (sr (oD (stp_loadN (us := [_, _]) ts31 rfl (Cells.box (id := 0) rfl 2 rfl)) rfl (oD (mv rfl) rfl (oD (stp_loadN (us := [_, _, _, _, _, _]) ts65 rfl (Cells.box (id := 1) rfl 6 rfl)) rfl (oE (stpU_call (fun i => 4 + i) cf62 (fun w hw => c_i_Cache_with fl w a0 p0_0 ((a0.l).length) c0_0 x4.1 a1 rfl (RO.pass hr0_0 hw) x11 e11) (sevs_cons rfl (sevs_cons rfl (sevs_cons rfl sevs_nil)))) rfl ?_))))))
          rintro _ _ ⟨_, ⟨p12, n13, c14, C15, rfl, rfl, hnn13, o15⟩, rfl⟩
          obtain rfl := hnn13
          refine oE (stpU_alloc 5 tz31 rfl) rfl ?_
          rintro _ _ ⟨b16, rfl, rfl⟩
          refine oF (stpU_store (id := 5) (cs' := [.slice p12 ((x11.l).length) c14, .int .i64 x11.h]) ts31 rfl rfl rfl rfl rfl rfl rfl) ?_
          rintro _ _ rfl
          obtain ⟨x17, e17, H0⟩ := bind_some H0
          refine nn (cw_seq (sr (oD (fA 0 Tryd.underlying31 rfl ts29 rfl rfl rfl) rfl (oD (lB 0 ts29 rfl rfl rfl) rfl (oD (mv rfl) rfl (oD (stp_indexAddr Tryd.underlying29 ts65 (by decide) rfl rfl rfl (Rdb.ro hr0_0) e17) rfl (oD (fA 0 Tryd.underlying65 rfl ts4 rfl rfl rfl) rfl (oD (stp_load1 ts4 rfl (Cells.el (Rdb.ro hr0_0) (by decide) e17 0 1 rfl)) rfl (nn (cw_cond rfl (fun h18 => ?_) (fun h18 => ?_)))))))))))
          · have H0 := cond_t H0 h18
            obtain ⟨x19, e19, H0⟩ := bind_some H0
            obtain ⟨x20, e20, H0⟩ := bind_some H0
            refine cw_region (oD (mv rfl) rfl (oD (stp_add rfl rfl e19) rfl (oD (fA 0 Tryd.underlying31 rfl ts29 rfl rfl rfl) rfl (oD (lB 0 ts29 rfl rfl rfl) rfl (oD (stp_len Tryd.underlying29 rfl) rfl (oD (stp_rem rfl rfl e20) rfl (oD (fA 1 Tryd.underlying31 rfl ts3 rfl rfl rfl) rfl (oF (stpU_store (id := 5) (cs' := [.slice p12 ((x11.l).length) c14, .int .i64 x20]) ts3 rfl rfl rfl rfl rfl rfl rfl) ?_))))))))
            rintro _ _ rfl
            obtain ⟨x21, e21, H0⟩ := bind_some H0
            refine nn (cw_seq (sr (oD (stp_loadN (us := [_, _]) ts31 rfl (Cells.box (id := 5) rfl 2 rfl)) rfl (oE (stpU_call (fun i => 6 + i) cf33 (fun w hw => c_i_CacheValid fl w (⟨x11.l, x20⟩ : Ca) p12 ((x11.l).length) c14 rfl (OwnC.pass (id := 4) rfl o15 hw) x21 e21) (sevs_cons rfl sevs_nil)) rfl ?_))))
            rintro _ _ ⟨_, ⟨rfl, rfl⟩, rfl⟩
            refine oD (stp_not rfl) rfl (nn (cw_cond rfl (fun h22 => ?_) (fun h22 => ?_)))
            · have H0 := cond_t H0 h22
              refine sr (oD (stp_build (cs := #[.slice none 0 0, .int .i64 0]) sevp_nil bt31_2) rfl (oF (stpU_store (id := 2) (cs' := [.slice none 0 0, .int .i64 0]) ts31 rfl rfl rfl rfl rfl rfl rfl) ?_))
              rintro _ _ rfl
              refine oD (sg rfl) rfl (oD (sg rfl) rfl (nn (cw_ret (kw_nx_ret (kw_addNil 6 ?_)))))
              have q0 := Option.some.inj H0
              subst q0
              exact kw_ret Tryd.results30 (.cons (.cellN (us := [_, _]) ts31 rfl (Cells.box (id := 2) rfl 2 rfl)) (.cons (.tmp rfl) (.cons (.tmp rfl) .nil))) [(0, [])] [6] ⟨6, [], rfl, rfl, trivial⟩ (by decide) ⟨none, 0, 0, [], rfl, rfl, rfl, (OwnC.nil _ _)⟩
            · have H0 := cond_f H0 h22
              refine cw_skip (kw_nx (sr (oD (stp_loadN (us := [_, _]) ts31 rfl (Cells.box (id := 5) rfl 2 rfl)) rfl (oD (mv rfl) rfl (oF (stpU_store (id := 2) (cs' := [.slice p12 ((x11.l).length) c14, .int .i64 x20]) ts31 rfl rfl rfl rfl rfl rfl rfl) ?_)))))
              rintro _ _ rfl
              refine oD (sg rfl) rfl (oD (sg rfl) rfl (nn (cw_ret ?_)))
              have q0 := Option.some.inj H0
              subst q0
              exact kw_ret Tryd.results30 (.cons (.cellN (us := [_, _]) ts31 rfl (Cells.box (id := 2) rfl 2 rfl)) (.cons (.tmp rfl) (.cons (.tmp rfl) .nil))) [(0, C15)] [4] ⟨4, [], rfl, rfl, trivial⟩ (by decide) ⟨p12, ((x11.l).length), c14, C15, rfl, rfl, rfl, o15⟩
          · have H0 := cond_f H0 h18
            obtain ⟨x23, e23, H0⟩ := bind_some H0
            refine cw_skip (kw_nx (cw_seq (sr (oD (stp_loadN (us := [_, _]) ts31 rfl (Cells.box (id := 5) rfl 2 rfl)) rfl (oE (stpU_call (fun i => 7 + i) cf33 (fun w hw => c_i_CacheValid fl w x11 p12 ((x11.l).length) c14 rfl (OwnC.pass (id := 4) rfl o15 hw) x23 e23) (sevs_cons rfl sevs_nil)) rfl ?_)))))
            rintro _ _ ⟨_, ⟨rfl, rfl⟩, rfl⟩
            refine oD (stp_not rfl) rfl (nn (cw_cond rfl (fun h24 => ?_) (fun h24 => ?_)))
            · have H0 := cond_t H0 h24
              refine sr (oD (stp_build (cs := #[.slice none 0 0, .int .i64 0]) sevp_nil bt31_2) rfl (oF (stpU_store (id := 2) (cs' := [.slice none 0 0, .int .i64 0]) ts31 rfl rfl rfl rfl rfl rfl rfl) ?_))
              rintro _ _ rfl
              refine oD (sg rfl) rfl (oD (sg rfl) rfl (nn (cw_ret (kw_nx_ret (kw_addNil 7 ?_)))))
              have q0 := Option.some.inj H0
              subst q0
              exact kw_ret Tryd.results30 (.cons (.cellN (us := [_, _]) ts31 rfl (Cells.box (id := 2) rfl 2 rfl)) (.cons (.tmp rfl) (.cons (.tmp rfl) .nil))) [(0, [])] [7] ⟨7, [], rfl, rfl, trivial⟩ (by decide) ⟨none, 0, 0, [], rfl, rfl, rfl, (OwnC.nil _ _)⟩
            · have H0 := cond_f H0 h24
              refine cw_skip (kw_nx (sr (oD (stp_loadN (us := [_, _]) ts31 rfl (Cells.box (id := 5) rfl 2 rfl)) rfl (oD (mv rfl) rfl (oF (stpU_store (id := 2) (cs' := [.slice p12 ((x11.l).length) c14, .int .i64 x11.h]) ts31 rfl rfl rfl rfl rfl rfl rfl) ?_)))))
              rintro _ _ rfl
              refine oD (sg rfl) rfl (oD (sg rfl) rfl (nn (cw_ret ?_)))
              have q0 := Option.some.inj H0
              subst q0
              exact kw_ret Tryd.results30 (.cons (.cellN (us := [_, _]) ts31 rfl (Cells.box (id := 2) rfl 2 rfl)) (.cons (.tmp rfl) (.cons (.tmp rfl) .nil))) [(0, C15)] [4] ⟨4, [], rfl, rfl, trivial⟩ (by decide) ⟨p12, ((x11.l).length), c14, C15, rfl, rfl, rfl, o15⟩
end Go.Proofs.YtbgodaeccgjdgaaDoor
