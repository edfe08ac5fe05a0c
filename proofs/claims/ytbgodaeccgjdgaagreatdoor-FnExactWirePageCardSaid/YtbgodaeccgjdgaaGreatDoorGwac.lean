/- The walks: functions of the program return what their pure functions say. Printed by a program (gen.py). -/
import Derived.Test.YtbgodaeccgjdgaaGreatDoorGp
import Derived.Test.YtbgodaeccgjdgaaGreatDoorGt
import Derived.Test.YtbgodaeccgjdgaaGreatDoorMan
import Derived.Test.YtbgodaeccgjdgaaGreatDoorMap
import Derived.Test.YtbgodaeccgjdgaaGreatDoorGwab
import Derived.Test.YtbgodaeccgjdgaaGreatDoorGws
set_option linter.unusedSimpArgs false
set_option linter.unusedVariables false
set_option linter.unusedSectionVars false
namespace Go.Proofs.YtbgodaeccgjdgaaGreatDoor
open Go.RowKit
set_option maxHeartbeats 4000000 in
set_option maxRecDepth 20000 in
theorem c_i_MachineValid (fl : Nat) (w : World) (a0 : Mc) (p0_0 : Option Addr) (n0_0 c0_0 : Nat) (p0_1 : Option Addr) (n0_1 c0_1 : Nat) (p0_2 : Option Addr) (n0_2 c0_2 : Nat) (p0_3 : Option Addr) (n0_3 c0_3 : Nat) (hn0_0 : n0_0 = (a0.t.b).length) (hr0_0 : RO w (hkeys []) (RdL p0_0 c0_0 a0.t.b)) (hn0_1 : n0_1 = (a0.t.f).length) (hr0_1 : RO w (hkeys []) (RdL p0_1 c0_1 a0.t.f)) (hn0_2 : n0_2 = (a0.c.l).length) (hr0_2 : RO w (hkeys []) (RdL p0_2 c0_2 a0.c.l)) (hn0_3 : n0_3 = (a0.g.o).length) (hr0_3 : RO w (hkeys []) (RdL p0_3 c0_3 a0.g.o)) (hg : RO w (hkeys []) (fun w' => w'.rangeAt 0 0 [.bool false, .int .i64 0, .int .i64 0, .int .i64 0, .int .i64 (-1)])) (r : Bool) (H0 : i_MachineValid fl a0 = some r) :
    Ct Tryz.prog 60 [.agg #[.slice p0_0 n0_0 c0_0, .slice p0_1 n0_1 c0_1, .slice p0_2 n0_2 c0_2, .int .i64 a0.c.h, .int .i64 a0.g.c, .int .i64 a0.g.n, .int .i64 a0.g.r, .slice p0_3 n0_3 c0_3, .int .i64 a0.s]] w [] (fun rv h' => rv = .bool r ∧ h' = []) := by
  obtain rfl := hn0_0
  obtain rfl := hn0_1
  obtain rfl := hn0_2
  obtain rfl := hn0_3
  unfold i_MachineValid at H0
  refine ct_of_cw Tryz.func60 rfl Tryz.ntmps60 rfl (Sat.refl _ _) ?_
  refine sr (oE (stpU_box 0 rfl rfl) rfl ?_)
  rintro _ _ ⟨b1, rfl, rfl⟩
  obtain ⟨x2, e2, H0⟩ := bind_some H0
  refine oD (sg rfl) rfl (nn (cw_seq (sr (oD (fA 0 Tryz.underlying47 rfl ts39 rfl rfl rfl) rfl (oD (stp_loadN (us := [_, _]) ts39 rfl (Cells.box (id := 0) rfl 2 rfl)) rfl (oE (stpU_call (fun i => 1 + i) cf138 (fun w hw => c_i_TableValid fl w a0.t p0_0 ((a0.t.b).length) c0_0 p0_1 ((a0.t.f).length) c0_1 rfl (RO.pass hr0_0 hw) rfl (RO.pass hr0_1 hw) (RO.pass hg hw) x2 e2) (sevs_cons rfl sevs_nil)) rfl ?_))))))
  rintro _ _ ⟨_, ⟨rfl, rfl⟩, rfl⟩
  obtain ⟨y3, ey3, H0⟩ := bind_some H0
  refine oD (stp_not rfl) rfl (oD (mv rfl) rfl (ow_cutY 5 21 y3 ?_ ?_))
  · rcases Bool.eq_false_or_eq_true (!x2) with hy3 | hy3
    · have ey3 := cond_t ey3 hy3
      refine oO rfl hy3 rfl (oO rfl hy3 rfl (oO rfl hy3 rfl (oO rfl hy3 rfl (oD (stp_pick_t rfl hy3 rfl) rfl ?_))))
      obtain rfl := Option.some.inj ey3
      exact ow_nil (jy 5 0)
    · have ey3 := cond_f ey3 hy3
      obtain ⟨x4, e4, ey3⟩ := bind_some ey3
      refine oG rfl hy3 (fA 2 Tryz.underlying47 rfl ts42 rfl rfl rfl) rfl (oG rfl hy3 (stp_loadN (us := [_, _]) ts42 rfl (Cells.box (id := 0) rfl 2 rfl)) rfl (ow_eff (.some rfl hy3) (stpU_call (fun i => 1 + i) cf139 (fun w hw => c_i_CacheValid fl w a0.c p0_2 ((a0.c.l).length) c0_2 rfl (RO.pass hr0_2 hw) x4 e4) (sevs_cons rfl sevs_nil)) rfl ?_))
      rintro _ _ ⟨_, ⟨rfl, rfl⟩, rfl⟩
      refine oG rfl hy3 (stp_not rfl) rfl (oD (stp_pick_f rfl hy3 rfl) rfl ?_)
      obtain rfl := Option.some.inj ey3
      exact ow_nil (jy 5 0)
  · obtain ⟨y5, ey5, H0⟩ := bind_some H0
    refine oD (mv rfl) rfl (ow_cutY 5 27 y5 ?_ ?_)
    · rcases Bool.eq_false_or_eq_true y3 with hy5 | hy5
      · have ey5 := cond_t ey5 hy5
        refine oO rfl hy5 rfl (oO rfl hy5 rfl (oO rfl hy5 rfl (oO rfl hy5 rfl (oD (stp_pick_t rfl hy5 rfl) rfl ?_))))
        obtain rfl := Option.some.inj ey5
        exact ow_nil (jy 5 0)
      · have ey5 := cond_f ey5 hy5
        obtain ⟨x6, e6, ey5⟩ := bind_some ey5
        refine oG rfl hy5 (fA 4 Tryz.underlying47 rfl ts45 rfl rfl rfl) rfl (oG rfl hy5 (stp_loadN (us := [_, _, _, _]) ts45 rfl (Cells.box (id := 0) rfl 4 rfl)) rfl (ow_eff (.some rfl hy5) (stpU_call (fun i => 1 + i) cf140 (fun w hw => c_i_TagsValid fl w a0.g p0_3 ((a0.g.o).length) c0_3 rfl (RO.pass hr0_3 hw) x6 e6) (sevs_cons rfl sevs_nil)) rfl ?_))
        rintro _ _ ⟨_, ⟨rfl, rfl⟩, rfl⟩
        refine oG rfl hy5 (stp_not rfl) rfl (oD (stp_pick_f rfl hy5 rfl) rfl ?_)
        obtain rfl := Option.some.inj ey5
        exact ow_nil (jy 5 0)
    · obtain ⟨y7, ey7, H0⟩ := bind_some H0
      refine oD (mv rfl) rfl (ow_cutY 7 35 y7 ?_ ?_)
      · rcases Bool.eq_false_or_eq_true y5 with hy7 | hy7
        · have ey7 := cond_t ey7 hy7
          refine oO rfl hy7 rfl (oO rfl hy7 rfl (oO rfl hy7 rfl (oO rfl hy7 rfl (oO rfl hy7 rfl (oO rfl hy7 rfl (oD (stp_pick_t rfl hy7 rfl) rfl ?_))))))
          obtain rfl := Option.some.inj ey7
          exact ow_nil (jy 7 0)
        · have ey7 := cond_f ey7 hy7
          obtain ⟨x8, e8, ey7⟩ := bind_some ey7
          refine oG rfl hy7 (fA 4 Tryz.underlying47 rfl ts45 rfl rfl rfl) rfl (oG rfl hy7 (stp_loadN (us := [_, _, _, _]) ts45 rfl (Cells.box (id := 0) rfl 4 rfl)) rfl (oG rfl hy7 (fA 8 Tryz.underlying47 rfl ts3 rfl rfl rfl) rfl (oG rfl hy7 (lB 0 ts3 rfl rfl rfl) rfl (ow_eff (.some rfl hy7) (stpU_call (fun i => 1 + i) cf141 (fun w hw => c_i_Tags_own fl w a0.g p0_3 ((a0.g.o).length) c0_3 a0.s rfl (RO.pass hr0_3 hw) x8 e8) (sevs_cons rfl (sevs_cons rfl sevs_nil))) rfl ?_))))
          rintro _ _ ⟨_, ⟨rfl, rfl⟩, rfl⟩
          refine oG rfl hy7 (stp_lss rfl rfl) rfl (oD (stp_pick_f rfl hy7 rfl) rfl ?_)
          obtain rfl := Option.some.inj ey7
          exact ow_nil (jy 7 0)
      · refine ow_nil (kw_nx (cw_cond rfl (fun h9 => ?_) (fun h9 => ?_)))
        · have H0 := cond_t H0 h9
          refine sr (oD (sg rfl) rfl (nn (cw_ret (kw_nx_ret ?_))))
          have q0 := Option.some.inj H0
          subst q0
          exact kw_ret Tryz.results60 (.cons (.tmp rfl) .nil) [] [] trivial (by decide) ⟨rfl, rfl⟩
        · have H0 := cond_f H0 h9
          obtain ⟨o0_0, eo0_0, H0⟩ := bind_some H0
          refine cw_skip (kw_nx (cw_seq (sr (oD (fA 0 Tryz.underlying47 rfl ts39 rfl rfl rfl) rfl (oD (fA 1 Tryz.underlying39 rfl ts37 rfl rfl rfl) rfl (oD (lB 0 ts37 rfl rfl rfl) rfl (oD (stp_len Tryz.underlying37 rfl) rfl (oD (mv rfl) rfl (nn (cw_join (ι := Int) (fun | v10 => o0_0 = .out v10) (fun | v10 => [(1, .pointer (some ⟨b1, 0, none⟩)), (38, .slice p0_1 ((a0.t.f).length) c0_1), (39, .int .i64 ((a0.t.f).length : Int)), (40, .int .i64 v10)]) (fun | v10 => [(0, [(b1, .cells #[.slice p0_0 ((a0.t.b).length) c0_0, .slice p0_1 ((a0.t.f).length) c0_1, .slice p0_2 ((a0.c.l).length) c0_2, .int .i64 a0.c.h, .int .i64 a0.g.c, .int .i64 a0.g.n, .int .i64 a0.g.r, .slice p0_3 ((a0.g.o).length) c0_3, .int .i64 a0.s] 47 (0, 0))])]) ?_ ?_))))))))))
          · refine cw_block (cw_loopS (ι := Nat × Int) (js := [0]) (fun x => x.1) (fun | (fuel, v10) => i_MachineValid_L0 fl a0 fuel v10 = some o0_0) (fun | (_, v10) => [(1, .pointer (some ⟨b1, 0, none⟩)), (38, .slice p0_1 ((a0.t.f).length) c0_1), (39, .int .i64 ((a0.t.f).length : Int)), (40, .int .i64 v10)]) (fun | (_, v10) => [(0, [(b1, .cells #[.slice p0_0 ((a0.t.b).length) c0_0, .slice p0_1 ((a0.t.f).length) c0_1, .slice p0_2 ((a0.c.l).length) c0_2, .int .i64 a0.c.h, .int .i64 a0.g.c, .int .i64 a0.g.n, .int .i64 a0.g.r, .slice p0_3 ((a0.g.o).length) c0_3, .int .i64 a0.s] 47 (0, 0))])]) (fl, 0) eo0_0 ⟨rfl, rfl, rfl, rfl, trivial⟩ ⟨0, [], rfl, rfl, trivial⟩ (by decide) ?_)
            rintro ⟨fuel, v10⟩ H1
            have H1 : i_MachineValid_L0 fl a0 fuel v10 = some o0_0 := H1
            rcases fuel with _ | fuel
            · rw [i_MachineValid_L0.eq_1] at H1; cases H1
            rw [i_MachineValid_L0.eq_2] at H1
            refine CW.sub (s' := [(1, .pointer (some ⟨b1, 0, none⟩)), (38, .slice p0_1 ((a0.t.f).length) c0_1), (39, .int .i64 ((a0.t.f).length : Int)), (40, .int .i64 v10)]) (h' := [(0, [(b1, .cells #[.slice p0_0 ((a0.t.b).length) c0_0, .slice p0_1 ((a0.t.f).length) c0_1, .slice p0_2 ((a0.c.l).length) c0_2, .int .i64 a0.c.h, .int .i64 a0.g.c, .int .i64 a0.g.n, .int .i64 a0.g.r, .slice p0_3 ((a0.g.o).length) c0_3, .int .i64 a0.s] 47 (0, 0))])]) ?_ ⟨rfl, rfl, rfl, rfl, trivial⟩ ⟨rfl, trivial⟩
            refine sr (oD (stp_lss rfl rfl) rfl (nn (cw_seq (cw_cond rfl (fun h11 => ?_) (fun h11 => ?_)))))
            · have H1 := cond_t H1 h11
              obtain ⟨x12, e12, H1⟩ := bind_some H1
              refine cw_skip (kw_nx (cw_seq (cw_block (sr (oD (stp_indexAddr Tryz.underlying37 ts127 (by decide) rfl rfl rfl (Rdb.ro hr0_1) e12) rfl (oD (stp_loadN (us := [_, _, _, _, _]) ts127 rfl (Cells.el (Rdb.ro hr0_1) (by decide) e12 0 5 rfl)) rfl (oE (stpU_alloc 1 tz127 rfl) rfl ?_)))))))
              rintro _ _ ⟨b13, rfl, rfl⟩
              refine oF (stpU_store (id := 1) (cs' := [.bool x12.u, .int .i64 x12.k.s, .int .i64 x12.k.p, .int .i64 x12.r, .int .i64 x12.nx]) ts127 rfl rfl rfl rfl rfl rfl rfl) ?_
              rintro _ _ rfl
              obtain ⟨y14, ey14, H1⟩ := bind_some H1
              refine nn (sr (oD (fA 0 Tryz.underlying127 rfl ts4 rfl rfl rfl) rfl (oD (lB 1 ts4 rfl rfl rfl) rfl (oD (mv rfl) rfl (ow_cutY 5 51 y14 ?_ ?_)))))
              · rcases Bool.eq_false_or_eq_true x12.u with hy14 | hy14
                · have ey14 := cond_t ey14 hy14
                  refine oG rfl hy14 (fA 1 Tryz.underlying127 rfl ts51 rfl rfl rfl) rfl (oG rfl hy14 (fA 1 Tryz.underlying51 rfl ts3 rfl rfl rfl) rfl (oG rfl hy14 (lB 1 ts3 rfl rfl rfl) rfl (oG rfl hy14 (stp_geq rfl rfl) rfl (oD (stp_pick_t rfl hy14 rfl) rfl ?_))))
                  obtain rfl := Option.some.inj ey14
                  exact ow_nil (jy 5 0)
                · have ey14 := cond_f ey14 hy14
                  refine oO rfl hy14 rfl (oO rfl hy14 rfl (oO rfl hy14 rfl (oO rfl hy14 rfl (oD (stp_pick_f rfl hy14 rfl) rfl ?_))))
                  obtain rfl := Option.some.inj ey14
                  exact ow_nil (jy 5 0)
              · obtain ⟨y15, ey15, H1⟩ := bind_some H1
                refine oD (mv rfl) rfl (ow_cutY 5 57 y15 ?_ ?_)
                · rcases Bool.eq_false_or_eq_true y14 with hy15 | hy15
                  · have ey15 := cond_t ey15 hy15
                    refine oG rfl hy15 (fA 1 Tryz.underlying127 rfl ts51 rfl rfl rfl) rfl (oG rfl hy15 (fA 0 Tryz.underlying51 rfl ts3 rfl rfl rfl) rfl (oG rfl hy15 (lB 1 ts3 rfl rfl rfl) rfl (oG rfl hy15 (stp_neq rfl rfl) rfl (oD (stp_pick_t rfl hy15 rfl) rfl ?_))))
                    obtain rfl := Option.some.inj ey15
                    exact ow_nil (jy 5 0)
                  · have ey15 := cond_f ey15 hy15
                    refine oO rfl hy15 rfl (oO rfl hy15 rfl (oO rfl hy15 rfl (oO rfl hy15 rfl (oD (stp_pick_f rfl hy15 rfl) rfl ?_))))
                    obtain rfl := Option.some.inj ey15
                    exact ow_nil (jy 5 0)
                · refine ow_nil (kw_nx (cw_cond rfl (fun h16 => ?_) (fun h16 => ?_)))
                  · have H1 := cond_t H1 h16
                    refine sr (oD (sg rfl) rfl (nn (cw_ret (kw_bl_ret (kw_nx_ret (kw_lq_ret (kw_bl_ret (kw_join_ret (kw_nx_ret ?_)))))))))
                    have q1 := Option.some.inj H1
                    subst q1
                    have q0 := Option.some.inj H0
                    subst q0
                    exact kw_ret Tryz.results60 (.cons (.tmp rfl) .nil) [] [] trivial (by decide) ⟨rfl, rfl⟩
                  · have H1 := cond_f H1 h16
                    obtain ⟨x17, e17, H1⟩ := bind_some H1
                    exact cw_skip (kw_bl_normal (kw_nx (cw_region (oD (stp_add rfl rfl e17) rfl (oD (mv rfl) rfl (ow_nil (kw_lqS (js := [0]) (fuel, x17) H1 (Nat.lt_succ_self _) ⟨rfl, rfl, rfl, rfl, trivial⟩ ⟨0, [], rfl, rfl, trivial⟩ (by decide))))))))
            · have H1 := cond_f H1 h11
              refine cw_exit (kw_nx_exit (kw_lq_exit (kw_bl ?_)))
              have q1 := Option.some.inj H1
              subst q1
              exact kw_joinS (js := [0]) v10 rfl ⟨rfl, rfl, rfl, rfl, trivial⟩ ⟨0, [], rfl, rfl, trivial⟩ (by decide)
          · rintro v10 rfl
            refine KW.sub (s' := [(1, .pointer (some ⟨b1, 0, none⟩)), (38, .slice p0_1 ((a0.t.f).length) c0_1), (39, .int .i64 ((a0.t.f).length : Int)), (40, .int .i64 v10)]) (h' := [(0, [(b1, .cells #[.slice p0_0 ((a0.t.b).length) c0_0, .slice p0_1 ((a0.t.f).length) c0_1, .slice p0_2 ((a0.c.l).length) c0_2, .int .i64 a0.c.h, .int .i64 a0.g.c, .int .i64 a0.g.n, .int .i64 a0.g.r, .slice p0_3 ((a0.g.o).length) c0_3, .int .i64 a0.s] 47 (0, 0))])]) ?_ ⟨rfl, rfl, rfl, rfl, trivial⟩ ⟨rfl, trivial⟩
            obtain ⟨o0_1, eo0_1, H0⟩ := bind_some H0
            refine kw_nx (cw_seq (sr (oD (fA 2 Tryz.underlying47 rfl ts42 rfl rfl rfl) rfl (oD (fA 0 Tryz.underlying42 rfl ts40 rfl rfl rfl) rfl (oD (lB 0 ts40 rfl rfl rfl) rfl (oD (stp_len Tryz.underlying40 rfl) rfl (oD (mv rfl) rfl (nn (cw_join (ι := Int) (fun | v18 => o0_1 = .out v18) (fun | v18 => [(1, .pointer (some ⟨b1, 0, none⟩)), (61, .slice p0_2 ((a0.c.l).length) c0_2), (62, .int .i64 ((a0.c.l).length : Int)), (63, .int .i64 v18)]) (fun | v18 => [(0, [(b1, .cells #[.slice p0_0 ((a0.t.b).length) c0_0, .slice p0_1 ((a0.t.f).length) c0_1, .slice p0_2 ((a0.c.l).length) c0_2, .int .i64 a0.c.h, .int .i64 a0.g.c, .int .i64 a0.g.n, .int .i64 a0.g.r, .slice p0_3 ((a0.g.o).length) c0_3, .int .i64 a0.s] 47 (0, 0))])]) ?_ ?_)))))))))
            · refine cw_block (cw_loopS (ι := Nat × Int) (js := [0]) (fun x => x.1) (fun | (fuel, v18) => i_MachineValid_L1 fl a0 fuel v18 = some o0_1) (fun | (_, v18) => [(1, .pointer (some ⟨b1, 0, none⟩)), (61, .slice p0_2 ((a0.c.l).length) c0_2), (62, .int .i64 ((a0.c.l).length : Int)), (63, .int .i64 v18)]) (fun | (_, v18) => [(0, [(b1, .cells #[.slice p0_0 ((a0.t.b).length) c0_0, .slice p0_1 ((a0.t.f).length) c0_1, .slice p0_2 ((a0.c.l).length) c0_2, .int .i64 a0.c.h, .int .i64 a0.g.c, .int .i64 a0.g.n, .int .i64 a0.g.r, .slice p0_3 ((a0.g.o).length) c0_3, .int .i64 a0.s] 47 (0, 0))])]) (fl, 0) eo0_1 ⟨rfl, rfl, rfl, rfl, trivial⟩ ⟨0, [], rfl, rfl, trivial⟩ (by decide) ?_)
              rintro ⟨fuel, v18⟩ H1
              have H1 : i_MachineValid_L1 fl a0 fuel v18 = some o0_1 := H1
              rcases fuel with _ | fuel
              · rw [i_MachineValid_L1.eq_1] at H1; cases H1
              rw [i_MachineValid_L1.eq_2] at H1
              refine CW.sub (s' := [(1, .pointer (some ⟨b1, 0, none⟩)), (61, .slice p0_2 ((a0.c.l).length) c0_2), (62, .int .i64 ((a0.c.l).length : Int)), (63, .int .i64 v18)]) (h' := [(0, [(b1, .cells #[.slice p0_0 ((a0.t.b).length) c0_0, .slice p0_1 ((a0.t.f).length) c0_1, .slice p0_2 ((a0.c.l).length) c0_2, .int .i64 a0.c.h, .int .i64 a0.g.c, .int .i64 a0.g.n, .int .i64 a0.g.r, .slice p0_3 ((a0.g.o).length) c0_3, .int .i64 a0.s] 47 (0, 0))])]) ?_ ⟨rfl, rfl, rfl, rfl, trivial⟩ ⟨rfl, trivial⟩
              refine sr (oD (stp_lss rfl rfl) rfl (nn (cw_seq (cw_cond rfl (fun h19 => ?_) (fun h19 => ?_)))))
              · have H1 := cond_t H1 h19
                obtain ⟨x20, e20, H1⟩ := bind_some H1
                refine cw_skip (kw_nx (cw_seq (cw_block (sr (oD (stp_indexAddr Tryz.underlying40 ts112 (by decide) rfl rfl rfl (Rdb.ro hr0_2) e20) rfl (oD (stp_loadN (us := [_, _, _, _, _, _]) ts112 rfl (Cells.el (Rdb.ro hr0_2) (by decide) e20 0 6 rfl)) rfl (oE (stpU_alloc 2 tz112 rfl) rfl ?_)))))))
                rintro _ _ ⟨b21, rfl, rfl⟩
                refine oF (stpU_store (id := 2) (cs' := [.bool x20.va, .int .i64 x20.tg, .int .i64 x20.pg, .int .i64 x20.fr, .int .i64 x20.ri, .bool x20.wi]) ts112 rfl rfl rfl rfl rfl rfl rfl) ?_
                rintro _ _ rfl
                refine nn (cw_seq (sr (oD (fA 0 Tryz.underlying112 rfl ts4 rfl rfl rfl) rfl (oD (lB 2 ts4 rfl rfl rfl) rfl (oD (stp_not rfl) rfl (nn (cw_cond rfl (fun h22 => ?_) (fun h22 => ?_))))))))
                · have H1 := cond_t H1 h22
                  obtain ⟨x23, e23, H1⟩ := bind_some H1
                  exact cw_exit (kw_nx_exit (kw_bl (kw_nx (cw_region (oD (stp_add rfl rfl e23) rfl (oD (mv rfl) rfl (ow_nil (kw_lqS (js := [0]) (fuel, x23) H1 (Nat.lt_succ_self _) ⟨rfl, rfl, rfl, rfl, trivial⟩ ⟨0, [], rfl, rfl, trivial⟩ (by decide)))))))))
                · have H1 := cond_f H1 h22
                  refine cw_skip (kw_nx (sr (oD (fA 2 Tryz.underlying112 rfl ts3 rfl rfl rfl) rfl (oD (lB 2 ts3 rfl rfl rfl) rfl (oD (stp_geq rfl rfl) rfl (oD (sg rfl) rfl (nn (cw_seq (sr (oD (mv rfl) rfl (oD (fA 1 Tryz.underlying112 rfl ts3 rfl rfl rfl) rfl (oD (lB 2 ts3 rfl rfl rfl) rfl (oD (stp_eql rfl rfl) rfl ?_)))))))))))))
                  obtain ⟨y24, ey24, H1⟩ := bind_some H1
                  refine oD (stp_neqB Tryz.underlying4 rfl rfl) rfl (oD (mv rfl) rfl (ow_cutY 7 85 y24 ?_ ?_))
                  · rcases Bool.eq_false_or_eq_true ((decide (128 ≤ x20.pg)) != (x20.tg == (-1))) with hy24 | hy24
                    · have ey24 := cond_t ey24 hy24
                      refine oO rfl hy24 rfl (oO rfl hy24 rfl (oO rfl hy24 rfl (oX rfl rfl rfl (oX rfl rfl rfl (oO rfl hy24 rfl (oD (stp_pick_t rfl hy24 rfl) rfl ?_))))))
                      obtain rfl := Option.some.inj ey24
                      exact ow_nil (jy 7 0)
                    · have ey24 := cond_f ey24 hy24
                      obtain ⟨y25, ey25, ey24⟩ := bind_some ey24
                      refine oG rfl hy24 (fA 5 Tryz.underlying112 rfl ts4 rfl rfl rfl) rfl (oG rfl hy24 (lB 2 ts4 rfl rfl rfl) rfl (oG rfl hy24 (mv rfl) rfl (ow_cutY 3 84 y25 ?_ ?_)))
                      · rcases Bool.eq_false_or_eq_true x20.wi with hy25 | hy25
                        · have ey25 := cond_t ey25 hy25
                          refine oG rfl hy25 (mv rfl) rfl (oG rfl hy25 (stp_not rfl) rfl (oG rfl hy24 (stp_pick_t rfl hy25 rfl) rfl ?_))
                          obtain rfl := Option.some.inj ey25
                          exact ow_nil (jy 3 0)
                        · have ey25 := cond_f ey25 hy25
                          refine oO rfl hy25 rfl (oO rfl hy25 rfl (oG rfl hy24 (stp_pick_f rfl hy25 rfl) rfl ?_))
                          obtain rfl := Option.some.inj ey25
                          exact ow_nil (jy 3 0)
                      · refine oD (stp_pick_f rfl hy24 rfl) rfl ?_
                        obtain rfl := Option.some.inj ey24
                        exact ow_nil (jy 5 0)
                  · refine ow_nil (kw_nx (cw_cond rfl (fun h26 => ?_) (fun h26 => ?_)))
                    · have H1 := cond_t H1 h26
                      refine sr (oD (sg rfl) rfl (nn (cw_ret (kw_nx_ret (kw_bl_ret (kw_nx_ret (kw_lq_ret (kw_bl_ret (kw_join_ret (kw_nx_ret ?_))))))))))
                      have q1 := Option.some.inj H1
                      subst q1
                      have q0 := Option.some.inj H0
                      subst q0
                      exact kw_ret Tryz.results60 (.cons (.tmp rfl) .nil) [] [] trivial (by decide) ⟨rfl, rfl⟩
                    · have H1 := cond_f H1 h26
                      refine cw_skip (kw_nx (sr (oD (sg rfl) rfl (nn (cw_seq (sr (oD (mv rfl) rfl (oD (stp_not rfl) rfl (nn (cw_cond rfl (fun h27 => ?_) (fun h27 => ?_)))))))))))
                      · have H1 := cond_t H1 h27
                        obtain ⟨x28, e28, H1⟩ := bind_some H1
                        refine sr (oD (fA 4 Tryz.underlying47 rfl ts45 rfl rfl rfl) rfl (oD (stp_loadN (us := [_, _, _, _]) ts45 rfl (Cells.box (id := 0) rfl 4 rfl)) rfl (oD (fA 1 Tryz.underlying112 rfl ts3 rfl rfl rfl) rfl (oD (lB 2 ts3 rfl rfl rfl) rfl (oE (stpU_call (fun i => 3 + i) cf142 (fun w hw => c_i_SpaceOf fl w a0.g p0_3 ((a0.g.o).length) c0_3 x20.tg rfl (RO.pass hr0_3 hw) x28 e28) (sevs_cons rfl (sevs_cons rfl sevs_nil))) rfl ?_)))))
                        rintro _ _ ⟨_, ⟨rfl, rfl⟩, rfl⟩
                        refine oD (mv rfl) rfl (oD (stp_extract rfl rfl) rfl (oD (stp_extract rfl rfl) rfl (oD (sg rfl) rfl (oD (sg rfl) rfl (nn (cw_seq (sr (oD (mv rfl) rfl (oD (stp_not rfl) rfl (nn (cw_cond rfl (fun h29 => ?_) (fun h29 => ?_))))))))))))
                        · have H1 := cond_t H1 h29
                          refine sr (oD (sg rfl) rfl (nn (cw_ret (kw_nx_ret (kw_nx_ret (kw_bl_ret (kw_nx_ret (kw_lq_ret (kw_bl_ret (kw_join_ret (kw_nx_ret ?_)))))))))))
                          have q1 := Option.some.inj H1
                          subst q1
                          have q0 := Option.some.inj H0
                          subst q0
                          exact kw_ret Tryz.results60 (.cons (.tmp rfl) .nil) [] [] trivial (by decide) ⟨rfl, rfl⟩
                        · have H1 := cond_f H1 h29
                          obtain ⟨x30, e30, H1⟩ := bind_some H1
                          obtain ⟨x31, e31, H1⟩ := bind_some H1
                          refine cw_skip (kw_nx (cw_region (oD (mv rfl) rfl (oD (sg rfl) rfl (nn (cw_seq (rdr g_mixed [1, 6, 8] [0, 2] { dst := dS [100, 101, 102, 103, 104, 105, 106, 12], pre := gA [] [[], [0], [], [], [3], [2, 3, 4], rn 0 6, rn 0 7], ids := fun _ => [], rs := rL [[(1, 0)], [(99, 1)], [(8, 0)], [(6, 0)], [(102, 4)], [(101, 3), (103, 5)], [(100, 2), (104, 6)], [(105, 7)]], rh := rL [[], [(0, 0)], [], [], [(2, 0)]], V := fun i g => gA undef [.pointer (some ⟨b1, 0, none⟩), .agg #[.slice p0_0 ((a0.t.b).length) c0_0, .slice p0_1 ((a0.t.f).length) c0_1], .int .i64 x28.1, .pointer (some ⟨b21, 2, none⟩), .int .i64 x20.pg, .agg #[.int .i64 x30.s, .int .i64 x30.p], .int .i64 x31, .int .i64 x31] i, U := fun _ _ => [], Φ := fun _ _ => True } ?_ ?_)))))))
                          · refine ⟨⟨⟨⟨⟨⟨⟨⟨trivial, lc rfl rfl fun hs hh => stp_fieldAddr (j := 0) Tryz.underlying47 rfl ts39 rfl (sv hs 1 rfl) rfl⟩, lc rfl rfl fun hs hh => stp_loadN (us := [_, _]) ts39 (sv hs 99 rfl) (Cells.box (id := 0) (hh.get 0 _ rfl) 2 rfl)⟩, lc rfl rfl fun hs hh => stp_move (sv hs 8 rfl)⟩, lc rfl rfl fun hs hh => stp_fieldAddr (j := 2) Tryz.underlying112 rfl ts3 rfl (sv hs 6 rfl) rfl⟩, lc rfl rfl fun hs hh => stp_load1 ts3 (sv hs 102 rfl) (Cells.box (id := 2) (hh.get 2 _ rfl) 1 rfl)⟩, ?_⟩, ?_⟩, lc rfl rfl fun hs hh => stp_assign (sv hs 105 rfl)⟩
                            · refine le rfl rfl (fun g hΦ s h hs hh => (stpU_call (fun i => 3 + i) cf61 (fun w hw => c_i_KeyFor fl w x28.1 x20.pg x30 e30) (sevs_cons (sv hs 101 rfl) (sevs_cons (sv hs 103 rfl) sevs_nil)))) ?_
                              rintro g _ _ ⟨_, ⟨rfl, rfl⟩, rfl⟩
                              exact ⟨⟨[], [], []⟩, trivial, .inr rfl, rfl⟩
                            · refine le rfl rfl (fun g hΦ s h hs hh => (stpU_call (fun i => 3 + i) cf94 (fun w hw => c_i_Table_find fl w a0.t p0_0 ((a0.t.b).length) c0_0 p0_1 ((a0.t.f).length) c0_1 x30 rfl (RO.pass hr0_0 hw) rfl (RO.pass hr0_1 hw) x31 e31) (sevs_cons (sv hs 100 rfl) (sevs_cons (sv hs 104 rfl) sevs_nil)))) ?_
                              rintro g _ _ ⟨_, ⟨rfl, rfl⟩, rfl⟩
                              exact ⟨⟨[], [], []⟩, trivial, .inr rfl, rfl⟩
                          · intro g hΦ
                            refine KW.sub (s' := [(1, .pointer (some ⟨b1, 0, none⟩)), (6, .pointer (some ⟨b21, 0, none⟩)), (11, .int .i64 x31), (61, .slice p0_2 ((a0.c.l).length) c0_2), (62, .int .i64 ((a0.c.l).length : Int)), (63, .int .i64 v18)]) (h' := [(0, [(b1, .cells #[.slice p0_0 ((a0.t.b).length) c0_0, .slice p0_1 ((a0.t.f).length) c0_1, .slice p0_2 ((a0.c.l).length) c0_2, .int .i64 a0.c.h, .int .i64 a0.g.c, .int .i64 a0.g.n, .int .i64 a0.g.r, .slice p0_3 ((a0.g.o).length) c0_3, .int .i64 a0.s] 47 (0, 0))]), (2, [(b21, .cells #[.bool x20.va, .int .i64 x20.tg, .int .i64 x20.pg, .int .i64 x20.fr, .int .i64 x20.ri, .bool x20.wi] 112 (0, 0))])]) ?_ ⟨rfl, rfl, rfl, rfl, rfl, rfl, trivial⟩ ⟨rfl, rfl, trivial⟩
                            obtain ⟨y32, ey32, H1⟩ := bind_some H1
                            obtain ⟨y33, ey33, H1⟩ := bind_some H1
                            refine kw_nx (cw_seq (cw_join (ι := Unit) (fun | _ => True) (fun | _ => [(1, .pointer (some ⟨b1, 0, none⟩)), (61, .slice p0_2 ((a0.c.l).length) c0_2), (62, .int .i64 ((a0.c.l).length : Int)), (63, .int .i64 v18), (125, .bool y33)]) (fun | _ => [(0, [(b1, .cells #[.slice p0_0 ((a0.t.b).length) c0_0, .slice p0_1 ((a0.t.f).length) c0_1, .slice p0_2 ((a0.c.l).length) c0_2, .int .i64 a0.c.h, .int .i64 a0.g.c, .int .i64 a0.g.n, .int .i64 a0.g.r, .slice p0_3 ((a0.g.o).length) c0_3, .int .i64 a0.s] 47 (0, 0))])]) ?_ ?_))
                            · rcases Bool.eq_false_or_eq_true (decide (x31 < 0)) with hy32 | hy32
                              · have ey32 := cond_t ey32 hy32
                                have qy32 := Option.some.inj ey32
                                have hy33 : y32 = true := by rw [← qy32]
                                have ey33 := cond_t ey33 hy33
                                have qy33 := Option.some.inj ey33
                                refine rdr g_mixed [11] [] { dst := dS [107, 108, 109, 110, 111, 112, 113, 114, 115, 116, 117, 118, 119, 120, 121, 122, 123, 124, 125, 126], pre := gA [] [[], [0], [0, 1], [0, 1, 2], [0, 1, 2], [0, 1, 2, 4], rn 0 6, rn 0 7, rn 0 8, rn 0 9, rn 0 10, rn 0 11, rn 0 9, rn 0 13, rn 0 14, rn 0 15, rn 0 9, [0, 1, 2, 3, 4, 5, 6, 7, 8, 16], rn 0 18, rn 0 19], ids := fun _ => [], rs := rL [[(11, 0)], [(106, 1)], [(107, 2)], [(108, 3)], [(108, 3)], [(108, 3)], [(108, 3)], [(108, 3), (112, 7)], [(113, 8)], [(114, 9)], [(114, 9)], [(114, 9)], [(114, 9)], [(114, 9)], [(114, 9)], [(114, 9)], [(114, 9)], [(114, 9)], [(114, 9)], [(114, 9), (124, 19)]], rh := fun _ => [], V := fun i g => gA undef [.int .i64 x31, .bool (decide (x31 < 0)), .bool (decide (x31 < 0)), undef, undef, undef, undef, .bool y32, .bool y32, undef, undef, undef, undef, undef, undef, undef, undef, undef, undef, .bool y33] i, U := fun _ _ => [], Φ := fun _ _ => True } ?_ ?_
                                · exact ⟨⟨⟨⟨⟨⟨⟨⟨⟨⟨⟨⟨⟨⟨⟨⟨⟨⟨⟨⟨trivial, lc rfl rfl fun hs hh => stp_move (sv hs 11 rfl)⟩, lc rfl rfl fun hs hh => stp_lss (sv hs 106 rfl) rfl⟩, lc rfl rfl fun hs hh => stp_move (sv hs 107 rfl)⟩, lo rfl rfl 108 hy32⟩, lo rfl rfl 108 hy32⟩, lo rfl rfl 108 hy32⟩, lo rfl rfl 108 hy32⟩, lc rfl rfl fun hs hh => stp_pick_tB (sv hs 108 rfl) hy32 rfl qy32⟩, lc rfl rfl fun hs hh => stp_move (sv hs 113 rfl)⟩, lo rfl rfl 114 hy33⟩, lo rfl rfl 114 hy33⟩, lo rfl rfl 114 hy33⟩, lo rfl rfl 114 hy33⟩, lo rfl rfl 114 hy33⟩, lo rfl rfl 114 hy33⟩, lo rfl rfl 114 hy33⟩, lo rfl rfl 114 hy33⟩, lo rfl rfl 114 hy33⟩, lo rfl rfl 114 hy33⟩, lc rfl rfl fun hs hh => stp_pick_tB (sv hs 114 rfl) hy33 rfl qy33⟩
                                · intro g hΦ
                                  exact kw_join () trivial ⟨rfl, rfl, rfl, rfl, rfl, trivial⟩ ⟨rfl, trivial⟩
                              · have ey32 := cond_f ey32 hy32
                                have qy32 := Option.some.inj ey32
                                rcases Bool.eq_false_or_eq_true y32 with hy33 | hy33
                                · have ey33 := cond_t ey33 hy33
                                  have qy33 := Option.some.inj ey33
                                  refine rdr g_mixed [6, 11] [2] { dst := dS [107, 108, 109, 110, 111, 112, 113, 114, 115, 116, 117, 118, 119, 120, 121, 122, 123, 124, 125, 126], pre := gA [] [[], [0], [0, 1], [0, 1, 2], [0, 1, 2], [0, 1, 2, 4], rn 0 6, rn 0 7, rn 0 8, rn 0 9, rn 0 10, rn 0 11, rn 0 9, rn 0 13, rn 0 14, rn 0 15, rn 0 9, [0, 1, 2, 3, 4, 5, 6, 7, 8, 16], rn 0 18, rn 0 19], ids := fun _ => [], rs := rL [[(11, 0)], [(106, 1)], [(107, 2)], [(11, 0), (108, 3)], [(6, 0), (108, 3)], [(110, 5), (108, 3)], [(109, 4), (111, 6), (108, 3)], [(108, 3), (112, 7)], [(113, 8)], [(114, 9)], [(114, 9)], [(114, 9)], [(114, 9)], [(114, 9)], [(114, 9)], [(114, 9)], [(114, 9)], [(114, 9)], [(114, 9)], [(114, 9), (124, 19)]], rh := rL [[], [], [], [], [], [(2, 0)]], V := fun i g => gA undef [.int .i64 x31, .bool (decide (x31 < 0)), .bool (decide (x31 < 0)), .int .i64 x31, .pointer (some ⟨b21, 3, none⟩), .int .i64 x20.fr, .bool (x31 != x20.fr), .bool y32, .bool y32, undef, undef, undef, undef, undef, undef, undef, undef, undef, undef, .bool y33] i, U := fun _ _ => [], Φ := fun _ _ => True } ?_ ?_
                                  · exact ⟨⟨⟨⟨⟨⟨⟨⟨⟨⟨⟨⟨⟨⟨⟨⟨⟨⟨⟨⟨trivial, lc rfl rfl fun hs hh => stp_move (sv hs 11 rfl)⟩, lc rfl rfl fun hs hh => stp_lss (sv hs 106 rfl) rfl⟩, lc rfl rfl fun hs hh => stp_move (sv hs 107 rfl)⟩, lg rfl rfl 108 hy32 fun hs hh => stp_move (sv hs 11 rfl)⟩, lg rfl rfl 108 hy32 fun hs hh => stp_fieldAddr (j := 3) Tryz.underlying112 rfl ts3 rfl (sv hs 6 rfl) rfl⟩, lg rfl rfl 108 hy32 fun hs hh => stp_load1 ts3 (sv hs 110 rfl) (Cells.box (id := 2) (hh.get 2 _ rfl) 1 rfl)⟩, lg rfl rfl 108 hy32 fun hs hh => stp_neq (sv hs 109 rfl) (sv hs 111 rfl)⟩, lc rfl rfl fun hs hh => stp_pick_fB (sv hs 108 rfl) hy32 (sv hs 112 rfl) qy32⟩, lc rfl rfl fun hs hh => stp_move (sv hs 113 rfl)⟩, lo rfl rfl 114 hy33⟩, lo rfl rfl 114 hy33⟩, lo rfl rfl 114 hy33⟩, lo rfl rfl 114 hy33⟩, lo rfl rfl 114 hy33⟩, lo rfl rfl 114 hy33⟩, lo rfl rfl 114 hy33⟩, lo rfl rfl 114 hy33⟩, lo rfl rfl 114 hy33⟩, lo rfl rfl 114 hy33⟩, lc rfl rfl fun hs hh => stp_pick_tB (sv hs 114 rfl) hy33 rfl qy33⟩
                                  · intro g hΦ
                                    exact kw_join () trivial ⟨rfl, rfl, rfl, rfl, rfl, trivial⟩ ⟨rfl, trivial⟩
                                · have ey33 := cond_f ey33 hy33
                                  obtain ⟨x34, e34, ey33⟩ := bind_some ey33
                                  have qy33 := Option.some.inj ey33
                                  refine rdr g_mixed [1, 6, 11] [0, 2] { dst := dS [107, 108, 109, 110, 111, 112, 113, 114, 115, 116, 117, 118, 119, 120, 121, 122, 123, 124, 125, 126], pre := gA [] [[], [0], [0, 1], [0, 1, 2], [0, 1, 2], [0, 1, 2, 4], rn 0 6, rn 0 7, rn 0 8, rn 0 9, rn 0 10, rn 0 11, rn 0 9, rn 0 13, rn 0 14, rn 0 15, rn 0 9, [0, 1, 2, 3, 4, 5, 6, 7, 8, 16], rn 0 18, rn 0 19], ids := fun _ => [], rs := rL [[(11, 0)], [(106, 1)], [(107, 2)], [(11, 0), (108, 3)], [(6, 0), (108, 3)], [(110, 5), (108, 3)], [(109, 4), (111, 6), (108, 3)], [(108, 3), (112, 7)], [(113, 8)], [(1, 0), (114, 9)], [(115, 10), (114, 9)], [(116, 11), (114, 9)], [(11, 0), (114, 9)], [(117, 12), (118, 13), (114, 9)], [(119, 14), (114, 9)], [(120, 15), (114, 9)], [(6, 0), (114, 9)], [(122, 17), (114, 9)], [(121, 16), (123, 18), (114, 9)], [(114, 9), (124, 19)]], rh := rL [[], [], [], [], [], [(2, 0)], [], [], [], [], [], [(0, 0)], [], [], [], [], [], [(2, 0)]], V := fun i g => gA undef [.int .i64 x31, .bool (decide (x31 < 0)), .bool (decide (x31 < 0)), .int .i64 x31, .pointer (some ⟨b21, 3, none⟩), .int .i64 x20.fr, .bool (x31 != x20.fr), .bool y32, .bool y32, .pointer (some ⟨b1, 0, none⟩), .pointer (some ⟨b1, 1, none⟩), .slice p0_1 ((a0.t.f).length) c0_1, .int .i64 x31, .pointer (some ⟨eB p0_1, eO p0_1 + Int.toNat x31 * Enc.sz F + 0, none⟩), .pointer (some ⟨eB p0_1, eO p0_1 + Int.toNat x31 * Enc.sz F + 3, none⟩), .int .i64 x34.r, .pointer (some ⟨b21, 4, none⟩), .int .i64 x20.ri, .bool (x34.r != x20.ri), .bool y33] i, U := fun _ _ => [], Φ := fun _ _ => True } ?_ ?_
                                  · exact ⟨⟨⟨⟨⟨⟨⟨⟨⟨⟨⟨⟨⟨⟨⟨⟨⟨⟨⟨⟨trivial, lc rfl rfl fun hs hh => stp_move (sv hs 11 rfl)⟩, lc rfl rfl fun hs hh => stp_lss (sv hs 106 rfl) rfl⟩, lc rfl rfl fun hs hh => stp_move (sv hs 107 rfl)⟩, lg rfl rfl 108 hy32 fun hs hh => stp_move (sv hs 11 rfl)⟩, lg rfl rfl 108 hy32 fun hs hh => stp_fieldAddr (j := 3) Tryz.underlying112 rfl ts3 rfl (sv hs 6 rfl) rfl⟩, lg rfl rfl 108 hy32 fun hs hh => stp_load1 ts3 (sv hs 110 rfl) (Cells.box (id := 2) (hh.get 2 _ rfl) 1 rfl)⟩, lg rfl rfl 108 hy32 fun hs hh => stp_neq (sv hs 109 rfl) (sv hs 111 rfl)⟩, lc rfl rfl fun hs hh => stp_pick_fB (sv hs 108 rfl) hy32 (sv hs 112 rfl) qy32⟩, lc rfl rfl fun hs hh => stp_move (sv hs 113 rfl)⟩, lg rfl rfl 114 hy33 fun hs hh => stp_fieldAddr (j := 0) Tryz.underlying47 rfl ts39 rfl (sv hs 1 rfl) rfl⟩, lg rfl rfl 114 hy33 fun hs hh => stp_fieldAddr (j := 1) Tryz.underlying39 rfl ts37 rfl (sv hs 115 rfl) rfl⟩, lg rfl rfl 114 hy33 fun hs hh => stp_load1 ts37 (sv hs 116 rfl) (Cells.box (id := 0) (hh.get 0 _ rfl) 1 rfl)⟩, lg rfl rfl 114 hy33 fun hs hh => stp_move (sv hs 11 rfl)⟩, lg rfl rfl 114 hy33 fun hs hh => stp_indexAddr Tryz.underlying37 ts127 (by decide) (sv hs 117 rfl) rfl (sv hs 118 rfl) (Rdb.ro hr0_1) e34⟩, lg rfl rfl 114 hy33 fun hs hh => stp_fieldAddr (j := 3) Tryz.underlying127 rfl ts3 rfl (sv hs 119 rfl) rfl⟩, lg rfl rfl 114 hy33 fun hs hh => stp_load1 ts3 (sv hs 120 rfl) (Cells.el (Rdb.ro hr0_1) (by decide) e34 3 1 rfl)⟩, lg rfl rfl 114 hy33 fun hs hh => stp_fieldAddr (j := 4) Tryz.underlying112 rfl ts3 rfl (sv hs 6 rfl) rfl⟩, lg rfl rfl 114 hy33 fun hs hh => stp_load1 ts3 (sv hs 122 rfl) (Cells.box (id := 2) (hh.get 2 _ rfl) 1 rfl)⟩, lg rfl rfl 114 hy33 fun hs hh => stp_neq (sv hs 121 rfl) (sv hs 123 rfl)⟩, lc rfl rfl fun hs hh => stp_pick_fB (sv hs 114 rfl) hy33 (sv hs 124 rfl) qy33⟩
                                  · intro g hΦ
                                    exact kw_join () trivial ⟨rfl, rfl, rfl, rfl, rfl, trivial⟩ ⟨rfl, trivial⟩
                            · rintro _ -
                              refine KW.sub (s' := [(1, .pointer (some ⟨b1, 0, none⟩)), (61, .slice p0_2 ((a0.c.l).length) c0_2), (62, .int .i64 ((a0.c.l).length : Int)), (63, .int .i64 v18), (125, .bool y33)]) (h' := [(0, [(b1, .cells #[.slice p0_0 ((a0.t.b).length) c0_0, .slice p0_1 ((a0.t.f).length) c0_1, .slice p0_2 ((a0.c.l).length) c0_2, .int .i64 a0.c.h, .int .i64 a0.g.c, .int .i64 a0.g.n, .int .i64 a0.g.r, .slice p0_3 ((a0.g.o).length) c0_3, .int .i64 a0.s] 47 (0, 0))])]) ?_ ⟨rfl, rfl, rfl, rfl, rfl, trivial⟩ ⟨rfl, trivial⟩
                              refine kw_nx (cw_cond rfl (fun h35 => ?_) (fun h35 => ?_))
                              · have H1 := cond_t H1 h35
                                refine sr (oD (sg rfl) rfl (nn (cw_ret (kw_bl_ret (kw_nx_ret (kw_lq_ret (kw_bl_ret (kw_join_ret (kw_nx_ret ?_)))))))))
                                have q1 := Option.some.inj H1
                                subst q1
                                have q0 := Option.some.inj H0
                                subst q0
                                exact kw_ret Tryz.results60 (.cons (.tmp rfl) .nil) [] [] trivial (by decide) ⟨rfl, rfl⟩
                              · have H1 := cond_f H1 h35
                                obtain ⟨x36, e36, H1⟩ := bind_some H1
                                exact cw_skip (kw_bl_normal (kw_nx (cw_region (oD (stp_add rfl rfl e36) rfl (oD (mv rfl) rfl (ow_nil (kw_lqS (js := [0]) (fuel, x36) H1 (Nat.lt_succ_self _) ⟨rfl, rfl, rfl, rfl, trivial⟩ ⟨0, [], rfl, rfl, trivial⟩ (by decide))))))))
                      · have H1 := cond_f H1 h27
                        obtain ⟨x37, e37, H1⟩ := bind_some H1
                        obtain ⟨x38, e38, H1⟩ := bind_some H1
                        refine cw_skip (kw_nx (cw_seq (rdr g_mixed [1, 6, 8] [0, 2] { dst := dS [100, 101, 102, 103, 104, 105, 106, 12], pre := gA [] [[], [0], [], [], [3], [2, 3, 4], rn 0 6, rn 0 7], ids := fun _ => [], rs := rL [[(1, 0)], [(99, 1)], [(8, 0)], [(6, 0)], [(102, 4)], [(101, 3), (103, 5)], [(100, 2), (104, 6)], [(105, 7)]], rh := rL [[], [(0, 0)], [], [], [(2, 0)]], V := fun i g => gA undef [.pointer (some ⟨b1, 0, none⟩), .agg #[.slice p0_0 ((a0.t.b).length) c0_0, .slice p0_1 ((a0.t.f).length) c0_1], .int .i64 0, .pointer (some ⟨b21, 2, none⟩), .int .i64 x20.pg, .agg #[.int .i64 x37.s, .int .i64 x37.p], .int .i64 x38, .int .i64 x38] i, U := fun _ _ => [], Φ := fun _ _ => True } ?_ ?_)))
                        · refine ⟨⟨⟨⟨⟨⟨⟨⟨trivial, lc rfl rfl fun hs hh => stp_fieldAddr (j := 0) Tryz.underlying47 rfl ts39 rfl (sv hs 1 rfl) rfl⟩, lc rfl rfl fun hs hh => stp_loadN (us := [_, _]) ts39 (sv hs 99 rfl) (Cells.box (id := 0) (hh.get 0 _ rfl) 2 rfl)⟩, lc rfl rfl fun hs hh => stp_move (sv hs 8 rfl)⟩, lc rfl rfl fun hs hh => stp_fieldAddr (j := 2) Tryz.underlying112 rfl ts3 rfl (sv hs 6 rfl) rfl⟩, lc rfl rfl fun hs hh => stp_load1 ts3 (sv hs 102 rfl) (Cells.box (id := 2) (hh.get 2 _ rfl) 1 rfl)⟩, ?_⟩, ?_⟩, lc rfl rfl fun hs hh => stp_assign (sv hs 105 rfl)⟩
                          · refine le rfl rfl (fun g hΦ s h hs hh => (stpU_call (fun i => 3 + i) cf61 (fun w hw => c_i_KeyFor fl w 0 x20.pg x37 e37) (sevs_cons (sv hs 101 rfl) (sevs_cons (sv hs 103 rfl) sevs_nil)))) ?_
                            rintro g _ _ ⟨_, ⟨rfl, rfl⟩, rfl⟩
                            exact ⟨⟨[], [], []⟩, trivial, .inr rfl, rfl⟩
                          · refine le rfl rfl (fun g hΦ s h hs hh => (stpU_call (fun i => 3 + i) cf94 (fun w hw => c_i_Table_find fl w a0.t p0_0 ((a0.t.b).length) c0_0 p0_1 ((a0.t.f).length) c0_1 x37 rfl (RO.pass hr0_0 hw) rfl (RO.pass hr0_1 hw) x38 e38) (sevs_cons (sv hs 100 rfl) (sevs_cons (sv hs 104 rfl) sevs_nil)))) ?_
                            rintro g _ _ ⟨_, ⟨rfl, rfl⟩, rfl⟩
                            exact ⟨⟨[], [], []⟩, trivial, .inr rfl, rfl⟩
                        · intro g hΦ
                          refine KW.sub (s' := [(1, .pointer (some ⟨b1, 0, none⟩)), (6, .pointer (some ⟨b21, 0, none⟩)), (11, .int .i64 x38), (61, .slice p0_2 ((a0.c.l).length) c0_2), (62, .int .i64 ((a0.c.l).length : Int)), (63, .int .i64 v18)]) (h' := [(0, [(b1, .cells #[.slice p0_0 ((a0.t.b).length) c0_0, .slice p0_1 ((a0.t.f).length) c0_1, .slice p0_2 ((a0.c.l).length) c0_2, .int .i64 a0.c.h, .int .i64 a0.g.c, .int .i64 a0.g.n, .int .i64 a0.g.r, .slice p0_3 ((a0.g.o).length) c0_3, .int .i64 a0.s] 47 (0, 0))]), (2, [(b21, .cells #[.bool x20.va, .int .i64 x20.tg, .int .i64 x20.pg, .int .i64 x20.fr, .int .i64 x20.ri, .bool x20.wi] 112 (0, 0))])]) ?_ ⟨rfl, rfl, rfl, rfl, rfl, rfl, trivial⟩ ⟨rfl, rfl, trivial⟩
                          obtain ⟨y39, ey39, H1⟩ := bind_some H1
                          obtain ⟨y40, ey40, H1⟩ := bind_some H1
                          refine kw_nx (cw_seq (cw_join (ι := Unit) (fun | _ => True) (fun | _ => [(1, .pointer (some ⟨b1, 0, none⟩)), (61, .slice p0_2 ((a0.c.l).length) c0_2), (62, .int .i64 ((a0.c.l).length : Int)), (63, .int .i64 v18), (125, .bool y40)]) (fun | _ => [(0, [(b1, .cells #[.slice p0_0 ((a0.t.b).length) c0_0, .slice p0_1 ((a0.t.f).length) c0_1, .slice p0_2 ((a0.c.l).length) c0_2, .int .i64 a0.c.h, .int .i64 a0.g.c, .int .i64 a0.g.n, .int .i64 a0.g.r, .slice p0_3 ((a0.g.o).length) c0_3, .int .i64 a0.s] 47 (0, 0))])]) ?_ ?_))
                          · rcases Bool.eq_false_or_eq_true (decide (x38 < 0)) with hy39 | hy39
                            · have ey39 := cond_t ey39 hy39
                              have qy39 := Option.some.inj ey39
                              have hy40 : y39 = true := by rw [← qy39]
                              have ey40 := cond_t ey40 hy40
                              have qy40 := Option.some.inj ey40
                              refine rdr g_mixed [11] [] { dst := dS [107, 108, 109, 110, 111, 112, 113, 114, 115, 116, 117, 118, 119, 120, 121, 122, 123, 124, 125, 126], pre := gA [] [[], [0], [0, 1], [0, 1, 2], [0, 1, 2], [0, 1, 2, 4], rn 0 6, rn 0 7, rn 0 8, rn 0 9, rn 0 10, rn 0 11, rn 0 9, rn 0 13, rn 0 14, rn 0 15, rn 0 9, [0, 1, 2, 3, 4, 5, 6, 7, 8, 16], rn 0 18, rn 0 19], ids := fun _ => [], rs := rL [[(11, 0)], [(106, 1)], [(107, 2)], [(108, 3)], [(108, 3)], [(108, 3)], [(108, 3)], [(108, 3), (112, 7)], [(113, 8)], [(114, 9)], [(114, 9)], [(114, 9)], [(114, 9)], [(114, 9)], [(114, 9)], [(114, 9)], [(114, 9)], [(114, 9)], [(114, 9)], [(114, 9), (124, 19)]], rh := fun _ => [], V := fun i g => gA undef [.int .i64 x38, .bool (decide (x38 < 0)), .bool (decide (x38 < 0)), undef, undef, undef, undef, .bool y39, .bool y39, undef, undef, undef, undef, undef, undef, undef, undef, undef, undef, .bool y40] i, U := fun _ _ => [], Φ := fun _ _ => True } ?_ ?_
                              · exact ⟨⟨⟨⟨⟨⟨⟨⟨⟨⟨⟨⟨⟨⟨⟨⟨⟨⟨⟨⟨trivial, lc rfl rfl fun hs hh => stp_move (sv hs 11 rfl)⟩, lc rfl rfl fun hs hh => stp_lss (sv hs 106 rfl) rfl⟩, lc rfl rfl fun hs hh => stp_move (sv hs 107 rfl)⟩, lo rfl rfl 108 hy39⟩, lo rfl rfl 108 hy39⟩, lo rfl rfl 108 hy39⟩, lo rfl rfl 108 hy39⟩, lc rfl rfl fun hs hh => stp_pick_tB (sv hs 108 rfl) hy39 rfl qy39⟩, lc rfl rfl fun hs hh => stp_move (sv hs 113 rfl)⟩, lo rfl rfl 114 hy40⟩, lo rfl rfl 114 hy40⟩, lo rfl rfl 114 hy40⟩, lo rfl rfl 114 hy40⟩, lo rfl rfl 114 hy40⟩, lo rfl rfl 114 hy40⟩, lo rfl rfl 114 hy40⟩, lo rfl rfl 114 hy40⟩, lo rfl rfl 114 hy40⟩, lo rfl rfl 114 hy40⟩, lc rfl rfl fun hs hh => stp_pick_tB (sv hs 114 rfl) hy40 rfl qy40⟩
                              · intro g hΦ
                                exact kw_join () trivial ⟨rfl, rfl, rfl, rfl, rfl, trivial⟩ ⟨rfl, trivial⟩
                            · have ey39 := cond_f ey39 hy39
                              have qy39 := Option.some.inj ey39
                              rcases Bool.eq_false_or_eq_true y39 with hy40 | hy40
                              · have ey40 := cond_t ey40 hy40
                                have qy40 := Option.some.inj ey40
                                refine rdr g_mixed [6, 11] [2] { dst := dS [107, 108, 109, 110, 111, 112, 113, 114, 115, 116, 117, 118, 119, 120, 121, 122, 123, 124, 125, 126], pre := gA [] [[], [0], [0, 1], [0, 1, 2], [0, 1, 2], [0, 1, 2, 4], rn 0 6, rn 0 7, rn 0 8, rn 0 9, rn 0 10, rn 0 11, rn 0 9, rn 0 13, rn 0 14, rn 0 15, rn 0 9, [0, 1, 2, 3, 4, 5, 6, 7, 8, 16], rn 0 18, rn 0 19], ids := fun _ => [], rs := rL [[(11, 0)], [(106, 1)], [(107, 2)], [(11, 0), (108, 3)], [(6, 0), (108, 3)], [(110, 5), (108, 3)], [(109, 4), (111, 6), (108, 3)], [(108, 3), (112, 7)], [(113, 8)], [(114, 9)], [(114, 9)], [(114, 9)], [(114, 9)], [(114, 9)], [(114, 9)], [(114, 9)], [(114, 9)], [(114, 9)], [(114, 9)], [(114, 9), (124, 19)]], rh := rL [[], [], [], [], [], [(2, 0)]], V := fun i g => gA undef [.int .i64 x38, .bool (decide (x38 < 0)), .bool (decide (x38 < 0)), .int .i64 x38, .pointer (some ⟨b21, 3, none⟩), .int .i64 x20.fr, .bool (x38 != x20.fr), .bool y39, .bool y39, undef, undef, undef, undef, undef, undef, undef, undef, undef, undef, .bool y40] i, U := fun _ _ => [], Φ := fun _ _ => True } ?_ ?_
                                · exact ⟨⟨⟨⟨⟨⟨⟨⟨⟨⟨⟨⟨⟨⟨⟨⟨⟨⟨⟨⟨trivial, lc rfl rfl fun hs hh => stp_move (sv hs 11 rfl)⟩, lc rfl rfl fun hs hh => stp_lss (sv hs 106 rfl) rfl⟩, lc rfl rfl fun hs hh => stp_move (sv hs 107 rfl)⟩, lg rfl rfl 108 hy39 fun hs hh => stp_move (sv hs 11 rfl)⟩, lg rfl rfl 108 hy39 fun hs hh => stp_fieldAddr (j := 3) Tryz.underlying112 rfl ts3 rfl (sv hs 6 rfl) rfl⟩, lg rfl rfl 108 hy39 fun hs hh => stp_load1 ts3 (sv hs 110 rfl) (Cells.box (id := 2) (hh.get 2 _ rfl) 1 rfl)⟩, lg rfl rfl 108 hy39 fun hs hh => stp_neq (sv hs 109 rfl) (sv hs 111 rfl)⟩, lc rfl rfl fun hs hh => stp_pick_fB (sv hs 108 rfl) hy39 (sv hs 112 rfl) qy39⟩, lc rfl rfl fun hs hh => stp_move (sv hs 113 rfl)⟩, lo rfl rfl 114 hy40⟩, lo rfl rfl 114 hy40⟩, lo rfl rfl 114 hy40⟩, lo rfl rfl 114 hy40⟩, lo rfl rfl 114 hy40⟩, lo rfl rfl 114 hy40⟩, lo rfl rfl 114 hy40⟩, lo rfl rfl 114 hy40⟩, lo rfl rfl 114 hy40⟩, lo rfl rfl 114 hy40⟩, lc rfl rfl fun hs hh => stp_pick_tB (sv hs 114 rfl) hy40 rfl qy40⟩
                                · intro g hΦ
                                  exact kw_join () trivial ⟨rfl, rfl, rfl, rfl, rfl, trivial⟩ ⟨rfl, trivial⟩
                              · have ey40 := cond_f ey40 hy40
                                obtain ⟨x41, e41, ey40⟩ := bind_some ey40
                                have qy40 := Option.some.inj ey40
                                refine rdr g_mixed [1, 6, 11] [0, 2] { dst := dS [107, 108, 109, 110, 111, 112, 113, 114, 115, 116, 117, 118, 119, 120, 121, 122, 123, 124, 125, 126], pre := gA [] [[], [0], [0, 1], [0, 1, 2], [0, 1, 2], [0, 1, 2, 4], rn 0 6, rn 0 7, rn 0 8, rn 0 9, rn 0 10, rn 0 11, rn 0 9, rn 0 13, rn 0 14, rn 0 15, rn 0 9, [0, 1, 2, 3, 4, 5, 6, 7, 8, 16], rn 0 18, rn 0 19], ids := fun _ => [], rs := rL [[(11, 0)], [(106, 1)], [(107, 2)], [(11, 0), (108, 3)], [(6, 0), (108, 3)], [(110, 5), (108, 3)], [(109, 4), (111, 6), (108, 3)], [(108, 3), (112, 7)], [(113, 8)], [(1, 0), (114, 9)], [(115, 10), (114, 9)], [(116, 11), (114, 9)], [(11, 0), (114, 9)], [(117, 12), (118, 13), (114, 9)], [(119, 14), (114, 9)], [(120, 15), (114, 9)], [(6, 0), (114, 9)], [(122, 17), (114, 9)], [(121, 16), (123, 18), (114, 9)], [(114, 9), (124, 19)]], rh := rL [[], [], [], [], [], [(2, 0)], [], [], [], [], [], [(0, 0)], [], [], [], [], [], [(2, 0)]], V := fun i g => gA undef [.int .i64 x38, .bool (decide (x38 < 0)), .bool (decide (x38 < 0)), .int .i64 x38, .pointer (some ⟨b21, 3, none⟩), .int .i64 x20.fr, .bool (x38 != x20.fr), .bool y39, .bool y39, .pointer (some ⟨b1, 0, none⟩), .pointer (some ⟨b1, 1, none⟩), .slice p0_1 ((a0.t.f).length) c0_1, .int .i64 x38, .pointer (some ⟨eB p0_1, eO p0_1 + Int.toNat x38 * Enc.sz F + 0, none⟩), .pointer (some ⟨eB p0_1, eO p0_1 + Int.toNat x38 * Enc.sz F + 3, none⟩), .int .i64 x41.r, .pointer (some ⟨b21, 4, none⟩), .int .i64 x20.ri, .bool (x41.r != x20.ri), .bool y40] i, U := fun _ _ => [], Φ := fun _ _ => True } ?_ ?_
                                · exact ⟨⟨⟨⟨⟨⟨⟨⟨⟨⟨⟨⟨⟨⟨⟨⟨⟨⟨⟨⟨trivial, lc rfl rfl fun hs hh => stp_move (sv hs 11 rfl)⟩, lc rfl rfl fun hs hh => stp_lss (sv hs 106 rfl) rfl⟩, lc rfl rfl fun hs hh => stp_move (sv hs 107 rfl)⟩, lg rfl rfl 108 hy39 fun hs hh => stp_move (sv hs 11 rfl)⟩, lg rfl rfl 108 hy39 fun hs hh => stp_fieldAddr (j := 3) Tryz.underlying112 rfl ts3 rfl (sv hs 6 rfl) rfl⟩, lg rfl rfl 108 hy39 fun hs hh => stp_load1 ts3 (sv hs 110 rfl) (Cells.box (id := 2) (hh.get 2 _ rfl) 1 rfl)⟩, lg rfl rfl 108 hy39 fun hs hh => stp_neq (sv hs 109 rfl) (sv hs 111 rfl)⟩, lc rfl rfl fun hs hh => stp_pick_fB (sv hs 108 rfl) hy39 (sv hs 112 rfl) qy39⟩, lc rfl rfl fun hs hh => stp_move (sv hs 113 rfl)⟩, lg rfl rfl 114 hy40 fun hs hh => stp_fieldAddr (j := 0) Tryz.underlying47 rfl ts39 rfl (sv hs 1 rfl) rfl⟩, lg rfl rfl 114 hy40 fun hs hh => stp_fieldAddr (j := 1) Tryz.underlying39 rfl ts37 rfl (sv hs 115 rfl) rfl⟩, lg rfl rfl 114 hy40 fun hs hh => stp_load1 ts37 (sv hs 116 rfl) (Cells.box (id := 0) (hh.get 0 _ rfl) 1 rfl)⟩, lg rfl rfl 114 hy40 fun hs hh => stp_move (sv hs 11 rfl)⟩, lg rfl rfl 114 hy40 fun hs hh => stp_indexAddr Tryz.underlying37 ts127 (by decide) (sv hs 117 rfl) rfl (sv hs 118 rfl) (Rdb.ro hr0_1) e41⟩, lg rfl rfl 114 hy40 fun hs hh => stp_fieldAddr (j := 3) Tryz.underlying127 rfl ts3 rfl (sv hs 119 rfl) rfl⟩, lg rfl rfl 114 hy40 fun hs hh => stp_load1 ts3 (sv hs 120 rfl) (Cells.el (Rdb.ro hr0_1) (by decide) e41 3 1 rfl)⟩, lg rfl rfl 114 hy40 fun hs hh => stp_fieldAddr (j := 4) Tryz.underlying112 rfl ts3 rfl (sv hs 6 rfl) rfl⟩, lg rfl rfl 114 hy40 fun hs hh => stp_load1 ts3 (sv hs 122 rfl) (Cells.box (id := 2) (hh.get 2 _ rfl) 1 rfl)⟩, lg rfl rfl 114 hy40 fun hs hh => stp_neq (sv hs 121 rfl) (sv hs 123 rfl)⟩, lc rfl rfl fun hs hh => stp_pick_fB (sv hs 114 rfl) hy40 (sv hs 124 rfl) qy40⟩
                                · intro g hΦ
                                  exact kw_join () trivial ⟨rfl, rfl, rfl, rfl, rfl, trivial⟩ ⟨rfl, trivial⟩
                          · rintro _ -
                            refine KW.sub (s' := [(1, .pointer (some ⟨b1, 0, none⟩)), (61, .slice p0_2 ((a0.c.l).length) c0_2), (62, .int .i64 ((a0.c.l).length : Int)), (63, .int .i64 v18), (125, .bool y40)]) (h' := [(0, [(b1, .cells #[.slice p0_0 ((a0.t.b).length) c0_0, .slice p0_1 ((a0.t.f).length) c0_1, .slice p0_2 ((a0.c.l).length) c0_2, .int .i64 a0.c.h, .int .i64 a0.g.c, .int .i64 a0.g.n, .int .i64 a0.g.r, .slice p0_3 ((a0.g.o).length) c0_3, .int .i64 a0.s] 47 (0, 0))])]) ?_ ⟨rfl, rfl, rfl, rfl, rfl, trivial⟩ ⟨rfl, trivial⟩
                            refine kw_nx (cw_cond rfl (fun h42 => ?_) (fun h42 => ?_))
                            · have H1 := cond_t H1 h42
                              refine sr (oD (sg rfl) rfl (nn (cw_ret (kw_bl_ret (kw_nx_ret (kw_lq_ret (kw_bl_ret (kw_join_ret (kw_nx_ret ?_)))))))))
                              have q1 := Option.some.inj H1
                              subst q1
                              have q0 := Option.some.inj H0
                              subst q0
                              exact kw_ret Tryz.results60 (.cons (.tmp rfl) .nil) [] [] trivial (by decide) ⟨rfl, rfl⟩
                            · have H1 := cond_f H1 h42
                              obtain ⟨x43, e43, H1⟩ := bind_some H1
                              exact cw_skip (kw_bl_normal (kw_nx (cw_region (oD (stp_add rfl rfl e43) rfl (oD (mv rfl) rfl (ow_nil (kw_lqS (js := [0]) (fuel, x43) H1 (Nat.lt_succ_self _) ⟨rfl, rfl, rfl, rfl, trivial⟩ ⟨0, [], rfl, rfl, trivial⟩ (by decide))))))))
              · have H1 := cond_f H1 h19
                refine cw_exit (kw_nx_exit (kw_lq_exit (kw_bl ?_)))
                have q1 := Option.some.inj H1
                subst q1
                exact kw_joinS (js := [0]) v18 rfl ⟨rfl, rfl, rfl, rfl, trivial⟩ ⟨0, [], rfl, rfl, trivial⟩ (by decide)
            · rintro v18 rfl
              refine KW.sub (s' := [(1, .pointer (some ⟨b1, 0, none⟩)), (61, .slice p0_2 ((a0.c.l).length) c0_2), (62, .int .i64 ((a0.c.l).length : Int)), (63, .int .i64 v18)]) (h' := [(0, [(b1, .cells #[.slice p0_0 ((a0.t.b).length) c0_0, .slice p0_1 ((a0.t.f).length) c0_1, .slice p0_2 ((a0.c.l).length) c0_2, .int .i64 a0.c.h, .int .i64 a0.g.c, .int .i64 a0.g.n, .int .i64 a0.g.r, .slice p0_3 ((a0.g.o).length) c0_3, .int .i64 a0.s] 47 (0, 0))])]) ?_ ⟨rfl, rfl, rfl, rfl, trivial⟩ ⟨rfl, trivial⟩
              refine kw_nx (sr (oD (sg rfl) rfl (nn (cw_ret ?_))))
              have q0 := Option.some.inj H0
              subst q0
              exact kw_ret Tryz.results60 (.cons (.tmp rfl) .nil) [] [] trivial (by decide) ⟨rfl, rfl⟩

set_option maxHeartbeats 4000000 in
set_option maxRecDepth 20000 in
theorem c_slices_Clone_Int (fl : Nat) (w : World) (a0 : (List Int)) (p0_0 : Option Addr) (n0_0 c0_0 : Nat) (hn0_0 : n0_0 = (a0).length) (hr0_0 : RO w (hkeys []) (RdL p0_0 c0_0 a0)) (r : (List Int)) (H0 : slices_Clone_Int fl a0 = some r) :
    Ct Tryz.prog 200 [.slice p0_0 n0_0 c0_0] w [] (fun rv h' => ∃ (x0 : Option Addr) (y0 z0 : Nat) (C0 : Res), rv = .slice x0 y0 z0 ∧ h' = [(0, C0)] ∧ y0 = (r).length ∧ OwnC 3 x0 z0 r C0) := by
  obtain rfl := hn0_0
  unfold slices_Clone_Int at H0
  refine ct_of_cw Tryz.func200 rfl Tryz.ntmps200 rfl (Sat.refl _ _) ?_
  refine sr (oD (sg rfl) rfl (nn (cw_seq (sr (oD (mv rfl) rfl (oD (stp_eqlNil Tryz.underlying22 rfl) rfl (nn (cw_cond rfl (fun h1 => ?_) (fun h1 => ?_)))))))))
  · have := True.intro
    obtain rfl : p0_0 = none := by simpa using h1
    obtain rfl : a0 = [] := nil_of_none hr0_0
    obtain rfl : r = [] := (cnt_some H0).1
    exact sr (oD (sg rfl) rfl (nn (cw_ret (kw_nx_ret (kw_addNil 0 (kw_ret Tryz.results200 (.cons (.tmp rfl) .nil) [(0, [])] [0] ⟨0, [], rfl, rfl, trivial⟩ (by decide) ⟨none, 0, 0, [], rfl, rfl, rfl, (OwnC.nil _ _)⟩))))))
  · have := True.intro
    refine cw_skip (kw_nx (sr (oE (stpU_lit0 sl22 1) rfl ?_)))
    rintro _ _ ⟨p2, C3, rfl, rfl, o3⟩
    refine oD (mv rfl) rfl ?_
    have e4 : cnt (([] : List Int) ++ a0) = some r := H0
    refine oE (stpU_append sl22 rfl (id := 1) rfl (by simp) rfl rfl rfl o3 (Rdb.ro hr0_0) e4) rfl ?_
    rintro _ _ ⟨p5, c6, C7, rfl, rfl, o7⟩
    exact oD (sg rfl) rfl (nn (cw_ret (kw_ret Tryz.results200 (.cons (.tmp rfl) .nil) [(0, C7)] [1] ⟨1, [], rfl, rfl, trivial⟩ (by decide) ⟨p5, ((r).length), c6, C7, rfl, rfl, rfl, o7⟩)))

set_option maxHeartbeats 4000000 in
set_option maxRecDepth 20000 in
theorem c_slices_Clone_Frame (fl : Nat) (w : World) (a0 : (List F)) (p0_0 : Option Addr) (n0_0 c0_0 : Nat) (hn0_0 : n0_0 = (a0).length) (hr0_0 : RO w (hkeys []) (RdL p0_0 c0_0 a0)) (r : (List F)) (H0 : slices_Clone_Frame fl a0 = some r) :
    Ct Tryz.prog 202 [.slice p0_0 n0_0 c0_0] w [] (fun rv h' => ∃ (x0 : Option Addr) (y0 z0 : Nat) (C0 : Res), rv = .slice x0 y0 z0 ∧ h' = [(0, C0)] ∧ y0 = (r).length ∧ OwnC 127 x0 z0 r C0) := by
  obtain rfl := hn0_0
  unfold slices_Clone_Frame at H0
  refine ct_of_cw Tryz.func202 rfl Tryz.ntmps202 rfl (Sat.refl _ _) ?_
  refine sr (oD (sg rfl) rfl (nn (cw_seq (sr (oD (mv rfl) rfl (oD (stp_eqlNil Tryz.underlying37 rfl) rfl (nn (cw_cond rfl (fun h1 => ?_) (fun h1 => ?_)))))))))
  · have := True.intro
    obtain rfl : p0_0 = none := by simpa using h1
    obtain rfl : a0 = [] := nil_of_none hr0_0
    obtain rfl : r = [] := (cnt_some H0).1
    exact sr (oD (sg rfl) rfl (nn (cw_ret (kw_nx_ret (kw_addNil 0 (kw_ret Tryz.results202 (.cons (.tmp rfl) .nil) [(0, [])] [0] ⟨0, [], rfl, rfl, trivial⟩ (by decide) ⟨none, 0, 0, [], rfl, rfl, rfl, (OwnC.nil _ _)⟩))))))
  · have := True.intro
    refine cw_skip (kw_nx (sr (oE (stpU_lit0 sl37 1) rfl ?_)))
    rintro _ _ ⟨p2, C3, rfl, rfl, o3⟩
    refine oD (mv rfl) rfl ?_
    have e4 : cnt (([] : List F) ++ a0) = some r := H0
    refine oE (stpU_append sl37 rfl (id := 1) rfl (by simp) rfl rfl rfl o3 (Rdb.ro hr0_0) e4) rfl ?_
    rintro _ _ ⟨p5, c6, C7, rfl, rfl, o7⟩
    exact oD (sg rfl) rfl (nn (cw_ret (kw_ret Tryz.results202 (.cons (.tmp rfl) .nil) [(0, C7)] [1] ⟨1, [], rfl, rfl, trivial⟩ (by decide) ⟨p5, ((r).length), c6, C7, rfl, rfl, rfl, o7⟩)))

set_option maxHeartbeats 4000000 in
set_option maxRecDepth 20000 in
theorem c_i_Table_clone (fl : Nat) (w : World) (a0 : T) (p0_0 : Option Addr) (n0_0 c0_0 : Nat) (p0_1 : Option Addr) (n0_1 c0_1 : Nat) (hn0_0 : n0_0 = (a0.b).length) (hr0_0 : RO w (hkeys []) (RdL p0_0 c0_0 a0.b)) (hn0_1 : n0_1 = (a0.f).length) (hr0_1 : RO w (hkeys []) (RdL p0_1 c0_1 a0.f)) (r : T) (H0 : i_Table_clone fl a0 = some r) :
    Ct Tryz.prog 144 [.agg #[.slice p0_0 n0_0 c0_0, .slice p0_1 n0_1 c0_1]] w [] (fun rv h' => ∃ (x0 : Option Addr) (y0 z0 : Nat) (C0 : Res) (x1 : Option Addr) (y1 z1 : Nat) (C1 : Res), rv = .agg #[.slice x0 y0 z0, .slice x1 y1 z1] ∧ h' = [(0, C0), (1, C1)] ∧ y0 = (r.b).length ∧ OwnC 3 x0 z0 r.b C0 ∧ y1 = (r.f).length ∧ OwnC 127 x1 z1 r.f C1) := by
  obtain rfl := hn0_0
  obtain rfl := hn0_1
  unfold i_Table_clone at H0
  refine ct_of_cw Tryz.func144 rfl Tryz.ntmps144 rfl (Sat.refl _ _) ?_
  refine sr (oE (stpU_box 0 rfl rfl) rfl ?_)
  rintro _ _ ⟨b1, rfl, rfl⟩
  refine oE (stpU_alloc 1 tz39 rfl) rfl ?_
  rintro _ _ ⟨b2, rfl, rfl⟩
  obtain ⟨x3, e3, H0⟩ := bind_some H0
  obtain ⟨x8, e8, H0⟩ := bind_some H0
  refine nn (cw_seq (rdr g_mixed [1, 2] [0, 1] { dst := dS [4, 5, 6, 7, 8, 9, 10, 11, 12, 0], pre := gA [] [[], [0], [0, 1], [0, 1, 2], [], [4], rn 0 6, rn 0 7, rn 0 8, rn 0 9], ids := gA [] [[], [], [2], [], [], [], [3], [], [], [1]], rs := rL [[(1, 0)], [(3, 1)], [(4, 2)], [(5, 3)], [(1, 0)], [(7, 5)], [(8, 6)], [(9, 7)], [(6, 4), (10, 8)], [(2, 0), (11, 9)]], rh := rL [[], [(0, 0)], [], [], [], [(0, 0)], [], [], [], [(1, 0)]], V := fun i g => gA undef [.pointer (some ⟨b1, 0, none⟩), .slice p0_0 ((a0.b).length) c0_0, .slice ((g 2).A 0) ((x3).length) ((g 2).C 0), .slice ((g 2).A 0) ((x3).length) ((x3).length), .pointer (some ⟨b1, 1, none⟩), .slice p0_1 ((a0.f).length) c0_1, .slice ((g 6).A 0) ((x8).length) ((g 6).C 0), .slice ((g 6).A 0) ((x8).length) ((x8).length), .agg #[.slice ((g 2).A 0) ((x3).length) ((x3).length), .slice ((g 6).A 0) ((x8).length) ((x8).length)]] i, U := fun i g => gA [] [[], [], [(2, ((g 2).R 0))], [], [], [], [(3, ((g 6).R 0))], [], [], [(1, [(b2, .cells #[.slice ((g 2).A 0) ((x3).length) ((x3).length), .slice ((g 6).A 0) ((x8).length) ((x8).length)] 39 (0, 0))])]] i, Φ := fun i x => match i with | 2 => OwnC (α := Int) 3 (x.A 0) (x.C 0) x3 (x.R 0) | 6 => OwnC (α := F) 127 (x.A 0) (x.C 0) x8 (x.R 0) | _ => True } ?_ ?_))
  · refine ⟨⟨⟨⟨⟨⟨⟨⟨⟨⟨trivial, lc rfl rfl fun hs hh => stp_fieldAddr (j := 0) Tryz.underlying39 rfl ts22 rfl (sv hs 1 rfl) rfl⟩, lc rfl rfl fun hs hh => stp_load1 ts22 (sv hs 3 rfl) (Cells.box (id := 0) (hh.get 0 _ rfl) 1 rfl)⟩, ?_⟩, ?_⟩, lc rfl rfl fun hs hh => stp_fieldAddr (j := 1) Tryz.underlying39 rfl ts37 rfl (sv hs 1 rfl) rfl⟩, lc rfl rfl fun hs hh => stp_load1 ts37 (sv hs 7 rfl) (Cells.box (id := 0) (hh.get 0 _ rfl) 1 rfl)⟩, ?_⟩, ?_⟩, ld rfl rfl fun g hΦ s h hs hh => stp_build (cs := #[.slice ((g 2).A 0) ((x3).length) ((x3).length), .slice ((g 6).A 0) ((x8).length) ((x8).length)]) (sevp_cons (sv hs 6 rfl) (sevp_cons (sv hs 10 rfl) sevp_nil)) bt39_5⟩, ?_⟩
    · refine le rfl rfl (fun g hΦ s h hs hh => (stpU_call (fun i => 2 + i) cf200 (fun w hw => c_slices_Clone_Int fl w a0.b p0_0 ((a0.b).length) c0_0 rfl (RO.pass hr0_0 hw) x3 e3) (sevs_cons (sv hs 4 rfl) sevs_nil))) ?_
      rintro g _ _ ⟨_, ⟨p4, n5, c6, C7, rfl, rfl, hnn5, o7⟩, rfl⟩
      obtain rfl := hnn5
      exact ⟨⟨[p4], [c6], [C7]⟩, o7, .inr rfl, rfl⟩
    · refine le rfl rfl (fun g hΦ s h hs hh => (stpU_call (fun i => i) cf199 (fun w hw => c_clip199 w ((g 2).A 0) ((x3).length) ((g 2).C 0) (OwnC.len (hΦ 2 rfl)).1) (sevs_cons (sv hs 5 rfl) sevs_nil))) ?_
      rintro g _ _ ⟨_, ⟨rfl, rfl⟩, rfl⟩
      exact ⟨⟨[], [], []⟩, trivial, .inr rfl, rfl⟩
    · refine le rfl rfl (fun g hΦ s h hs hh => (stpU_call (fun i => 3 + i) cf202 (fun w hw => c_slices_Clone_Frame fl w a0.f p0_1 ((a0.f).length) c0_1 rfl (RO.pass hr0_1 hw) x8 e8) (sevs_cons (sv hs 8 rfl) sevs_nil))) ?_
      rintro g _ _ ⟨_, ⟨p9, n10, c11, C12, rfl, rfl, hnn10, o12⟩, rfl⟩
      obtain rfl := hnn10
      exact ⟨⟨[p9], [c11], [C12]⟩, o12, .inr rfl, rfl⟩
    · refine le rfl rfl (fun g hΦ s h hs hh => (stpU_call (fun i => i) cf201 (fun w hw => c_clip201 w ((g 6).A 0) ((x8).length) ((g 6).C 0) (OwnC.len (hΦ 6 rfl)).1) (sevs_cons (sv hs 9 rfl) sevs_nil))) ?_
      rintro g _ _ ⟨_, ⟨rfl, rfl⟩, rfl⟩
      exact ⟨⟨[], [], []⟩, trivial, .inr rfl, rfl⟩
    · refine le rfl rfl (fun g hΦ s h hs hh => (stpU_store (id := 1) (cs' := [.slice ((g 2).A 0) ((x3).length) ((x3).length), .slice ((g 6).A 0) ((x8).length) ((x8).length)]) ts39 (sv hs 2 rfl) (sv hs 11 rfl) (hh.get 1 _ rfl) rfl rfl rfl rfl)) ?_
      rintro g _ _ rfl
      exact ⟨⟨[], [], []⟩, trivial, .inl rfl, rfl⟩
  · intro g hΦ
    refine kw_gen (ι := Option Addr × Nat × Res × Option Addr × Nat × Res) (((g 2).A 0), ((g 2).C 0), ((g 2).R 0), ((g 6).A 0), ((g 6).C 0), ((g 6).R 0)) (fun | (p4, c6, C7, p9, c11, C12) => OwnC (α := Int) 3 p4 c6 x3 C7 ∧ OwnC (α := F) 127 p9 c11 x8 C12) (fun | (p4, c6, C7, p9, c11, C12) => [(2, .pointer (some ⟨b2, 0, none⟩))]) (fun | (p4, c6, C7, p9, c11, C12) => [(1, [(b2, .cells #[.slice p4 ((x3).length) ((x3).length), .slice p9 ((x8).length) ((x8).length)] 39 (0, 0))]), (2, C7), (3, C12)]) ⟨(hΦ 2 (by decide)), (hΦ 6 (by decide))⟩ ⟨rfl, trivial⟩ ⟨rfl, rfl, rfl, trivial⟩ ?_
    rintro ⟨p4, c6, C7, p9, c11, C12⟩ ⟨o7, o12⟩
    refine KW.sub (s' := [(2, .pointer (some ⟨b2, 0, none⟩))]) (h' := [(1, [(b2, .cells #[.slice p4 ((x3).length) ((x3).length), .slice p9 ((x8).length) ((x8).length)] 39 (0, 0))]), (2, C7), (3, C12)]) ?_ ⟨rfl, trivial⟩ ⟨rfl, rfl, rfl, trivial⟩
    refine kw_nx (cw_ret ?_)
    have q0 := Option.some.inj H0
    subst q0
    exact kw_ret Tryz.results144 (.cons (.cellN (us := [_, _]) ts39 rfl (Cells.box (id := 1) rfl 2 rfl)) .nil) [(0, C7), (1, C12)] [2, 3] ⟨2, [3], rfl, rfl, 3, [], rfl, rfl, trivial⟩ (by decide) ⟨p4, ((x3).length), ((x3).length), C7, p9, ((x8).length), ((x8).length), C12, rfl, rfl, rfl, (OwnC.clip o7), rfl, (OwnC.clip o12)⟩

set_option maxHeartbeats 4000000 in
set_option maxRecDepth 20000 in
theorem c_slices_Clone_Line (fl : Nat) (w : World) (a0 : (List Ln)) (p0_0 : Option Addr) (n0_0 c0_0 : Nat) (hn0_0 : n0_0 = (a0).length) (hr0_0 : RO w (hkeys []) (RdL p0_0 c0_0 a0)) (r : (List Ln)) (H0 : slices_Clone_Line fl a0 = some r) :
    Ct Tryz.prog 147 [.slice p0_0 n0_0 c0_0] w [] (fun rv h' => ∃ (x0 : Option Addr) (y0 z0 : Nat) (C0 : Res), rv = .slice x0 y0 z0 ∧ h' = [(0, C0)] ∧ y0 = (r).length ∧ OwnC 112 x0 z0 r C0) := by
  obtain rfl := hn0_0
  unfold slices_Clone_Line at H0
  refine ct_of_cw Tryz.func147 rfl Tryz.ntmps147 rfl (Sat.refl _ _) ?_
  refine sr (oD (sg rfl) rfl (nn (cw_seq (sr (oD (mv rfl) rfl (oD (stp_eqlNil Tryz.underlying40 rfl) rfl (nn (cw_cond rfl (fun h1 => ?_) (fun h1 => ?_)))))))))
  · have := True.intro
    obtain rfl : p0_0 = none := by simpa using h1
    obtain rfl : a0 = [] := nil_of_none hr0_0
    obtain rfl : r = [] := (cnt_some H0).1
    exact sr (oD (sg rfl) rfl (nn (cw_ret (kw_nx_ret (kw_addNil 0 (kw_ret Tryz.results147 (.cons (.tmp rfl) .nil) [(0, [])] [0] ⟨0, [], rfl, rfl, trivial⟩ (by decide) ⟨none, 0, 0, [], rfl, rfl, rfl, (OwnC.nil _ _)⟩))))))
  · have := True.intro
    refine cw_skip (kw_nx (sr (oE (stpU_lit0 sl40 1) rfl ?_)))
    rintro _ _ ⟨p2, C3, rfl, rfl, o3⟩
    refine oD (mv rfl) rfl ?_
    have e4 : cnt (([] : List Ln) ++ a0) = some r := H0
    refine oE (stpU_append sl40 rfl (id := 1) rfl (by simp) rfl rfl rfl o3 (Rdb.ro hr0_0) e4) rfl ?_
    rintro _ _ ⟨p5, c6, C7, rfl, rfl, o7⟩
    exact oD (sg rfl) rfl (nn (cw_ret (kw_ret Tryz.results147 (.cons (.tmp rfl) .nil) [(0, C7)] [1] ⟨1, [], rfl, rfl, trivial⟩ (by decide) ⟨p5, ((r).length), c6, C7, rfl, rfl, rfl, o7⟩)))

set_option maxHeartbeats 4000000 in
set_option maxRecDepth 20000 in
theorem c_slices_Clone_Own (fl : Nat) (w : World) (a0 : (List Ow)) (p0_0 : Option Addr) (n0_0 c0_0 : Nat) (hn0_0 : n0_0 = (a0).length) (hr0_0 : RO w (hkeys []) (RdL p0_0 c0_0 a0)) (r : (List Ow)) (H0 : slices_Clone_Own fl a0 = some r) :
    Ct Tryz.prog 149 [.slice p0_0 n0_0 c0_0] w [] (fun rv h' => ∃ (x0 : Option Addr) (y0 z0 : Nat) (C0 : Res), rv = .slice x0 y0 z0 ∧ h' = [(0, C0)] ∧ y0 = (r).length ∧ OwnC 148 x0 z0 r C0) := by
  obtain rfl := hn0_0
  unfold slices_Clone_Own at H0
  refine ct_of_cw Tryz.func149 rfl Tryz.ntmps149 rfl (Sat.refl _ _) ?_
  refine sr (oD (sg rfl) rfl (nn (cw_seq (sr (oD (mv rfl) rfl (oD (stp_eqlNil Tryz.underlying43 rfl) rfl (nn (cw_cond rfl (fun h1 => ?_) (fun h1 => ?_)))))))))
  · have := True.intro
    obtain rfl : p0_0 = none := by simpa using h1
    obtain rfl : a0 = [] := nil_of_none hr0_0
    obtain rfl : r = [] := (cnt_some H0).1
    exact sr (oD (sg rfl) rfl (nn (cw_ret (kw_nx_ret (kw_addNil 0 (kw_ret Tryz.results149 (.cons (.tmp rfl) .nil) [(0, [])] [0] ⟨0, [], rfl, rfl, trivial⟩ (by decide) ⟨none, 0, 0, [], rfl, rfl, rfl, (OwnC.nil _ _)⟩))))))
  · have := True.intro
    refine cw_skip (kw_nx (sr (oE (stpU_lit0 sl43 1) rfl ?_)))
    rintro _ _ ⟨p2, C3, rfl, rfl, o3⟩
    refine oD (mv rfl) rfl ?_
    have e4 : cnt (([] : List Ow) ++ a0) = some r := H0
    refine oE (stpU_append sl43 rfl (id := 1) rfl (by simp) rfl rfl rfl o3 (Rdb.ro hr0_0) e4) rfl ?_
    rintro _ _ ⟨p5, c6, C7, rfl, rfl, o7⟩
    exact oD (sg rfl) rfl (nn (cw_ret (kw_ret Tryz.results149 (.cons (.tmp rfl) .nil) [(0, C7)] [1] ⟨1, [], rfl, rfl, trivial⟩ (by decide) ⟨p5, ((r).length), c6, C7, rfl, rfl, rfl, o7⟩)))

set_option maxHeartbeats 4000000 in
set_option maxRecDepth 20000 in
theorem c_i_Machine_clone (fl : Nat) (w : World) (a0 : Mc) (p0_0 : Option Addr) (n0_0 c0_0 : Nat) (p0_1 : Option Addr) (n0_1 c0_1 : Nat) (p0_2 : Option Addr) (n0_2 c0_2 : Nat) (p0_3 : Option Addr) (n0_3 c0_3 : Nat) (hn0_0 : n0_0 = (a0.t.b).length) (hr0_0 : RO w (hkeys []) (RdL p0_0 c0_0 a0.t.b)) (hn0_1 : n0_1 = (a0.t.f).length) (hr0_1 : RO w (hkeys []) (RdL p0_1 c0_1 a0.t.f)) (hn0_2 : n0_2 = (a0.c.l).length) (hr0_2 : RO w (hkeys []) (RdL p0_2 c0_2 a0.c.l)) (hn0_3 : n0_3 = (a0.g.o).length) (hr0_3 : RO w (hkeys []) (RdL p0_3 c0_3 a0.g.o)) (r : Mc) (H0 : i_Machine_clone fl a0 = some r) :
    Ct Tryz.prog 63 [.agg #[.slice p0_0 n0_0 c0_0, .slice p0_1 n0_1 c0_1, .slice p0_2 n0_2 c0_2, .int .i64 a0.c.h, .int .i64 a0.g.c, .int .i64 a0.g.n, .int .i64 a0.g.r, .slice p0_3 n0_3 c0_3, .int .i64 a0.s]] w [] (fun rv h' => ∃ (x0 : Option Addr) (y0 z0 : Nat) (C0 : Res) (x1 : Option Addr) (y1 z1 : Nat) (C1 : Res) (x2 : Option Addr) (y2 z2 : Nat) (C2 : Res) (x3 : Option Addr) (y3 z3 : Nat) (C3 : Res), rv = .agg #[.slice x0 y0 z0, .slice x1 y1 z1, .slice x2 y2 z2, .int .i64 r.c.h, .int .i64 r.g.c, .int .i64 r.g.n, .int .i64 r.g.r, .slice x3 y3 z3, .int .i64 r.s] ∧ h' = [(0, C0), (1, C1), (2, C2), (3, C3)] ∧ y0 = (r.t.b).length ∧ OwnC 3 x0 z0 r.t.b C0 ∧ y1 = (r.t.f).length ∧ OwnC 127 x1 z1 r.t.f C1 ∧ y2 = (r.c.l).length ∧ OwnC 112 x2 z2 r.c.l C2 ∧ y3 = (r.g.o).length ∧ OwnC 148 x3 z3 r.g.o C3) := by
  obtain rfl := hn0_0
  obtain rfl := hn0_1
  obtain rfl := hn0_2
  obtain rfl := hn0_3
  unfold i_Machine_clone at H0
  refine ct_of_cw Tryz.func63 rfl Tryz.ntmps63 rfl (Sat.refl _ _) ?_
  refine sr (oE (stpU_box 0 rfl rfl) rfl ?_)
  rintro _ _ ⟨b1, rfl, rfl⟩
  refine oE (stpU_alloc 1 tz47 rfl) rfl ?_
  rintro _ _ ⟨b2, rfl, rfl⟩
  obtain ⟨x3, e3, H0⟩ := bind_some H0
  refine nn (sr (oD (fA 0 Tryz.underlying47 rfl ts39 rfl rfl rfl) rfl (oD (stp_loadN (us := [_, _]) ts39 rfl (Cells.box (id := 0) rfl 2 rfl)) rfl (oE (stpU_call (fun i => 2 + i) cf144 (fun w hw => c_i_Table_clone fl w a0.t p0_0 ((a0.t.b).length) c0_0 p0_1 ((a0.t.f).length) c0_1 rfl (RO.pass hr0_0 hw) rfl (RO.pass hr0_1 hw) x3 e3) (sevs_cons rfl sevs_nil)) rfl ?_))))
  rintro _ _ ⟨_, ⟨p4, n5, c6, C7, p8, n9, c10, C11, rfl, rfl, hnn5, o7, hnn9, o11⟩, rfl⟩
  obtain rfl := hnn5
  obtain rfl := hnn9
  refine oD (fA 0 Tryz.underlying47 rfl ts39 rfl rfl rfl) rfl (oF (stpU_store (id := 0) (cs' := [.slice p4 ((x3.b).length) c6, .slice p8 ((x3.f).length) c10, .slice p0_2 ((a0.c.l).length) c0_2, .int .i64 a0.c.h, .int .i64 a0.g.c, .int .i64 a0.g.n, .int .i64 a0.g.r, .slice p0_3 ((a0.g.o).length) c0_3, .int .i64 a0.s]) ts39 rfl rfl rfl rfl rfl rfl rfl) ?_)
  rintro _ _ rfl
  obtain ⟨x12, e12, H0⟩ := bind_some H0
  refine nn (sr (oD (fA 2 Tryz.underlying47 rfl ts42 rfl rfl rfl) rfl (oD (fA 0 Tryz.underlying42 rfl ts40 rfl rfl rfl) rfl (oD (lB 0 ts40 rfl rfl rfl) rfl (oE (stpU_call (fun i => 4 + i) cf147 (fun w hw => c_slices_Clone_Line fl w a0.c.l p0_2 ((a0.c.l).length) c0_2 rfl (RO.pass hr0_2 hw) x12 e12) (sevs_cons rfl sevs_nil)) rfl ?_)))))
  rintro _ _ ⟨_, ⟨p13, n14, c15, C16, rfl, rfl, hnn14, o16⟩, rfl⟩
  obtain rfl := hnn14
  refine oE (stpU_call (fun i => i) cf146 (fun w hw => c_clip146 w p13 ((x12).length) c15 (OwnC.len o16).1) (sevs_cons rfl sevs_nil)) rfl ?_
  rintro _ _ ⟨_, ⟨rfl, rfl⟩, rfl⟩
  refine oD (fA 2 Tryz.underlying47 rfl ts42 rfl rfl rfl) rfl (oD (fA 0 Tryz.underlying42 rfl ts40 rfl rfl rfl) rfl (oF (stpU_store (id := 0) (cs' := [.slice p4 ((x3.b).length) c6, .slice p8 ((x3.f).length) c10, .slice p13 ((x12).length) ((x12).length), .int .i64 a0.c.h, .int .i64 a0.g.c, .int .i64 a0.g.n, .int .i64 a0.g.r, .slice p0_3 ((a0.g.o).length) c0_3, .int .i64 a0.s]) ts40 rfl rfl rfl rfl rfl rfl rfl) ?_))
  rintro _ _ rfl
  obtain ⟨x17, e17, H0⟩ := bind_some H0
  refine nn (sr (oD (fA 4 Tryz.underlying47 rfl ts45 rfl rfl rfl) rfl (oD (fA 3 Tryz.underlying45 rfl ts43 rfl rfl rfl) rfl (oD (lB 0 ts43 rfl rfl rfl) rfl (oE (stpU_call (fun i => 5 + i) cf149 (fun w hw => c_slices_Clone_Own fl w a0.g.o p0_3 ((a0.g.o).length) c0_3 rfl (RO.pass hr0_3 hw) x17 e17) (sevs_cons rfl sevs_nil)) rfl ?_)))))
  rintro _ _ ⟨_, ⟨p18, n19, c20, C21, rfl, rfl, hnn19, o21⟩, rfl⟩
  obtain rfl := hnn19
  refine oE (stpU_call (fun i => i) cf148 (fun w hw => c_clip148 w p18 ((x17).length) c20 (OwnC.len o21).1) (sevs_cons rfl sevs_nil)) rfl ?_
  rintro _ _ ⟨_, ⟨rfl, rfl⟩, rfl⟩
  refine oD (fA 4 Tryz.underlying47 rfl ts45 rfl rfl rfl) rfl (oD (fA 3 Tryz.underlying45 rfl ts43 rfl rfl rfl) rfl (oF (stpU_store (id := 0) (cs' := [.slice p4 ((x3.b).length) c6, .slice p8 ((x3.f).length) c10, .slice p13 ((x12).length) ((x12).length), .int .i64 a0.c.h, .int .i64 a0.g.c, .int .i64 a0.g.n, .int .i64 a0.g.r, .slice p18 ((x17).length) ((x17).length), .int .i64 a0.s]) ts43 rfl rfl rfl rfl rfl rfl rfl) ?_))
  rintro _ _ rfl
  refine nn (sr (oD (stp_loadN (us := [_, _, _, _, _, _, _, _, _]) ts47 rfl (Cells.box (id := 0) rfl 9 rfl)) rfl (oF (stpU_store (id := 1) (cs' := [.slice p4 ((x3.b).length) c6, .slice p8 ((x3.f).length) c10, .slice p13 ((x12).length) ((x12).length), .int .i64 a0.c.h, .int .i64 a0.g.c, .int .i64 a0.g.n, .int .i64 a0.g.r, .slice p18 ((x17).length) ((x17).length), .int .i64 a0.s]) ts47 rfl rfl rfl rfl rfl rfl rfl) ?_)))
  rintro _ _ rfl
  refine nn (cw_ret ?_)
  have q0 := Option.some.inj H0
  subst q0
  exact kw_ret Tryz.results63 (.cons (.cellN (us := [_, _, _, _, _, _, _, _, _]) ts47 rfl (Cells.box (id := 1) rfl 9 rfl)) .nil) [(0, C7), (1, C11), (2, C16), (3, C21)] [2, 3, 4, 5] ⟨2, [3, 4, 5], rfl, rfl, 3, [4, 5], rfl, rfl, 4, [5], rfl, rfl, 5, [], rfl, rfl, trivial⟩ (by decide) ⟨p4, ((x3.b).length), c6, C7, p8, ((x3.f).length), c10, C11, p13, ((x12).length), ((x12).length), C16, p18, ((x17).length), ((x17).length), C21, rfl, rfl, rfl, o7, rfl, o11, rfl, (OwnC.clip o16), rfl, (OwnC.clip o21)⟩

set_option maxHeartbeats 4000000 in
set_option maxRecDepth 20000 in
theorem c_l_eqIntS (fl : Nat) (w : World) (a0 : (List Int)) (p0_0 : Option Addr) (n0_0 c0_0 : Nat) (a1 : (List Int)) (p1_0 : Option Addr) (n1_0 c1_0 : Nat) (hn0_0 : n0_0 = (a0).length) (hr0_0 : RO w (hkeys []) (RdL p0_0 c0_0 a0)) (hn1_0 : n1_0 = (a1).length) (hr1_0 : RO w (hkeys []) (RdL p1_0 c1_0 a1)) (r : Bool) (H0 : l_eqIntS fl a0 a1 = some r) :
    Ct Tryz.prog 150 [.slice p0_0 n0_0 c0_0, .slice p1_0 n1_0 c1_0] w [] (fun rv h' => rv = .bool r ∧ h' = []) := by
  obtain rfl := hn0_0
  obtain rfl := hn1_0
  unfold l_eqIntS at H0
  refine ct_of_cw Tryz.func150 rfl Tryz.ntmps150 rfl (Sat.refl _ _) ?_
  refine sr (oD (sg rfl) rfl (nn (cw_seq (sr (oD (mv rfl) rfl (oD (stp_len Tryz.underlying22 rfl) rfl (oD (mv rfl) rfl (oD (stp_len Tryz.underlying22 rfl) rfl (oD (stp_neq rfl rfl) rfl (nn (cw_cond rfl (fun h1 => ?_) (fun h1 => ?_))))))))))))
  · have H0 := cond_t H0 h1
    refine sr (oD (sg rfl) rfl (nn (cw_ret (kw_nx_ret ?_))))
    have q0 := Option.some.inj H0
    subst q0
    exact kw_ret Tryz.results150 (.cons (.tmp rfl) .nil) [] [] trivial (by decide) ⟨rfl, rfl⟩
  · have H0 := cond_f H0 h1
    obtain ⟨o0_0, eo0_0, H0⟩ := bind_some H0
    refine cw_skip (kw_nx (cw_seq (sr (oD (sg rfl) rfl (nn (cw_join (ι := Int) (fun | v2 => o0_0 = .out v2) (fun | v2 => [(0, .slice p0_0 ((a0).length) c0_0), (1, .slice p1_0 ((a1).length) c1_0), (5, .int .i64 v2)]) (fun | v2 => []) ?_ ?_))))))
    · refine cw_block (cw_loopS (ι := Nat × Int) (js := []) (fun x => x.1) (fun | (fuel, v2) => l_eqIntS_L0 fl a0 a1 fuel v2 = some o0_0) (fun | (_, v2) => [(0, .slice p0_0 ((a0).length) c0_0), (1, .slice p1_0 ((a1).length) c1_0), (5, .int .i64 v2)]) (fun | (_, v2) => []) (fl, 0) eo0_0 ⟨rfl, rfl, rfl, trivial⟩ trivial (by decide) ?_)
      rintro ⟨fuel, v2⟩ H1
      have H1 : l_eqIntS_L0 fl a0 a1 fuel v2 = some o0_0 := H1
      rcases fuel with _ | fuel
      · rw [l_eqIntS_L0.eq_1] at H1; cases H1
      rw [l_eqIntS_L0.eq_2] at H1
      refine CW.sub (s' := [(0, .slice p0_0 ((a0).length) c0_0), (1, .slice p1_0 ((a1).length) c1_0), (5, .int .i64 v2)]) (h' := []) ?_ ⟨rfl, rfl, rfl, trivial⟩ trivial
      refine cw_seq (sr (oD (mv rfl) rfl (oD (mv rfl) rfl (oD (stp_len Tryz.underlying22 rfl) rfl (oD (stp_lss rfl rfl) rfl (nn (cw_cond rfl (fun h3 => ?_) (fun h3 => ?_))))))))
      · have H1 := cond_t H1 h3
        obtain ⟨x4, e4, H1⟩ := bind_some H1
        obtain ⟨x5, e5, H1⟩ := bind_some H1
        refine cw_skip (kw_nx (cw_seq (cw_block (cw_seq (rdr g_mixed [0, 1, 5] [] { dst := dS [18, 19, 20, 21, 22, 23, 24, 25, 26], pre := gA [] [[], [], [0, 1], [0, 1, 2], [], [], [4, 5], [4, 5, 6], rn 0 8], ids := fun _ => [], rs := rL [[(0, 0)], [(5, 0)], [(17, 1), (18, 2)], [(19, 3)], [(1, 0)], [(5, 0)], [(21, 5), (22, 6)], [(23, 7)], [(20, 4), (24, 8)]], rh := fun _ => [], V := fun i g => gA undef [.slice p0_0 ((a0).length) c0_0, .int .i64 v2, .pointer (some ⟨eB p0_0, eO p0_0 + Int.toNat v2 * Enc.sz Int + 0, none⟩), .int .i64 x4, .slice p1_0 ((a1).length) c1_0, .int .i64 v2, .pointer (some ⟨eB p1_0, eO p1_0 + Int.toNat v2 * Enc.sz Int + 0, none⟩), .int .i64 x5, .bool (x4 != x5)] i, U := fun _ _ => [], Φ := fun _ _ => True } ?_ ?_)))))
        · exact ⟨⟨⟨⟨⟨⟨⟨⟨⟨trivial, lc rfl rfl fun hs hh => stp_move (sv hs 0 rfl)⟩, lc rfl rfl fun hs hh => stp_move (sv hs 5 rfl)⟩, lc rfl rfl fun hs hh => stp_indexAddr Tryz.underlying22 ts3 (by decide) (sv hs 17 rfl) rfl (sv hs 18 rfl) (Rdb.ro hr0_0) e4⟩, lc rfl rfl fun hs hh => stp_load1 ts3 (sv hs 19 rfl) (Cells.el (Rdb.ro hr0_0) (by decide) e4 0 1 rfl)⟩, lc rfl rfl fun hs hh => stp_move (sv hs 1 rfl)⟩, lc rfl rfl fun hs hh => stp_move (sv hs 5 rfl)⟩, lc rfl rfl fun hs hh => stp_indexAddr Tryz.underlying22 ts3 (by decide) (sv hs 21 rfl) rfl (sv hs 22 rfl) (Rdb.ro hr1_0) e5⟩, lc rfl rfl fun hs hh => stp_load1 ts3 (sv hs 23 rfl) (Cells.el (Rdb.ro hr1_0) (by decide) e5 0 1 rfl)⟩, lc rfl rfl fun hs hh => stp_neq (sv hs 20 rfl) (sv hs 24 rfl)⟩
        · intro g hΦ
          refine KW.sub (s' := [(0, .slice p0_0 ((a0).length) c0_0), (1, .slice p1_0 ((a1).length) c1_0), (5, .int .i64 v2), (25, .bool (x4 != x5))]) (h' := []) ?_ ⟨rfl, rfl, rfl, rfl, trivial⟩ trivial
          refine kw_nx (cw_cond rfl (fun h6 => ?_) (fun h6 => ?_))
          · have H1 := cond_t H1 h6
            refine sr (oD (sg rfl) rfl (nn (cw_ret (kw_bl_ret (kw_nx_ret (kw_lq_ret (kw_bl_ret (kw_join_ret (kw_nx_ret ?_)))))))))
            have q1 := Option.some.inj H1
            subst q1
            have q0 := Option.some.inj H0
            subst q0
            exact kw_ret Tryz.results150 (.cons (.tmp rfl) .nil) [] [] trivial (by decide) ⟨rfl, rfl⟩
          · have H1 := cond_f H1 h6
            obtain ⟨x7, e7, H1⟩ := bind_some H1
            exact cw_skip (kw_bl_normal (kw_nx (cw_region (oD (mv rfl) rfl (oD (stp_add rfl rfl e7) rfl (oD (sg rfl) rfl (ow_nil (kw_lqS (js := []) (fuel, x7) H1 (Nat.lt_succ_self _) ⟨rfl, rfl, rfl, trivial⟩ trivial (by decide)))))))))
      · have H1 := cond_f H1 h3
        refine cw_exit (kw_nx_exit (kw_lq_exit (kw_bl ?_)))
        have q1 := Option.some.inj H1
        subst q1
        exact kw_joinS (js := []) v2 rfl ⟨rfl, rfl, rfl, trivial⟩ trivial (by decide)
    · rintro v2 rfl
      refine KW.sub (s' := [(0, .slice p0_0 ((a0).length) c0_0), (1, .slice p1_0 ((a1).length) c1_0), (5, .int .i64 v2)]) (h' := []) ?_ ⟨rfl, rfl, rfl, trivial⟩ trivial
      refine kw_nx (sr (oD (sg rfl) rfl (nn (cw_ret ?_))))
      have q0 := Option.some.inj H0
      subst q0
      exact kw_ret Tryz.results150 (.cons (.tmp rfl) .nil) [] [] trivial (by decide) ⟨rfl, rfl⟩

set_option maxHeartbeats 4000000 in
set_option maxRecDepth 20000 in
theorem c_l_eqKey (fl : Nat) (w : World) (a0 : K) (a1 : K) (r : Bool) (H0 : l_eqKey fl a0 a1 = some r) :
    Ct Tryz.prog 215 [.agg #[.int .i64 a0.s, .int .i64 a0.p], .agg #[.int .i64 a1.s, .int .i64 a1.p]] w [] (fun rv h' => rv = .bool r ∧ h' = []) := by
  unfold l_eqKey at H0
  refine ct_of_cw Tryz.func215 rfl Tryz.ntmps215 rfl (Sat.refl _ _) ?_
  refine sr (oE (stpU_box 0 rfl rfl) rfl ?_)
  rintro _ _ ⟨b1, rfl, rfl⟩
  refine oE (stpU_box 1 rfl rfl) rfl ?_
  rintro _ _ ⟨b2, rfl, rfl⟩
  refine oD (sg rfl) rfl (nn (cw_seq (sr (oD (fA 0 Tryz.underlying51 rfl ts3 rfl rfl rfl) rfl (oD (lB 0 ts3 rfl rfl rfl) rfl (oD (fA 0 Tryz.underlying51 rfl ts3 rfl rfl rfl) rfl (oD (lB 1 ts3 rfl rfl rfl) rfl (oD (stp_neq rfl rfl) rfl (nn (cw_cond rfl (fun h3 => ?_) (fun h3 => ?_)))))))))))
  · have H0 := cond_t H0 h3
    refine sr (oD (sg rfl) rfl (nn (cw_ret (kw_nx_ret ?_))))
    have q0 := Option.some.inj H0
    subst q0
    exact kw_ret Tryz.results215 (.cons (.tmp rfl) .nil) [] [] trivial (by decide) ⟨rfl, rfl⟩
  · have H0 := cond_f H0 h3
    refine cw_skip (kw_nx (cw_seq (sr (oD (fA 1 Tryz.underlying51 rfl ts3 rfl rfl rfl) rfl (oD (lB 0 ts3 rfl rfl rfl) rfl (oD (fA 1 Tryz.underlying51 rfl ts3 rfl rfl rfl) rfl (oD (lB 1 ts3 rfl rfl rfl) rfl (oD (stp_neq rfl rfl) rfl (nn (cw_cond rfl (fun h4 => ?_) (fun h4 => ?_)))))))))))
    · have H0 := cond_t H0 h4
      refine sr (oD (sg rfl) rfl (nn (cw_ret (kw_nx_ret ?_))))
      have q0 := Option.some.inj H0
      subst q0
      exact kw_ret Tryz.results215 (.cons (.tmp rfl) .nil) [] [] trivial (by decide) ⟨rfl, rfl⟩
    · have H0 := cond_f H0 h4
      refine cw_skip (kw_nx (sr (oD (sg rfl) rfl (nn (cw_ret ?_)))))
      have q0 := Option.some.inj H0
      subst q0
      exact kw_ret Tryz.results215 (.cons (.tmp rfl) .nil) [] [] trivial (by decide) ⟨rfl, rfl⟩

set_option maxHeartbeats 4000000 in
set_option maxRecDepth 20000 in
theorem c_l_eqFrame (fl : Nat) (w : World) (a0 : F) (a1 : F) (r : Bool) (H0 : l_eqFrame fl a0 a1 = some r) :
    Ct Tryz.prog 203 [.agg #[.bool a0.u, .int .i64 a0.k.s, .int .i64 a0.k.p, .int .i64 a0.r, .int .i64 a0.nx], .agg #[.bool a1.u, .int .i64 a1.k.s, .int .i64 a1.k.p, .int .i64 a1.r, .int .i64 a1.nx]] w [] (fun rv h' => rv = .bool r ∧ h' = []) := by
  unfold l_eqFrame at H0
  refine ct_of_cw Tryz.func203 rfl Tryz.ntmps203 rfl (Sat.refl _ _) ?_
  refine sr (oE (stpU_box 0 rfl rfl) rfl ?_)
  rintro _ _ ⟨b1, rfl, rfl⟩
  refine oE (stpU_box 1 rfl rfl) rfl ?_
  rintro _ _ ⟨b2, rfl, rfl⟩
  refine oD (sg rfl) rfl (nn (cw_seq (sr (oD (fA 0 Tryz.underlying127 rfl ts4 rfl rfl rfl) rfl (oD (lB 0 ts4 rfl rfl rfl) rfl (oD (fA 0 Tryz.underlying127 rfl ts4 rfl rfl rfl) rfl (oD (lB 1 ts4 rfl rfl rfl) rfl (oD (stp_neqB Tryz.underlying4 rfl rfl) rfl (nn (cw_cond rfl (fun h3 => ?_) (fun h3 => ?_)))))))))))
  · have H0 := cond_t H0 h3
    refine sr (oD (sg rfl) rfl (nn (cw_ret (kw_nx_ret ?_))))
    have q0 := Option.some.inj H0
    subst q0
    exact kw_ret Tryz.results203 (.cons (.tmp rfl) .nil) [] [] trivial (by decide) ⟨rfl, rfl⟩
  · have H0 := cond_f H0 h3
    obtain ⟨x4, e4, H0⟩ := bind_some H0
    refine cw_skip (kw_nx (cw_seq (sr (oD (fA 1 Tryz.underlying127 rfl ts51 rfl rfl rfl) rfl (oD (stp_loadN (us := [_, _]) ts51 rfl (Cells.box (id := 0) rfl 2 rfl)) rfl (oD (fA 1 Tryz.underlying127 rfl ts51 rfl rfl rfl) rfl (oD (stp_loadN (us := [_, _]) ts51 rfl (Cells.box (id := 1) rfl 2 rfl)) rfl (oE (stpU_call (fun i => 2 + i) cf215 (fun w hw => c_l_eqKey fl w a0.k a1.k x4 e4) (sevs_cons rfl (sevs_cons rfl sevs_nil))) rfl ?_))))))))
    rintro _ _ ⟨_, ⟨rfl, rfl⟩, rfl⟩
    refine oD (stp_not rfl) rfl (nn (cw_cond rfl (fun h5 => ?_) (fun h5 => ?_)))
    · have H0 := cond_t H0 h5
      refine sr (oD (sg rfl) rfl (nn (cw_ret (kw_nx_ret ?_))))
      have q0 := Option.some.inj H0
      subst q0
      exact kw_ret Tryz.results203 (.cons (.tmp rfl) .nil) [] [] trivial (by decide) ⟨rfl, rfl⟩
    · have H0 := cond_f H0 h5
      refine cw_skip (kw_nx (cw_seq (sr (oD (fA 3 Tryz.underlying127 rfl ts3 rfl rfl rfl) rfl (oD (lB 0 ts3 rfl rfl rfl) rfl (oD (fA 3 Tryz.underlying127 rfl ts3 rfl rfl rfl) rfl (oD (lB 1 ts3 rfl rfl rfl) rfl (oD (stp_neq rfl rfl) rfl (nn (cw_cond rfl (fun h6 => ?_) (fun h6 => ?_)))))))))))
      · have H0 := cond_t H0 h6
        refine sr (oD (sg rfl) rfl (nn (cw_ret (kw_nx_ret ?_))))
        have q0 := Option.some.inj H0
        subst q0
        exact kw_ret Tryz.results203 (.cons (.tmp rfl) .nil) [] [] trivial (by decide) ⟨rfl, rfl⟩
      · have H0 := cond_f H0 h6
        refine cw_skip (kw_nx (cw_seq (sr (oD (fA 4 Tryz.underlying127 rfl ts3 rfl rfl rfl) rfl (oD (lB 0 ts3 rfl rfl rfl) rfl (oD (fA 4 Tryz.underlying127 rfl ts3 rfl rfl rfl) rfl (oD (lB 1 ts3 rfl rfl rfl) rfl (oD (stp_neq rfl rfl) rfl (nn (cw_cond rfl (fun h7 => ?_) (fun h7 => ?_)))))))))))
        · have H0 := cond_t H0 h7
          refine sr (oD (sg rfl) rfl (nn (cw_ret (kw_nx_ret ?_))))
          have q0 := Option.some.inj H0
          subst q0
          exact kw_ret Tryz.results203 (.cons (.tmp rfl) .nil) [] [] trivial (by decide) ⟨rfl, rfl⟩
        · have H0 := cond_f H0 h7
          refine cw_skip (kw_nx (sr (oD (sg rfl) rfl (nn (cw_ret ?_)))))
          have q0 := Option.some.inj H0
          subst q0
          exact kw_ret Tryz.results203 (.cons (.tmp rfl) .nil) [] [] trivial (by decide) ⟨rfl, rfl⟩

set_option maxHeartbeats 4000000 in
set_option maxRecDepth 20000 in
theorem c_l_eqFrameS (fl : Nat) (w : World) (a0 : (List F)) (p0_0 : Option Addr) (n0_0 c0_0 : Nat) (a1 : (List F)) (p1_0 : Option Addr) (n1_0 c1_0 : Nat) (hn0_0 : n0_0 = (a0).length) (hr0_0 : RO w (hkeys []) (RdL p0_0 c0_0 a0)) (hn1_0 : n1_0 = (a1).length) (hr1_0 : RO w (hkeys []) (RdL p1_0 c1_0 a1)) (r : Bool) (H0 : l_eqFrameS fl a0 a1 = some r) :
    Ct Tryz.prog 151 [.slice p0_0 n0_0 c0_0, .slice p1_0 n1_0 c1_0] w [] (fun rv h' => rv = .bool r ∧ h' = []) := by
  obtain rfl := hn0_0
  obtain rfl := hn1_0
  unfold l_eqFrameS at H0
  refine ct_of_cw Tryz.func151 rfl Tryz.ntmps151 rfl (Sat.refl _ _) ?_
  refine sr (oD (sg rfl) rfl (nn (cw_seq (sr (oD (mv rfl) rfl (oD (stp_len Tryz.underlying37 rfl) rfl (oD (mv rfl) rfl (oD (stp_len Tryz.underlying37 rfl) rfl (oD (stp_neq rfl rfl) rfl (nn (cw_cond rfl (fun h1 => ?_) (fun h1 => ?_))))))))))))
  · have H0 := cond_t H0 h1
    refine sr (oD (sg rfl) rfl (nn (cw_ret (kw_nx_ret ?_))))
    have q0 := Option.some.inj H0
    subst q0
    exact kw_ret Tryz.results151 (.cons (.tmp rfl) .nil) [] [] trivial (by decide) ⟨rfl, rfl⟩
  · have H0 := cond_f H0 h1
    obtain ⟨o0_0, eo0_0, H0⟩ := bind_some H0
    refine cw_skip (kw_nx (cw_seq (sr (oD (sg rfl) rfl (nn (cw_join (ι := Int) (fun | v2 => o0_0 = .out v2) (fun | v2 => [(0, .slice p0_0 ((a0).length) c0_0), (1, .slice p1_0 ((a1).length) c1_0), (5, .int .i64 v2)]) (fun | v2 => []) ?_ ?_))))))
    · refine cw_block (cw_loopS (ι := Nat × Int) (js := []) (fun x => x.1) (fun | (fuel, v2) => l_eqFrameS_L0 fl a0 a1 fuel v2 = some o0_0) (fun | (_, v2) => [(0, .slice p0_0 ((a0).length) c0_0), (1, .slice p1_0 ((a1).length) c1_0), (5, .int .i64 v2)]) (fun | (_, v2) => []) (fl, 0) eo0_0 ⟨rfl, rfl, rfl, trivial⟩ trivial (by decide) ?_)
      rintro ⟨fuel, v2⟩ H1
      have H1 : l_eqFrameS_L0 fl a0 a1 fuel v2 = some o0_0 := H1
      rcases fuel with _ | fuel
      · rw [l_eqFrameS_L0.eq_1] at H1; cases H1
      rw [l_eqFrameS_L0.eq_2] at H1
      refine CW.sub (s' := [(0, .slice p0_0 ((a0).length) c0_0), (1, .slice p1_0 ((a1).length) c1_0), (5, .int .i64 v2)]) (h' := []) ?_ ⟨rfl, rfl, rfl, trivial⟩ trivial
      refine cw_seq (sr (oD (mv rfl) rfl (oD (mv rfl) rfl (oD (stp_len Tryz.underlying37 rfl) rfl (oD (stp_lss rfl rfl) rfl (nn (cw_cond rfl (fun h3 => ?_) (fun h3 => ?_))))))))
      · have H1 := cond_t H1 h3
        obtain ⟨x4, e4, H1⟩ := bind_some H1
        obtain ⟨x5, e5, H1⟩ := bind_some H1
        obtain ⟨x6, e6, H1⟩ := bind_some H1
        refine cw_skip (kw_nx (cw_seq (cw_block (cw_seq (rdr g_mixed [0, 1, 5] [] { dst := dS [18, 19, 20, 21, 22, 23, 24, 25, 26, 27], pre := gA [] [[], [], [0, 1], [0, 1, 2], [], [], [4, 5], [4, 5, 6], rn 0 8, rn 0 9], ids := fun _ => [], rs := rL [[(0, 0)], [(5, 0)], [(17, 1), (18, 2)], [(19, 3)], [(1, 0)], [(5, 0)], [(21, 5), (22, 6)], [(23, 7)], [(20, 4), (24, 8)], [(25, 9)]], rh := fun _ => [], V := fun i g => gA undef [.slice p0_0 ((a0).length) c0_0, .int .i64 v2, .pointer (some ⟨eB p0_0, eO p0_0 + Int.toNat v2 * Enc.sz F + 0, none⟩), .agg #[.bool x4.u, .int .i64 x4.k.s, .int .i64 x4.k.p, .int .i64 x4.r, .int .i64 x4.nx], .slice p1_0 ((a1).length) c1_0, .int .i64 v2, .pointer (some ⟨eB p1_0, eO p1_0 + Int.toNat v2 * Enc.sz F + 0, none⟩), .agg #[.bool x5.u, .int .i64 x5.k.s, .int .i64 x5.k.p, .int .i64 x5.r, .int .i64 x5.nx], .bool x6, .bool (!x6)] i, U := fun _ _ => [], Φ := fun _ _ => True } ?_ ?_)))))
        · refine ⟨⟨⟨⟨⟨⟨⟨⟨⟨⟨trivial, lc rfl rfl fun hs hh => stp_move (sv hs 0 rfl)⟩, lc rfl rfl fun hs hh => stp_move (sv hs 5 rfl)⟩, lc rfl rfl fun hs hh => stp_indexAddr Tryz.underlying37 ts127 (by decide) (sv hs 17 rfl) rfl (sv hs 18 rfl) (Rdb.ro hr0_0) e4⟩, lc rfl rfl fun hs hh => stp_loadN (us := [_, _, _, _, _]) ts127 (sv hs 19 rfl) (Cells.el (Rdb.ro hr0_0) (by decide) e4 0 5 rfl)⟩, lc rfl rfl fun hs hh => stp_move (sv hs 1 rfl)⟩, lc rfl rfl fun hs hh => stp_move (sv hs 5 rfl)⟩, lc rfl rfl fun hs hh => stp_indexAddr Tryz.underlying37 ts127 (by decide) (sv hs 21 rfl) rfl (sv hs 22 rfl) (Rdb.ro hr1_0) e5⟩, lc rfl rfl fun hs hh => stp_loadN (us := [_, _, _, _, _]) ts127 (sv hs 23 rfl) (Cells.el (Rdb.ro hr1_0) (by decide) e5 0 5 rfl)⟩, ?_⟩, lc rfl rfl fun hs hh => stp_not (sv hs 25 rfl)⟩
          · refine le rfl rfl (fun g hΦ s h hs hh => (stpU_call (fun i => 0 + i) cf203 (fun w hw => c_l_eqFrame fl w x4 x5 x6 e6) (sevs_cons (sv hs 20 rfl) (sevs_cons (sv hs 24 rfl) sevs_nil)))) ?_
            rintro g _ _ ⟨_, ⟨rfl, rfl⟩, rfl⟩
            exact ⟨⟨[], [], []⟩, trivial, .inr rfl, rfl⟩
        · intro g hΦ
          refine KW.sub (s' := [(0, .slice p0_0 ((a0).length) c0_0), (1, .slice p1_0 ((a1).length) c1_0), (5, .int .i64 v2), (26, .bool (!x6))]) (h' := []) ?_ ⟨rfl, rfl, rfl, rfl, trivial⟩ trivial
          refine kw_nx (cw_cond rfl (fun h7 => ?_) (fun h7 => ?_))
          · have H1 := cond_t H1 h7
            refine sr (oD (sg rfl) rfl (nn (cw_ret (kw_bl_ret (kw_nx_ret (kw_lq_ret (kw_bl_ret (kw_join_ret (kw_nx_ret ?_)))))))))
            have q1 := Option.some.inj H1
            subst q1
            have q0 := Option.some.inj H0
            subst q0
            exact kw_ret Tryz.results151 (.cons (.tmp rfl) .nil) [] [] trivial (by decide) ⟨rfl, rfl⟩
          · have H1 := cond_f H1 h7
            obtain ⟨x8, e8, H1⟩ := bind_some H1
            exact cw_skip (kw_bl_normal (kw_nx (cw_region (oD (mv rfl) rfl (oD (stp_add rfl rfl e8) rfl (oD (sg rfl) rfl (ow_nil (kw_lqS (js := []) (fuel, x8) H1 (Nat.lt_succ_self _) ⟨rfl, rfl, rfl, trivial⟩ trivial (by decide)))))))))
      · have H1 := cond_f H1 h3
        refine cw_exit (kw_nx_exit (kw_lq_exit (kw_bl ?_)))
        have q1 := Option.some.inj H1
        subst q1
        exact kw_joinS (js := []) v2 rfl ⟨rfl, rfl, rfl, trivial⟩ trivial (by decide)
    · rintro v2 rfl
      refine KW.sub (s' := [(0, .slice p0_0 ((a0).length) c0_0), (1, .slice p1_0 ((a1).length) c1_0), (5, .int .i64 v2)]) (h' := []) ?_ ⟨rfl, rfl, rfl, trivial⟩ trivial
      refine kw_nx (sr (oD (sg rfl) rfl (nn (cw_ret ?_))))
      have q0 := Option.some.inj H0
      subst q0
      exact kw_ret Tryz.results151 (.cons (.tmp rfl) .nil) [] [] trivial (by decide) ⟨rfl, rfl⟩

set_option maxHeartbeats 4000000 in
set_option maxRecDepth 20000 in
theorem c_l_eqTable (fl : Nat) (w : World) (a0 : T) (p0_0 : Option Addr) (n0_0 c0_0 : Nat) (p0_1 : Option Addr) (n0_1 c0_1 : Nat) (a1 : T) (p1_0 : Option Addr) (n1_0 c1_0 : Nat) (p1_1 : Option Addr) (n1_1 c1_1 : Nat) (hn0_0 : n0_0 = (a0.b).length) (hr0_0 : RO w (hkeys []) (RdL p0_0 c0_0 a0.b)) (hn0_1 : n0_1 = (a0.f).length) (hr0_1 : RO w (hkeys []) (RdL p0_1 c0_1 a0.f)) (hn1_0 : n1_0 = (a1.b).length) (hr1_0 : RO w (hkeys []) (RdL p1_0 c1_0 a1.b)) (hn1_1 : n1_1 = (a1.f).length) (hr1_1 : RO w (hkeys []) (RdL p1_1 c1_1 a1.f)) (r : Bool) (H0 : l_eqTable fl a0 a1 = some r) :
    Ct Tryz.prog 64 [.agg #[.slice p0_0 n0_0 c0_0, .slice p0_1 n0_1 c0_1], .agg #[.slice p1_0 n1_0 c1_0, .slice p1_1 n1_1 c1_1]] w [] (fun rv h' => rv = .bool r ∧ h' = []) := by
  obtain rfl := hn0_0
  obtain rfl := hn0_1
  obtain rfl := hn1_0
  obtain rfl := hn1_1
  unfold l_eqTable at H0
  refine ct_of_cw Tryz.func64 rfl Tryz.ntmps64 rfl (Sat.refl _ _) ?_
  refine sr (oE (stpU_box 0 rfl rfl) rfl ?_)
  rintro _ _ ⟨b1, rfl, rfl⟩
  refine oE (stpU_box 1 rfl rfl) rfl ?_
  rintro _ _ ⟨b2, rfl, rfl⟩
  obtain ⟨x3, e3, H0⟩ := bind_some H0
  refine oD (sg rfl) rfl (nn (cw_seq (sr (oD (fA 0 Tryz.underlying39 rfl ts22 rfl rfl rfl) rfl (oD (lB 0 ts22 rfl rfl rfl) rfl (oD (fA 0 Tryz.underlying39 rfl ts22 rfl rfl rfl) rfl (oD (lB 1 ts22 rfl rfl rfl) rfl (oE (stpU_call (fun i => 2 + i) cf150 (fun w hw => c_l_eqIntS fl w a0.b p0_0 ((a0.b).length) c0_0 a1.b p1_0 ((a1.b).length) c1_0 rfl (RO.pass hr0_0 hw) rfl (RO.pass hr1_0 hw) x3 e3) (sevs_cons rfl (sevs_cons rfl sevs_nil))) rfl ?_))))))))
  rintro _ _ ⟨_, ⟨rfl, rfl⟩, rfl⟩
  refine oD (stp_not rfl) rfl (nn (cw_cond rfl (fun h4 => ?_) (fun h4 => ?_)))
  · have H0 := cond_t H0 h4
    refine sr (oD (sg rfl) rfl (nn (cw_ret (kw_nx_ret ?_))))
    have q0 := Option.some.inj H0
    subst q0
    exact kw_ret Tryz.results64 (.cons (.tmp rfl) .nil) [] [] trivial (by decide) ⟨rfl, rfl⟩
  · have H0 := cond_f H0 h4
    obtain ⟨x5, e5, H0⟩ := bind_some H0
    refine cw_skip (kw_nx (cw_seq (sr (oD (fA 1 Tryz.underlying39 rfl ts37 rfl rfl rfl) rfl (oD (lB 0 ts37 rfl rfl rfl) rfl (oD (fA 1 Tryz.underlying39 rfl ts37 rfl rfl rfl) rfl (oD (lB 1 ts37 rfl rfl rfl) rfl (oE (stpU_call (fun i => 2 + i) cf151 (fun w hw => c_l_eqFrameS fl w a0.f p0_1 ((a0.f).length) c0_1 a1.f p1_1 ((a1.f).length) c1_1 rfl (RO.pass hr0_1 hw) rfl (RO.pass hr1_1 hw) x5 e5) (sevs_cons rfl (sevs_cons rfl sevs_nil))) rfl ?_))))))))
    rintro _ _ ⟨_, ⟨rfl, rfl⟩, rfl⟩
    refine oD (stp_not rfl) rfl (nn (cw_cond rfl (fun h6 => ?_) (fun h6 => ?_)))
    · have H0 := cond_t H0 h6
      refine sr (oD (sg rfl) rfl (nn (cw_ret (kw_nx_ret ?_))))
      have q0 := Option.some.inj H0
      subst q0
      exact kw_ret Tryz.results64 (.cons (.tmp rfl) .nil) [] [] trivial (by decide) ⟨rfl, rfl⟩
    · have H0 := cond_f H0 h6
      refine cw_skip (kw_nx (sr (oD (sg rfl) rfl (nn (cw_ret ?_)))))
      have q0 := Option.some.inj H0
      subst q0
      exact kw_ret Tryz.results64 (.cons (.tmp rfl) .nil) [] [] trivial (by decide) ⟨rfl, rfl⟩

set_option maxHeartbeats 4000000 in
set_option maxRecDepth 20000 in
theorem c_l_eqLine (fl : Nat) (w : World) (a0 : Ln) (a1 : Ln) (r : Bool) (H0 : l_eqLine fl a0 a1 = some r) :
    Ct Tryz.prog 204 [.agg #[.bool a0.va, .int .i64 a0.tg, .int .i64 a0.pg, .int .i64 a0.fr, .int .i64 a0.ri, .bool a0.wi], .agg #[.bool a1.va, .int .i64 a1.tg, .int .i64 a1.pg, .int .i64 a1.fr, .int .i64 a1.ri, .bool a1.wi]] w [] (fun rv h' => rv = .bool r ∧ h' = []) := by
  unfold l_eqLine at H0
  refine ct_of_cw Tryz.func204 rfl Tryz.ntmps204 rfl (Sat.refl _ _) ?_
  refine sr (oE (stpU_box 0 rfl rfl) rfl ?_)
  rintro _ _ ⟨b1, rfl, rfl⟩
  refine oE (stpU_box 1 rfl rfl) rfl ?_
  rintro _ _ ⟨b2, rfl, rfl⟩
  refine oD (sg rfl) rfl (nn (cw_seq (sr (oD (fA 0 Tryz.underlying112 rfl ts4 rfl rfl rfl) rfl (oD (lB 0 ts4 rfl rfl rfl) rfl (oD (fA 0 Tryz.underlying112 rfl ts4 rfl rfl rfl) rfl (oD (lB 1 ts4 rfl rfl rfl) rfl (oD (stp_neqB Tryz.underlying4 rfl rfl) rfl (nn (cw_cond rfl (fun h3 => ?_) (fun h3 => ?_)))))))))))
  · have H0 := cond_t H0 h3
    refine sr (oD (sg rfl) rfl (nn (cw_ret (kw_nx_ret ?_))))
    have q0 := Option.some.inj H0
    subst q0
    exact kw_ret Tryz.results204 (.cons (.tmp rfl) .nil) [] [] trivial (by decide) ⟨rfl, rfl⟩
  · have H0 := cond_f H0 h3
    refine cw_skip (kw_nx (cw_seq (sr (oD (fA 1 Tryz.underlying112 rfl ts3 rfl rfl rfl) rfl (oD (lB 0 ts3 rfl rfl rfl) rfl (oD (fA 1 Tryz.underlying112 rfl ts3 rfl rfl rfl) rfl (oD (lB 1 ts3 rfl rfl rfl) rfl (oD (stp_neq rfl rfl) rfl (nn (cw_cond rfl (fun h4 => ?_) (fun h4 => ?_)))))))))))
    · have H0 := cond_t H0 h4
      refine sr (oD (sg rfl) rfl (nn (cw_ret (kw_nx_ret ?_))))
      have q0 := Option.some.inj H0
      subst q0
      exact kw_ret Tryz.results204 (.cons (.tmp rfl) .nil) [] [] trivial (by decide) ⟨rfl, rfl⟩
    · have H0 := cond_f H0 h4
      refine cw_skip (kw_nx (cw_seq (sr (oD (fA 2 Tryz.underlying112 rfl ts3 rfl rfl rfl) rfl (oD (lB 0 ts3 rfl rfl rfl) rfl (oD (fA 2 Tryz.underlying112 rfl ts3 rfl rfl rfl) rfl (oD (lB 1 ts3 rfl rfl rfl) rfl (oD (stp_neq rfl rfl) rfl (nn (cw_cond rfl (fun h5 => ?_) (fun h5 => ?_)))))))))))
      · have H0 := cond_t H0 h5
        refine sr (oD (sg rfl) rfl (nn (cw_ret (kw_nx_ret ?_))))
        have q0 := Option.some.inj H0
        subst q0
        exact kw_ret Tryz.results204 (.cons (.tmp rfl) .nil) [] [] trivial (by decide) ⟨rfl, rfl⟩
      · have H0 := cond_f H0 h5
        refine cw_skip (kw_nx (cw_seq (sr (oD (fA 3 Tryz.underlying112 rfl ts3 rfl rfl rfl) rfl (oD (lB 0 ts3 rfl rfl rfl) rfl (oD (fA 3 Tryz.underlying112 rfl ts3 rfl rfl rfl) rfl (oD (lB 1 ts3 rfl rfl rfl) rfl (oD (stp_neq rfl rfl) rfl (nn (cw_cond rfl (fun h6 => ?_) (fun h6 => ?_)))))))))))
        · have H0 := cond_t H0 h6
          refine sr (oD (sg rfl) rfl (nn (cw_ret (kw_nx_ret ?_))))
          have q0 := Option.some.inj H0
          subst q0
          exact kw_ret Tryz.results204 (.cons (.tmp rfl) .nil) [] [] trivial (by decide) ⟨rfl, rfl⟩
        · have H0 := cond_f H0 h6
          refine cw_skip (kw_nx (cw_seq (sr (oD (fA 4 Tryz.underlying112 rfl ts3 rfl rfl rfl) rfl (oD (lB 0 ts3 rfl rfl rfl) rfl (oD (fA 4 Tryz.underlying112 rfl ts3 rfl rfl rfl) rfl (oD (lB 1 ts3 rfl rfl rfl) rfl (oD (stp_neq rfl rfl) rfl (nn (cw_cond rfl (fun h7 => ?_) (fun h7 => ?_)))))))))))
          · have H0 := cond_t H0 h7
            refine sr (oD (sg rfl) rfl (nn (cw_ret (kw_nx_ret ?_))))
            have q0 := Option.some.inj H0
            subst q0
            exact kw_ret Tryz.results204 (.cons (.tmp rfl) .nil) [] [] trivial (by decide) ⟨rfl, rfl⟩
          · have H0 := cond_f H0 h7
            refine cw_skip (kw_nx (cw_seq (sr (oD (fA 5 Tryz.underlying112 rfl ts4 rfl rfl rfl) rfl (oD (lB 0 ts4 rfl rfl rfl) rfl (oD (fA 5 Tryz.underlying112 rfl ts4 rfl rfl rfl) rfl (oD (lB 1 ts4 rfl rfl rfl) rfl (oD (stp_neqB Tryz.underlying4 rfl rfl) rfl (nn (cw_cond rfl (fun h8 => ?_) (fun h8 => ?_)))))))))))
            · have H0 := cond_t H0 h8
              refine sr (oD (sg rfl) rfl (nn (cw_ret (kw_nx_ret ?_))))
              have q0 := Option.some.inj H0
              subst q0
              exact kw_ret Tryz.results204 (.cons (.tmp rfl) .nil) [] [] trivial (by decide) ⟨rfl, rfl⟩
            · have H0 := cond_f H0 h8
              refine cw_skip (kw_nx (sr (oD (sg rfl) rfl (nn (cw_ret ?_)))))
              have q0 := Option.some.inj H0
              subst q0
              exact kw_ret Tryz.results204 (.cons (.tmp rfl) .nil) [] [] trivial (by decide) ⟨rfl, rfl⟩

set_option maxHeartbeats 4000000 in
set_option maxRecDepth 20000 in
theorem c_l_eqLineS (fl : Nat) (w : World) (a0 : (List Ln)) (p0_0 : Option Addr) (n0_0 c0_0 : Nat) (a1 : (List Ln)) (p1_0 : Option Addr) (n1_0 c1_0 : Nat) (hn0_0 : n0_0 = (a0).length) (hr0_0 : RO w (hkeys []) (RdL p0_0 c0_0 a0)) (hn1_0 : n1_0 = (a1).length) (hr1_0 : RO w (hkeys []) (RdL p1_0 c1_0 a1)) (r : Bool) (H0 : l_eqLineS fl a0 a1 = some r) :
    Ct Tryz.prog 152 [.slice p0_0 n0_0 c0_0, .slice p1_0 n1_0 c1_0] w [] (fun rv h' => rv = .bool r ∧ h' = []) := by
  obtain rfl := hn0_0
  obtain rfl := hn1_0
  unfold l_eqLineS at H0
  refine ct_of_cw Tryz.func152 rfl Tryz.ntmps152 rfl (Sat.refl _ _) ?_
  refine sr (oD (sg rfl) rfl (nn (cw_seq (sr (oD (mv rfl) rfl (oD (stp_len Tryz.underlying40 rfl) rfl (oD (mv rfl) rfl (oD (stp_len Tryz.underlying40 rfl) rfl (oD (stp_neq rfl rfl) rfl (nn (cw_cond rfl (fun h1 => ?_) (fun h1 => ?_))))))))))))
  · have H0 := cond_t H0 h1
    refine sr (oD (sg rfl) rfl (nn (cw_ret (kw_nx_ret ?_))))
    have q0 := Option.some.inj H0
    subst q0
    exact kw_ret Tryz.results152 (.cons (.tmp rfl) .nil) [] [] trivial (by decide) ⟨rfl, rfl⟩
  · have H0 := cond_f H0 h1
    obtain ⟨o0_0, eo0_0, H0⟩ := bind_some H0
    refine cw_skip (kw_nx (cw_seq (sr (oD (sg rfl) rfl (nn (cw_join (ι := Int) (fun | v2 => o0_0 = .out v2) (fun | v2 => [(0, .slice p0_0 ((a0).length) c0_0), (1, .slice p1_0 ((a1).length) c1_0), (5, .int .i64 v2)]) (fun | v2 => []) ?_ ?_))))))
    · refine cw_block (cw_loopS (ι := Nat × Int) (js := []) (fun x => x.1) (fun | (fuel, v2) => l_eqLineS_L0 fl a0 a1 fuel v2 = some o0_0) (fun | (_, v2) => [(0, .slice p0_0 ((a0).length) c0_0), (1, .slice p1_0 ((a1).length) c1_0), (5, .int .i64 v2)]) (fun | (_, v2) => []) (fl, 0) eo0_0 ⟨rfl, rfl, rfl, trivial⟩ trivial (by decide) ?_)
      rintro ⟨fuel, v2⟩ H1
      have H1 : l_eqLineS_L0 fl a0 a1 fuel v2 = some o0_0 := H1
      rcases fuel with _ | fuel
      · rw [l_eqLineS_L0.eq_1] at H1; cases H1
      rw [l_eqLineS_L0.eq_2] at H1
      refine CW.sub (s' := [(0, .slice p0_0 ((a0).length) c0_0), (1, .slice p1_0 ((a1).length) c1_0), (5, .int .i64 v2)]) (h' := []) ?_ ⟨rfl, rfl, rfl, trivial⟩ trivial
      refine cw_seq (sr (oD (mv rfl) rfl (oD (mv rfl) rfl (oD (stp_len Tryz.underlying40 rfl) rfl (oD (stp_lss rfl rfl) rfl (nn (cw_cond rfl (fun h3 => ?_) (fun h3 => ?_))))))))
      · have H1 := cond_t H1 h3
        obtain ⟨x4, e4, H1⟩ := bind_some H1
        obtain ⟨x5, e5, H1⟩ := bind_some H1
        obtain ⟨x6, e6, H1⟩ := bind_some H1
        refine cw_skip (kw_nx (cw_seq (cw_block (cw_seq (rdr g_mixed [0, 1, 5] [] { dst := dS [18, 19, 20, 21, 22, 23, 24, 25, 26, 27], pre := gA [] [[], [], [0, 1], [0, 1, 2], [], [], [4, 5], [4, 5, 6], rn 0 8, rn 0 9], ids := fun _ => [], rs := rL [[(0, 0)], [(5, 0)], [(17, 1), (18, 2)], [(19, 3)], [(1, 0)], [(5, 0)], [(21, 5), (22, 6)], [(23, 7)], [(20, 4), (24, 8)], [(25, 9)]], rh := fun _ => [], V := fun i g => gA undef [.slice p0_0 ((a0).length) c0_0, .int .i64 v2, .pointer (some ⟨eB p0_0, eO p0_0 + Int.toNat v2 * Enc.sz Ln + 0, none⟩), .agg #[.bool x4.va, .int .i64 x4.tg, .int .i64 x4.pg, .int .i64 x4.fr, .int .i64 x4.ri, .bool x4.wi], .slice p1_0 ((a1).length) c1_0, .int .i64 v2, .pointer (some ⟨eB p1_0, eO p1_0 + Int.toNat v2 * Enc.sz Ln + 0, none⟩), .agg #[.bool x5.va, .int .i64 x5.tg, .int .i64 x5.pg, .int .i64 x5.fr, .int .i64 x5.ri, .bool x5.wi], .bool x6, .bool (!x6)] i, U := fun _ _ => [], Φ := fun _ _ => True } ?_ ?_)))))
        · refine ⟨⟨⟨⟨⟨⟨⟨⟨⟨⟨trivial, lc rfl rfl fun hs hh => stp_move (sv hs 0 rfl)⟩, lc rfl rfl fun hs hh => stp_move (sv hs 5 rfl)⟩, lc rfl rfl fun hs hh => stp_indexAddr Tryz.underlying40 ts112 (by decide) (sv hs 17 rfl) rfl (sv hs 18 rfl) (Rdb.ro hr0_0) e4⟩, lc rfl rfl fun hs hh => stp_loadN (us := [_, _, _, _, _, _]) ts112 (sv hs 19 rfl) (Cells.el (Rdb.ro hr0_0) (by decide) e4 0 6 rfl)⟩, lc rfl rfl fun hs hh => stp_move (sv hs 1 rfl)⟩, lc rfl rfl fun hs hh => stp_move (sv hs 5 rfl)⟩, lc rfl rfl fun hs hh => stp_indexAddr Tryz.underlying40 ts112 (by decide) (sv hs 21 rfl) rfl (sv hs 22 rfl) (Rdb.ro hr1_0) e5⟩, lc rfl rfl fun hs hh => stp_loadN (us := [_, _, _, _, _, _]) ts112 (sv hs 23 rfl) (Cells.el (Rdb.ro hr1_0) (by decide) e5 0 6 rfl)⟩, ?_⟩, lc rfl rfl fun hs hh => stp_not (sv hs 25 rfl)⟩
          · refine le rfl rfl (fun g hΦ s h hs hh => (stpU_call (fun i => 0 + i) cf204 (fun w hw => c_l_eqLine fl w x4 x5 x6 e6) (sevs_cons (sv hs 20 rfl) (sevs_cons (sv hs 24 rfl) sevs_nil)))) ?_
            rintro g _ _ ⟨_, ⟨rfl, rfl⟩, rfl⟩
            exact ⟨⟨[], [], []⟩, trivial, .inr rfl, rfl⟩
        · intro g hΦ
          refine KW.sub (s' := [(0, .slice p0_0 ((a0).length) c0_0), (1, .slice p1_0 ((a1).length) c1_0), (5, .int .i64 v2), (26, .bool (!x6))]) (h' := []) ?_ ⟨rfl, rfl, rfl, rfl, trivial⟩ trivial
          refine kw_nx (cw_cond rfl (fun h7 => ?_) (fun h7 => ?_))
          · have H1 := cond_t H1 h7
            refine sr (oD (sg rfl) rfl (nn (cw_ret (kw_bl_ret (kw_nx_ret (kw_lq_ret (kw_bl_ret (kw_join_ret (kw_nx_ret ?_)))))))))
            have q1 := Option.some.inj H1
            subst q1
            have q0 := Option.some.inj H0
            subst q0
            exact kw_ret Tryz.results152 (.cons (.tmp rfl) .nil) [] [] trivial (by decide) ⟨rfl, rfl⟩
          · have H1 := cond_f H1 h7
            obtain ⟨x8, e8, H1⟩ := bind_some H1
            exact cw_skip (kw_bl_normal (kw_nx (cw_region (oD (mv rfl) rfl (oD (stp_add rfl rfl e8) rfl (oD (sg rfl) rfl (ow_nil (kw_lqS (js := []) (fuel, x8) H1 (Nat.lt_succ_self _) ⟨rfl, rfl, rfl, trivial⟩ trivial (by decide)))))))))
      · have H1 := cond_f H1 h3
        refine cw_exit (kw_nx_exit (kw_lq_exit (kw_bl ?_)))
        have q1 := Option.some.inj H1
        subst q1
        exact kw_joinS (js := []) v2 rfl ⟨rfl, rfl, rfl, trivial⟩ trivial (by decide)
    · rintro v2 rfl
      refine KW.sub (s' := [(0, .slice p0_0 ((a0).length) c0_0), (1, .slice p1_0 ((a1).length) c1_0), (5, .int .i64 v2)]) (h' := []) ?_ ⟨rfl, rfl, rfl, trivial⟩ trivial
      refine kw_nx (sr (oD (sg rfl) rfl (nn (cw_ret ?_))))
      have q0 := Option.some.inj H0
      subst q0
      exact kw_ret Tryz.results152 (.cons (.tmp rfl) .nil) [] [] trivial (by decide) ⟨rfl, rfl⟩

set_option maxHeartbeats 4000000 in
set_option maxRecDepth 20000 in
theorem c_l_eqCache (fl : Nat) (w : World) (a0 : Ca) (p0_0 : Option Addr) (n0_0 c0_0 : Nat) (a1 : Ca) (p1_0 : Option Addr) (n1_0 c1_0 : Nat) (hn0_0 : n0_0 = (a0.l).length) (hr0_0 : RO w (hkeys []) (RdL p0_0 c0_0 a0.l)) (hn1_0 : n1_0 = (a1.l).length) (hr1_0 : RO w (hkeys []) (RdL p1_0 c1_0 a1.l)) (r : Bool) (H0 : l_eqCache fl a0 a1 = some r) :
    Ct Tryz.prog 65 [.agg #[.slice p0_0 n0_0 c0_0, .int .i64 a0.h], .agg #[.slice p1_0 n1_0 c1_0, .int .i64 a1.h]] w [] (fun rv h' => rv = .bool r ∧ h' = []) := by
  obtain rfl := hn0_0
  obtain rfl := hn1_0
  unfold l_eqCache at H0
  refine ct_of_cw Tryz.func65 rfl Tryz.ntmps65 rfl (Sat.refl _ _) ?_
  refine sr (oE (stpU_box 0 rfl rfl) rfl ?_)
  rintro _ _ ⟨b1, rfl, rfl⟩
  refine oE (stpU_box 1 rfl rfl) rfl ?_
  rintro _ _ ⟨b2, rfl, rfl⟩
  obtain ⟨x3, e3, H0⟩ := bind_some H0
  refine oD (sg rfl) rfl (nn (cw_seq (sr (oD (fA 0 Tryz.underlying42 rfl ts40 rfl rfl rfl) rfl (oD (lB 0 ts40 rfl rfl rfl) rfl (oD (fA 0 Tryz.underlying42 rfl ts40 rfl rfl rfl) rfl (oD (lB 1 ts40 rfl rfl rfl) rfl (oE (stpU_call (fun i => 2 + i) cf152 (fun w hw => c_l_eqLineS fl w a0.l p0_0 ((a0.l).length) c0_0 a1.l p1_0 ((a1.l).length) c1_0 rfl (RO.pass hr0_0 hw) rfl (RO.pass hr1_0 hw) x3 e3) (sevs_cons rfl (sevs_cons rfl sevs_nil))) rfl ?_))))))))
  rintro _ _ ⟨_, ⟨rfl, rfl⟩, rfl⟩
  refine oD (stp_not rfl) rfl (nn (cw_cond rfl (fun h4 => ?_) (fun h4 => ?_)))
  · have H0 := cond_t H0 h4
    refine sr (oD (sg rfl) rfl (nn (cw_ret (kw_nx_ret ?_))))
    have q0 := Option.some.inj H0
    subst q0
    exact kw_ret Tryz.results65 (.cons (.tmp rfl) .nil) [] [] trivial (by decide) ⟨rfl, rfl⟩
  · have H0 := cond_f H0 h4
    refine cw_skip (kw_nx (cw_seq (sr (oD (fA 1 Tryz.underlying42 rfl ts3 rfl rfl rfl) rfl (oD (lB 0 ts3 rfl rfl rfl) rfl (oD (fA 1 Tryz.underlying42 rfl ts3 rfl rfl rfl) rfl (oD (lB 1 ts3 rfl rfl rfl) rfl (oD (stp_neq rfl rfl) rfl (nn (cw_cond rfl (fun h5 => ?_) (fun h5 => ?_)))))))))))
    · have H0 := cond_t H0 h5
      refine sr (oD (sg rfl) rfl (nn (cw_ret (kw_nx_ret ?_))))
      have q0 := Option.some.inj H0
      subst q0
      exact kw_ret Tryz.results65 (.cons (.tmp rfl) .nil) [] [] trivial (by decide) ⟨rfl, rfl⟩
    · have H0 := cond_f H0 h5
      refine cw_skip (kw_nx (sr (oD (sg rfl) rfl (nn (cw_ret ?_)))))
      have q0 := Option.some.inj H0
      subst q0
      exact kw_ret Tryz.results65 (.cons (.tmp rfl) .nil) [] [] trivial (by decide) ⟨rfl, rfl⟩

set_option maxHeartbeats 4000000 in
set_option maxRecDepth 20000 in
theorem c_l_eqOwn (fl : Nat) (w : World) (a0 : Ow) (a1 : Ow) (r : Bool) (H0 : l_eqOwn fl a0 a1 = some r) :
    Ct Tryz.prog 205 [.agg #[.int .i64 a0.sp, .int .i64 a0.tg], .agg #[.int .i64 a1.sp, .int .i64 a1.tg]] w [] (fun rv h' => rv = .bool r ∧ h' = []) := by
  unfold l_eqOwn at H0
  refine ct_of_cw Tryz.func205 rfl Tryz.ntmps205 rfl (Sat.refl _ _) ?_
  refine sr (oE (stpU_box 0 rfl rfl) rfl ?_)
  rintro _ _ ⟨b1, rfl, rfl⟩
  refine oE (stpU_box 1 rfl rfl) rfl ?_
  rintro _ _ ⟨b2, rfl, rfl⟩
  refine oD (sg rfl) rfl (nn (cw_seq (sr (oD (fA 0 Tryz.underlying148 rfl ts3 rfl rfl rfl) rfl (oD (lB 0 ts3 rfl rfl rfl) rfl (oD (fA 0 Tryz.underlying148 rfl ts3 rfl rfl rfl) rfl (oD (lB 1 ts3 rfl rfl rfl) rfl (oD (stp_neq rfl rfl) rfl (nn (cw_cond rfl (fun h3 => ?_) (fun h3 => ?_)))))))))))
  · have H0 := cond_t H0 h3
    refine sr (oD (sg rfl) rfl (nn (cw_ret (kw_nx_ret ?_))))
    have q0 := Option.some.inj H0
    subst q0
    exact kw_ret Tryz.results205 (.cons (.tmp rfl) .nil) [] [] trivial (by decide) ⟨rfl, rfl⟩
  · have H0 := cond_f H0 h3
    refine cw_skip (kw_nx (cw_seq (sr (oD (fA 1 Tryz.underlying148 rfl ts3 rfl rfl rfl) rfl (oD (lB 0 ts3 rfl rfl rfl) rfl (oD (fA 1 Tryz.underlying148 rfl ts3 rfl rfl rfl) rfl (oD (lB 1 ts3 rfl rfl rfl) rfl (oD (stp_neq rfl rfl) rfl (nn (cw_cond rfl (fun h4 => ?_) (fun h4 => ?_)))))))))))
    · have H0 := cond_t H0 h4
      refine sr (oD (sg rfl) rfl (nn (cw_ret (kw_nx_ret ?_))))
      have q0 := Option.some.inj H0
      subst q0
      exact kw_ret Tryz.results205 (.cons (.tmp rfl) .nil) [] [] trivial (by decide) ⟨rfl, rfl⟩
    · have H0 := cond_f H0 h4
      refine cw_skip (kw_nx (sr (oD (sg rfl) rfl (nn (cw_ret ?_)))))
      have q0 := Option.some.inj H0
      subst q0
      exact kw_ret Tryz.results205 (.cons (.tmp rfl) .nil) [] [] trivial (by decide) ⟨rfl, rfl⟩

set_option maxHeartbeats 4000000 in
set_option maxRecDepth 20000 in
theorem c_l_eqOwnS (fl : Nat) (w : World) (a0 : (List Ow)) (p0_0 : Option Addr) (n0_0 c0_0 : Nat) (a1 : (List Ow)) (p1_0 : Option Addr) (n1_0 c1_0 : Nat) (hn0_0 : n0_0 = (a0).length) (hr0_0 : RO w (hkeys []) (RdL p0_0 c0_0 a0)) (hn1_0 : n1_0 = (a1).length) (hr1_0 : RO w (hkeys []) (RdL p1_0 c1_0 a1)) (r : Bool) (H0 : l_eqOwnS fl a0 a1 = some r) :
    Ct Tryz.prog 153 [.slice p0_0 n0_0 c0_0, .slice p1_0 n1_0 c1_0] w [] (fun rv h' => rv = .bool r ∧ h' = []) := by
  obtain rfl := hn0_0
  obtain rfl := hn1_0
  unfold l_eqOwnS at H0
  refine ct_of_cw Tryz.func153 rfl Tryz.ntmps153 rfl (Sat.refl _ _) ?_
  refine sr (oD (sg rfl) rfl (nn (cw_seq (sr (oD (mv rfl) rfl (oD (stp_len Tryz.underlying43 rfl) rfl (oD (mv rfl) rfl (oD (stp_len Tryz.underlying43 rfl) rfl (oD (stp_neq rfl rfl) rfl (nn (cw_cond rfl (fun h1 => ?_) (fun h1 => ?_))))))))))))
  · have H0 := cond_t H0 h1
    refine sr (oD (sg rfl) rfl (nn (cw_ret (kw_nx_ret ?_))))
    have q0 := Option.some.inj H0
    subst q0
    exact kw_ret Tryz.results153 (.cons (.tmp rfl) .nil) [] [] trivial (by decide) ⟨rfl, rfl⟩
  · have H0 := cond_f H0 h1
    obtain ⟨o0_0, eo0_0, H0⟩ := bind_some H0
    refine cw_skip (kw_nx (cw_seq (sr (oD (sg rfl) rfl (nn (cw_join (ι := Int) (fun | v2 => o0_0 = .out v2) (fun | v2 => [(0, .slice p0_0 ((a0).length) c0_0), (1, .slice p1_0 ((a1).length) c1_0), (5, .int .i64 v2)]) (fun | v2 => []) ?_ ?_))))))
    · refine cw_block (cw_loopS (ι := Nat × Int) (js := []) (fun x => x.1) (fun | (fuel, v2) => l_eqOwnS_L0 fl a0 a1 fuel v2 = some o0_0) (fun | (_, v2) => [(0, .slice p0_0 ((a0).length) c0_0), (1, .slice p1_0 ((a1).length) c1_0), (5, .int .i64 v2)]) (fun | (_, v2) => []) (fl, 0) eo0_0 ⟨rfl, rfl, rfl, trivial⟩ trivial (by decide) ?_)
      rintro ⟨fuel, v2⟩ H1
      have H1 : l_eqOwnS_L0 fl a0 a1 fuel v2 = some o0_0 := H1
      rcases fuel with _ | fuel
      · rw [l_eqOwnS_L0.eq_1] at H1; cases H1
      rw [l_eqOwnS_L0.eq_2] at H1
      refine CW.sub (s' := [(0, .slice p0_0 ((a0).length) c0_0), (1, .slice p1_0 ((a1).length) c1_0), (5, .int .i64 v2)]) (h' := []) ?_ ⟨rfl, rfl, rfl, trivial⟩ trivial
      refine cw_seq (sr (oD (mv rfl) rfl (oD (mv rfl) rfl (oD (stp_len Tryz.underlying43 rfl) rfl (oD (stp_lss rfl rfl) rfl (nn (cw_cond rfl (fun h3 => ?_) (fun h3 => ?_))))))))
      · have H1 := cond_t H1 h3
        obtain ⟨x4, e4, H1⟩ := bind_some H1
        obtain ⟨x5, e5, H1⟩ := bind_some H1
        obtain ⟨x6, e6, H1⟩ := bind_some H1
        refine cw_skip (kw_nx (cw_seq (cw_block (cw_seq (rdr g_mixed [0, 1, 5] [] { dst := dS [18, 19, 20, 21, 22, 23, 24, 25, 26, 27], pre := gA [] [[], [], [0, 1], [0, 1, 2], [], [], [4, 5], [4, 5, 6], rn 0 8, rn 0 9], ids := fun _ => [], rs := rL [[(0, 0)], [(5, 0)], [(17, 1), (18, 2)], [(19, 3)], [(1, 0)], [(5, 0)], [(21, 5), (22, 6)], [(23, 7)], [(20, 4), (24, 8)], [(25, 9)]], rh := fun _ => [], V := fun i g => gA undef [.slice p0_0 ((a0).length) c0_0, .int .i64 v2, .pointer (some ⟨eB p0_0, eO p0_0 + Int.toNat v2 * Enc.sz Ow + 0, none⟩), .agg #[.int .i64 x4.sp, .int .i64 x4.tg], .slice p1_0 ((a1).length) c1_0, .int .i64 v2, .pointer (some ⟨eB p1_0, eO p1_0 + Int.toNat v2 * Enc.sz Ow + 0, none⟩), .agg #[.int .i64 x5.sp, .int .i64 x5.tg], .bool x6, .bool (!x6)] i, U := fun _ _ => [], Φ := fun _ _ => True } ?_ ?_)))))
        · refine ⟨⟨⟨⟨⟨⟨⟨⟨⟨⟨trivial, lc rfl rfl fun hs hh => stp_move (sv hs 0 rfl)⟩, lc rfl rfl fun hs hh => stp_move (sv hs 5 rfl)⟩, lc rfl rfl fun hs hh => stp_indexAddr Tryz.underlying43 ts148 (by decide) (sv hs 17 rfl) rfl (sv hs 18 rfl) (Rdb.ro hr0_0) e4⟩, lc rfl rfl fun hs hh => stp_loadN (us := [_, _]) ts148 (sv hs 19 rfl) (Cells.el (Rdb.ro hr0_0) (by decide) e4 0 2 rfl)⟩, lc rfl rfl fun hs hh => stp_move (sv hs 1 rfl)⟩, lc rfl rfl fun hs hh => stp_move (sv hs 5 rfl)⟩, lc rfl rfl fun hs hh => stp_indexAddr Tryz.underlying43 ts148 (by decide) (sv hs 21 rfl) rfl (sv hs 22 rfl) (Rdb.ro hr1_0) e5⟩, lc rfl rfl fun hs hh => stp_loadN (us := [_, _]) ts148 (sv hs 23 rfl) (Cells.el (Rdb.ro hr1_0) (by decide) e5 0 2 rfl)⟩, ?_⟩, lc rfl rfl fun hs hh => stp_not (sv hs 25 rfl)⟩
          · refine le rfl rfl (fun g hΦ s h hs hh => (stpU_call (fun i => 0 + i) cf205 (fun w hw => c_l_eqOwn fl w x4 x5 x6 e6) (sevs_cons (sv hs 20 rfl) (sevs_cons (sv hs 24 rfl) sevs_nil)))) ?_
            rintro g _ _ ⟨_, ⟨rfl, rfl⟩, rfl⟩
            exact ⟨⟨[], [], []⟩, trivial, .inr rfl, rfl⟩
        · intro g hΦ
          refine KW.sub (s' := [(0, .slice p0_0 ((a0).length) c0_0), (1, .slice p1_0 ((a1).length) c1_0), (5, .int .i64 v2), (26, .bool (!x6))]) (h' := []) ?_ ⟨rfl, rfl, rfl, rfl, trivial⟩ trivial
          refine kw_nx (cw_cond rfl (fun h7 => ?_) (fun h7 => ?_))
          · have H1 := cond_t H1 h7
            refine sr (oD (sg rfl) rfl (nn (cw_ret (kw_bl_ret (kw_nx_ret (kw_lq_ret (kw_bl_ret (kw_join_ret (kw_nx_ret ?_)))))))))
            have q1 := Option.some.inj H1
            subst q1
            have q0 := Option.some.inj H0
            subst q0
            exact kw_ret Tryz.results153 (.cons (.tmp rfl) .nil) [] [] trivial (by decide) ⟨rfl, rfl⟩
          · have H1 := cond_f H1 h7
            obtain ⟨x8, e8, H1⟩ := bind_some H1
            exact cw_skip (kw_bl_normal (kw_nx (cw_region (oD (mv rfl) rfl (oD (stp_add rfl rfl e8) rfl (oD (sg rfl) rfl (ow_nil (kw_lqS (js := []) (fuel, x8) H1 (Nat.lt_succ_self _) ⟨rfl, rfl, rfl, trivial⟩ trivial (by decide)))))))))
      · have H1 := cond_f H1 h3
        refine cw_exit (kw_nx_exit (kw_lq_exit (kw_bl ?_)))
        have q1 := Option.some.inj H1
        subst q1
        exact kw_joinS (js := []) v2 rfl ⟨rfl, rfl, rfl, trivial⟩ trivial (by decide)
    · rintro v2 rfl
      refine KW.sub (s' := [(0, .slice p0_0 ((a0).length) c0_0), (1, .slice p1_0 ((a1).length) c1_0), (5, .int .i64 v2)]) (h' := []) ?_ ⟨rfl, rfl, rfl, trivial⟩ trivial
      refine kw_nx (sr (oD (sg rfl) rfl (nn (cw_ret ?_))))
      have q0 := Option.some.inj H0
      subst q0
      exact kw_ret Tryz.results153 (.cons (.tmp rfl) .nil) [] [] trivial (by decide) ⟨rfl, rfl⟩

set_option maxHeartbeats 4000000 in
set_option maxRecDepth 20000 in
theorem c_l_eqTags (fl : Nat) (w : World) (a0 : Tg) (p0_0 : Option Addr) (n0_0 c0_0 : Nat) (a1 : Tg) (p1_0 : Option Addr) (n1_0 c1_0 : Nat) (hn0_0 : n0_0 = (a0.o).length) (hr0_0 : RO w (hkeys []) (RdL p0_0 c0_0 a0.o)) (hn1_0 : n1_0 = (a1.o).length) (hr1_0 : RO w (hkeys []) (RdL p1_0 c1_0 a1.o)) (r : Bool) (H0 : l_eqTags fl a0 a1 = some r) :
    Ct Tryz.prog 66 [.agg #[.int .i64 a0.c, .int .i64 a0.n, .int .i64 a0.r, .slice p0_0 n0_0 c0_0], .agg #[.int .i64 a1.c, .int .i64 a1.n, .int .i64 a1.r, .slice p1_0 n1_0 c1_0]] w [] (fun rv h' => rv = .bool r ∧ h' = []) := by
  obtain rfl := hn0_0
  obtain rfl := hn1_0
  unfold l_eqTags at H0
  refine ct_of_cw Tryz.func66 rfl Tryz.ntmps66 rfl (Sat.refl _ _) ?_
  refine sr (oE (stpU_box 0 rfl rfl) rfl ?_)
  rintro _ _ ⟨b1, rfl, rfl⟩
  refine oE (stpU_box 1 rfl rfl) rfl ?_
  rintro _ _ ⟨b2, rfl, rfl⟩
  refine oD (sg rfl) rfl (nn (cw_seq (sr (oD (fA 0 Tryz.underlying45 rfl ts3 rfl rfl rfl) rfl (oD (lB 0 ts3 rfl rfl rfl) rfl (oD (fA 0 Tryz.underlying45 rfl ts3 rfl rfl rfl) rfl (oD (lB 1 ts3 rfl rfl rfl) rfl (oD (stp_neq rfl rfl) rfl (nn (cw_cond rfl (fun h3 => ?_) (fun h3 => ?_)))))))))))
  · have H0 := cond_t H0 h3
    refine sr (oD (sg rfl) rfl (nn (cw_ret (kw_nx_ret ?_))))
    have q0 := Option.some.inj H0
    subst q0
    exact kw_ret Tryz.results66 (.cons (.tmp rfl) .nil) [] [] trivial (by decide) ⟨rfl, rfl⟩
  · have H0 := cond_f H0 h3
    refine cw_skip (kw_nx (cw_seq (sr (oD (fA 1 Tryz.underlying45 rfl ts3 rfl rfl rfl) rfl (oD (lB 0 ts3 rfl rfl rfl) rfl (oD (fA 1 Tryz.underlying45 rfl ts3 rfl rfl rfl) rfl (oD (lB 1 ts3 rfl rfl rfl) rfl (oD (stp_neq rfl rfl) rfl (nn (cw_cond rfl (fun h4 => ?_) (fun h4 => ?_)))))))))))
    · have H0 := cond_t H0 h4
      refine sr (oD (sg rfl) rfl (nn (cw_ret (kw_nx_ret ?_))))
      have q0 := Option.some.inj H0
      subst q0
      exact kw_ret Tryz.results66 (.cons (.tmp rfl) .nil) [] [] trivial (by decide) ⟨rfl, rfl⟩
    · have H0 := cond_f H0 h4
      refine cw_skip (kw_nx (cw_seq (sr (oD (fA 2 Tryz.underlying45 rfl ts3 rfl rfl rfl) rfl (oD (lB 0 ts3 rfl rfl rfl) rfl (oD (fA 2 Tryz.underlying45 rfl ts3 rfl rfl rfl) rfl (oD (lB 1 ts3 rfl rfl rfl) rfl (oD (stp_neq rfl rfl) rfl (nn (cw_cond rfl (fun h5 => ?_) (fun h5 => ?_)))))))))))
      · have H0 := cond_t H0 h5
        refine sr (oD (sg rfl) rfl (nn (cw_ret (kw_nx_ret ?_))))
        have q0 := Option.some.inj H0
        subst q0
        exact kw_ret Tryz.results66 (.cons (.tmp rfl) .nil) [] [] trivial (by decide) ⟨rfl, rfl⟩
      · have H0 := cond_f H0 h5
        obtain ⟨x6, e6, H0⟩ := bind_some H0
        refine cw_skip (kw_nx (cw_seq (sr (oD (fA 3 Tryz.underlying45 rfl ts43 rfl rfl rfl) rfl (oD (lB 0 ts43 rfl rfl rfl) rfl (oD (fA 3 Tryz.underlying45 rfl ts43 rfl rfl rfl) rfl (oD (lB 1 ts43 rfl rfl rfl) rfl (oE (stpU_call (fun i => 2 + i) cf153 (fun w hw => c_l_eqOwnS fl w a0.o p0_0 ((a0.o).length) c0_0 a1.o p1_0 ((a1.o).length) c1_0 rfl (RO.pass hr0_0 hw) rfl (RO.pass hr1_0 hw) x6 e6) (sevs_cons rfl (sevs_cons rfl sevs_nil))) rfl ?_))))))))
        rintro _ _ ⟨_, ⟨rfl, rfl⟩, rfl⟩
        refine oD (stp_not rfl) rfl (nn (cw_cond rfl (fun h7 => ?_) (fun h7 => ?_)))
        · have H0 := cond_t H0 h7
          refine sr (oD (sg rfl) rfl (nn (cw_ret (kw_nx_ret ?_))))
          have q0 := Option.some.inj H0
          subst q0
          exact kw_ret Tryz.results66 (.cons (.tmp rfl) .nil) [] [] trivial (by decide) ⟨rfl, rfl⟩
        · have H0 := cond_f H0 h7
          refine cw_skip (kw_nx (sr (oD (sg rfl) rfl (nn (cw_ret ?_)))))
          have q0 := Option.some.inj H0
          subst q0
          exact kw_ret Tryz.results66 (.cons (.tmp rfl) .nil) [] [] trivial (by decide) ⟨rfl, rfl⟩

set_option maxHeartbeats 4000000 in
set_option maxRecDepth 20000 in
theorem c_l_eqMachine (fl : Nat) (w : World) (a0 : Mc) (p0_0 : Option Addr) (n0_0 c0_0 : Nat) (p0_1 : Option Addr) (n0_1 c0_1 : Nat) (p0_2 : Option Addr) (n0_2 c0_2 : Nat) (p0_3 : Option Addr) (n0_3 c0_3 : Nat) (a1 : Mc) (p1_0 : Option Addr) (n1_0 c1_0 : Nat) (p1_1 : Option Addr) (n1_1 c1_1 : Nat) (p1_2 : Option Addr) (n1_2 c1_2 : Nat) (p1_3 : Option Addr) (n1_3 c1_3 : Nat) (hn0_0 : n0_0 = (a0.t.b).length) (hr0_0 : RO w (hkeys []) (RdL p0_0 c0_0 a0.t.b)) (hn0_1 : n0_1 = (a0.t.f).length) (hr0_1 : RO w (hkeys []) (RdL p0_1 c0_1 a0.t.f)) (hn0_2 : n0_2 = (a0.c.l).length) (hr0_2 : RO w (hkeys []) (RdL p0_2 c0_2 a0.c.l)) (hn0_3 : n0_3 = (a0.g.o).length) (hr0_3 : RO w (hkeys []) (RdL p0_3 c0_3 a0.g.o)) (hn1_0 : n1_0 = (a1.t.b).length) (hr1_0 : RO w (hkeys []) (RdL p1_0 c1_0 a1.t.b)) (hn1_1 : n1_1 = (a1.t.f).length) (hr1_1 : RO w (hkeys []) (RdL p1_1 c1_1 a1.t.f)) (hn1_2 : n1_2 = (a1.c.l).length) (hr1_2 : RO w (hkeys []) (RdL p1_2 c1_2 a1.c.l)) (hn1_3 : n1_3 = (a1.g.o).length) (hr1_3 : RO w (hkeys []) (RdL p1_3 c1_3 a1.g.o)) (r : Bool) (H0 : l_eqMachine fl a0 a1 = some r) :
    Ct Tryz.prog 19 [.agg #[.slice p0_0 n0_0 c0_0, .slice p0_1 n0_1 c0_1, .slice p0_2 n0_2 c0_2, .int .i64 a0.c.h, .int .i64 a0.g.c, .int .i64 a0.g.n, .int .i64 a0.g.r, .slice p0_3 n0_3 c0_3, .int .i64 a0.s], .agg #[.slice p1_0 n1_0 c1_0, .slice p1_1 n1_1 c1_1, .slice p1_2 n1_2 c1_2, .int .i64 a1.c.h, .int .i64 a1.g.c, .int .i64 a1.g.n, .int .i64 a1.g.r, .slice p1_3 n1_3 c1_3, .int .i64 a1.s]] w [] (fun rv h' => rv = .bool r ∧ h' = []) := by
  obtain rfl := hn0_0
  obtain rfl := hn0_1
  obtain rfl := hn0_2
  obtain rfl := hn0_3
  obtain rfl := hn1_0
  obtain rfl := hn1_1
  obtain rfl := hn1_2
  obtain rfl := hn1_3
  unfold l_eqMachine at H0
  refine ct_of_cw Tryz.func19 rfl Tryz.ntmps19 rfl (Sat.refl _ _) ?_
  refine sr (oE (stpU_box 0 rfl rfl) rfl ?_)
  rintro _ _ ⟨b1, rfl, rfl⟩
  refine oE (stpU_box 1 rfl rfl) rfl ?_
  rintro _ _ ⟨b2, rfl, rfl⟩
  obtain ⟨x3, e3, H0⟩ := bind_some H0
  refine oD (sg rfl) rfl (nn (cw_seq (sr (oD (fA 0 Tryz.underlying47 rfl ts39 rfl rfl rfl) rfl (oD (stp_loadN (us := [_, _]) ts39 rfl (Cells.box (id := 0) rfl 2 rfl)) rfl (oD (fA 0 Tryz.underlying47 rfl ts39 rfl rfl rfl) rfl (oD (stp_loadN (us := [_, _]) ts39 rfl (Cells.box (id := 1) rfl 2 rfl)) rfl (oE (stpU_call (fun i => 2 + i) cf64 (fun w hw => c_l_eqTable fl w a0.t p0_0 ((a0.t.b).length) c0_0 p0_1 ((a0.t.f).length) c0_1 a1.t p1_0 ((a1.t.b).length) c1_0 p1_1 ((a1.t.f).length) c1_1 rfl (RO.pass hr0_0 hw) rfl (RO.pass hr0_1 hw) rfl (RO.pass hr1_0 hw) rfl (RO.pass hr1_1 hw) x3 e3) (sevs_cons rfl (sevs_cons rfl sevs_nil))) rfl ?_))))))))
  rintro _ _ ⟨_, ⟨rfl, rfl⟩, rfl⟩
  refine oD (stp_not rfl) rfl (nn (cw_cond rfl (fun h4 => ?_) (fun h4 => ?_)))
  · have H0 := cond_t H0 h4
    refine sr (oD (sg rfl) rfl (nn (cw_ret (kw_nx_ret ?_))))
    have q0 := Option.some.inj H0
    subst q0
    exact kw_ret Tryz.results19 (.cons (.tmp rfl) .nil) [] [] trivial (by decide) ⟨rfl, rfl⟩
  · have H0 := cond_f H0 h4
    obtain ⟨x5, e5, H0⟩ := bind_some H0
    refine cw_skip (kw_nx (cw_seq (sr (oD (fA 2 Tryz.underlying47 rfl ts42 rfl rfl rfl) rfl (oD (stp_loadN (us := [_, _]) ts42 rfl (Cells.box (id := 0) rfl 2 rfl)) rfl (oD (fA 2 Tryz.underlying47 rfl ts42 rfl rfl rfl) rfl (oD (stp_loadN (us := [_, _]) ts42 rfl (Cells.box (id := 1) rfl 2 rfl)) rfl (oE (stpU_call (fun i => 2 + i) cf65 (fun w hw => c_l_eqCache fl w a0.c p0_2 ((a0.c.l).length) c0_2 a1.c p1_2 ((a1.c.l).length) c1_2 rfl (RO.pass hr0_2 hw) rfl (RO.pass hr1_2 hw) x5 e5) (sevs_cons rfl (sevs_cons rfl sevs_nil))) rfl ?_))))))))
    rintro _ _ ⟨_, ⟨rfl, rfl⟩, rfl⟩
    refine oD (stp_not rfl) rfl (nn (cw_cond rfl (fun h6 => ?_) (fun h6 => ?_)))
    · have H0 := cond_t H0 h6
      refine sr (oD (sg rfl) rfl (nn (cw_ret (kw_nx_ret ?_))))
      have q0 := Option.some.inj H0
      subst q0
      exact kw_ret Tryz.results19 (.cons (.tmp rfl) .nil) [] [] trivial (by decide) ⟨rfl, rfl⟩
    · have H0 := cond_f H0 h6
      obtain ⟨x7, e7, H0⟩ := bind_some H0
      refine cw_skip (kw_nx (cw_seq (sr (oD (fA 4 Tryz.underlying47 rfl ts45 rfl rfl rfl) rfl (oD (stp_loadN (us := [_, _, _, _]) ts45 rfl (Cells.box (id := 0) rfl 4 rfl)) rfl (oD (fA 4 Tryz.underlying47 rfl ts45 rfl rfl rfl) rfl (oD (stp_loadN (us := [_, _, _, _]) ts45 rfl (Cells.box (id := 1) rfl 4 rfl)) rfl (oE (stpU_call (fun i => 2 + i) cf66 (fun w hw => c_l_eqTags fl w a0.g p0_3 ((a0.g.o).length) c0_3 a1.g p1_3 ((a1.g.o).length) c1_3 rfl (RO.pass hr0_3 hw) rfl (RO.pass hr1_3 hw) x7 e7) (sevs_cons rfl (sevs_cons rfl sevs_nil))) rfl ?_))))))))
      rintro _ _ ⟨_, ⟨rfl, rfl⟩, rfl⟩
      refine oD (stp_not rfl) rfl (nn (cw_cond rfl (fun h8 => ?_) (fun h8 => ?_)))
      · have H0 := cond_t H0 h8
        refine sr (oD (sg rfl) rfl (nn (cw_ret (kw_nx_ret ?_))))
        have q0 := Option.some.inj H0
        subst q0
        exact kw_ret Tryz.results19 (.cons (.tmp rfl) .nil) [] [] trivial (by decide) ⟨rfl, rfl⟩
      · have H0 := cond_f H0 h8
        refine cw_skip (kw_nx (cw_seq (sr (oD (fA 8 Tryz.underlying47 rfl ts3 rfl rfl rfl) rfl (oD (lB 0 ts3 rfl rfl rfl) rfl (oD (fA 8 Tryz.underlying47 rfl ts3 rfl rfl rfl) rfl (oD (lB 1 ts3 rfl rfl rfl) rfl (oD (stp_neq rfl rfl) rfl (nn (cw_cond rfl (fun h9 => ?_) (fun h9 => ?_)))))))))))
        · have H0 := cond_t H0 h9
          refine sr (oD (sg rfl) rfl (nn (cw_ret (kw_nx_ret ?_))))
          have q0 := Option.some.inj H0
          subst q0
          exact kw_ret Tryz.results19 (.cons (.tmp rfl) .nil) [] [] trivial (by decide) ⟨rfl, rfl⟩
        · have H0 := cond_f H0 h9
          refine cw_skip (kw_nx (sr (oD (sg rfl) rfl (nn (cw_ret ?_)))))
          have q0 := Option.some.inj H0
          subst q0
          exact kw_ret Tryz.results19 (.cons (.tmp rfl) .nil) [] [] trivial (by decide) ⟨rfl, rfl⟩

set_option maxHeartbeats 4000000 in
set_option maxRecDepth 20000 in
theorem c_l_markIntS (fl : Nat) (w : World) (a0 : (List Int)) (p0_0 : Option Addr) (n0_0 c0_0 : Nat) (C0_0 : Res) (a1 : Int) (hn0_0 : n0_0 = (a0).length) (ho0_0 : OwnC (α := Int) 3 p0_0 c0_0 a0 C0_0) (hM : Sat w (hkeys [(0, C0_0)]) w [(0, C0_0)]) (r : Int × (List Int)) (H0 : l_markIntS fl a0 a1 = some r) :
    Ct Tryz.prog 154 [.slice p0_0 n0_0 c0_0, .int .i64 a1] w [(0, C0_0)] (fun rv h' => ∃ (D0 : Res), rv = .int .i64 r.1 ∧ h' = [(0, D0)] ∧ n0_0 = (r.2).length ∧ OwnC (α := Int) 3 p0_0 c0_0 r.2 D0) := by
  obtain rfl := hn0_0
  unfold l_markIntS at H0
  refine ct_of_cw Tryz.func154 rfl Tryz.ntmps154 rfl hM ?_
  obtain ⟨o0_0, eo0_0, H0⟩ := bind_some H0
  refine sr (oD (sg rfl) rfl (nn (cw_seq (sr (oD (sg rfl) rfl (nn (cw_join (ι := (List Int) × Int × Int × Res) (fun | (v1, v3, v4, C2) => o0_0 = .out (v1, v3, v4) ∧ (a0).length = (v1).length ∧ OwnC (α := Int) 3 p0_0 c0_0 v1 C2) (fun | (v1, v3, v4, C2) => [(0, .slice p0_0 ((a0).length) c0_0), (1, .int .i64 v3), (5, .int .i64 v4)]) (fun | (v1, v3, v4, C2) => [(0, C2)]) ?_ ?_)))))))
  · refine cw_block (cw_loopS (ι := Nat × (List Int) × Int × Int × Res) (js := [0]) (fun x => x.1) (fun | (fuel, v1, v3, v4, C2) => l_markIntS_L0 fl a0 fuel v1 v3 v4 = some o0_0 ∧ (a0).length = (v1).length ∧ OwnC (α := Int) 3 p0_0 c0_0 v1 C2) (fun | (_, v1, v3, v4, C2) => [(0, .slice p0_0 ((a0).length) c0_0), (1, .int .i64 v3), (5, .int .i64 v4)]) (fun | (_, v1, v3, v4, C2) => [(0, C2)]) (fl, a0, a1, 0, C0_0) ⟨eo0_0, rfl, ho0_0⟩ ⟨rfl, rfl, rfl, trivial⟩ ⟨0, [], rfl, rfl, trivial⟩ (by decide) ?_)
    rintro ⟨fuel, v1, v3, v4, C2⟩ ⟨H1, hl2, o2⟩
    have H1 : l_markIntS_L0 fl a0 fuel v1 v3 v4 = some o0_0 := H1
    rcases fuel with _ | fuel
    · rw [l_markIntS_L0.eq_1] at H1; cases H1
    rw [l_markIntS_L0.eq_2] at H1
    refine CW.sub (s' := [(0, .slice p0_0 ((a0).length) c0_0), (1, .int .i64 v3), (5, .int .i64 v4)]) (h' := [(0, C2)]) ?_ ⟨rfl, rfl, rfl, trivial⟩ ⟨rfl, trivial⟩
    refine cw_seq (sr (oD (mv rfl) rfl (oD (mv rfl) rfl (oD (stp_len Tryz.underlying22 rfl) rfl (oD (stp_lss rfl rfl) rfl (nn (cw_cond rfl (fun h5 => ?_) (fun h5 => ?_))))))))
    · have H1 := cond_t H1 h5
      obtain ⟨x6, e6, H1⟩ := bind_some H1
      refine cw_skip (kw_nx (cw_seq (cw_block (sr (oD (mv rfl) rfl (oD (mv rfl) rfl (oD (mv rfl) rfl (oD (stp_indexAddr Tryz.underlying22 ts3 (by decide) rfl (by simp [hl2]) rfl (Rdb.own (id := 0) rfl o2) e6) rfl (oF (stpU_storeEl (id := 0) (i := 0) v3 (by decide) ts3 rfl rfl rfl o2 e6 rfl rfl rfl rfl) ?_)))))))))
      rintro _ _ ⟨C7, rfl, o7⟩
      obtain ⟨x8, e8, H1⟩ := bind_some H1
      obtain ⟨x9, e9, H1⟩ := bind_some H1
      exact nn (cw_region (oD (mv rfl) rfl (oD (stp_add rfl rfl e8) rfl (oD (sg rfl) rfl (ow_nil (kw_bl_normal (kw_nx (cw_region (oD (mv rfl) rfl (oD (stp_add rfl rfl e9) rfl (oD (sg rfl) rfl (ow_nil (kw_lqS (js := [0]) (fuel, (v1.set (Int.toNat v4) v3), x8, x9, C7) ⟨H1, (by simp [hl2]), o7⟩ (Nat.lt_succ_self _) ⟨rfl, rfl, rfl, trivial⟩ ⟨0, [], rfl, rfl, trivial⟩ (by decide))))))))))))))
    · have H1 := cond_f H1 h5
      refine cw_exit (kw_nx_exit (kw_lq_exit (kw_bl ?_)))
      have q1 := Option.some.inj H1
      subst q1
      exact kw_joinS (js := [0]) (v1, v3, v4, C2) ⟨rfl, (by simp [hl2]), o2⟩ ⟨rfl, rfl, rfl, trivial⟩ ⟨0, [], rfl, rfl, trivial⟩ (by decide)
  · rintro ⟨v1, v3, v4, C2⟩ ⟨rfl, hl2, o2⟩
    refine KW.sub (s' := [(0, .slice p0_0 ((a0).length) c0_0), (1, .int .i64 v3), (5, .int .i64 v4)]) (h' := [(0, C2)]) ?_ ⟨rfl, rfl, rfl, trivial⟩ ⟨rfl, trivial⟩
    refine kw_nx (sr (oD (mv rfl) rfl (oD (sg rfl) rfl (nn (cw_ret ?_)))))
    have q0 := Option.some.inj H0
    subst q0
    exact kw_ret Tryz.results154 (.cons (.tmp rfl) .nil) [(0, C2)] [0] ⟨0, [], rfl, rfl, trivial⟩ (by decide) ⟨C2, rfl, rfl, (by simp [hl2]), o2⟩

set_option maxHeartbeats 4000000 in
set_option maxRecDepth 20000 in
theorem c_l_markFrameS (fl : Nat) (w : World) (a0 : (List F)) (p0_0 : Option Addr) (n0_0 c0_0 : Nat) (C0_0 : Res) (a1 : Int) (hn0_0 : n0_0 = (a0).length) (ho0_0 : OwnC (α := F) 127 p0_0 c0_0 a0 C0_0) (hM : Sat w (hkeys [(0, C0_0)]) w [(0, C0_0)]) (r : Int × (List F)) (H0 : l_markFrameS fl a0 a1 = some r) :
    Ct Tryz.prog 155 [.slice p0_0 n0_0 c0_0, .int .i64 a1] w [(0, C0_0)] (fun rv h' => ∃ (D0 : Res), rv = .int .i64 r.1 ∧ h' = [(0, D0)] ∧ n0_0 = (r.2).length ∧ OwnC (α := F) 127 p0_0 c0_0 r.2 D0) := by
  obtain rfl := hn0_0
  unfold l_markFrameS at H0
  refine ct_of_cw Tryz.func155 rfl Tryz.ntmps155 rfl hM ?_
  obtain ⟨o0_0, eo0_0, H0⟩ := bind_some H0
  refine sr (oD (sg rfl) rfl (nn (cw_seq (sr (oD (sg rfl) rfl (nn (cw_join (ι := (List F) × Int × Int × Res) (fun | (v1, v3, v4, C2) => o0_0 = .out (v1, v3, v4) ∧ (a0).length = (v1).length ∧ OwnC (α := F) 127 p0_0 c0_0 v1 C2) (fun | (v1, v3, v4, C2) => [(0, .slice p0_0 ((a0).length) c0_0), (1, .int .i64 v3), (5, .int .i64 v4)]) (fun | (v1, v3, v4, C2) => [(0, C2)]) ?_ ?_)))))))
  · refine cw_block (cw_loopS (ι := Nat × (List F) × Int × Int × Res) (js := [0]) (fun x => x.1) (fun | (fuel, v1, v3, v4, C2) => l_markFrameS_L0 fl a0 fuel v1 v3 v4 = some o0_0 ∧ (a0).length = (v1).length ∧ OwnC (α := F) 127 p0_0 c0_0 v1 C2) (fun | (_, v1, v3, v4, C2) => [(0, .slice p0_0 ((a0).length) c0_0), (1, .int .i64 v3), (5, .int .i64 v4)]) (fun | (_, v1, v3, v4, C2) => [(0, C2)]) (fl, a0, a1, 0, C0_0) ⟨eo0_0, rfl, ho0_0⟩ ⟨rfl, rfl, rfl, trivial⟩ ⟨0, [], rfl, rfl, trivial⟩ (by decide) ?_)
    rintro ⟨fuel, v1, v3, v4, C2⟩ ⟨H1, hl2, o2⟩
    have H1 : l_markFrameS_L0 fl a0 fuel v1 v3 v4 = some o0_0 := H1
    rcases fuel with _ | fuel
    · rw [l_markFrameS_L0.eq_1] at H1; cases H1
    rw [l_markFrameS_L0.eq_2] at H1
    refine CW.sub (s' := [(0, .slice p0_0 ((a0).length) c0_0), (1, .int .i64 v3), (5, .int .i64 v4)]) (h' := [(0, C2)]) ?_ ⟨rfl, rfl, rfl, trivial⟩ ⟨rfl, trivial⟩
    refine cw_seq (sr (oD (mv rfl) rfl (oD (mv rfl) rfl (oD (stp_len Tryz.underlying37 rfl) rfl (oD (stp_lss rfl rfl) rfl (nn (cw_cond rfl (fun h5 => ?_) (fun h5 => ?_))))))))
    · have H1 := cond_t H1 h5
      obtain ⟨x6, e6, H1⟩ := bind_some H1
      obtain ⟨x7, e7, H1⟩ := bind_some H1
      refine cw_skip (kw_nx (cw_seq (cw_block (sr (oD (mv rfl) rfl (oD (mv rfl) rfl (oD (mv rfl) rfl (oD (stp_rem rfl rfl e6) rfl (oD (stp_eql rfl rfl) rfl (oD (stp_indexAddr Tryz.underlying37 ts127 (by decide) rfl (by simp [hl2]) rfl (Rdb.own (id := 0) rfl o2) e7) rfl (oD (fA 0 Tryz.underlying127 rfl ts4 rfl rfl rfl) rfl (oF (stpU_storeEl (id := 0) (i := 0) (⟨(x6 == 0), x7.k, x7.r, x7.nx⟩ : F) (by decide) ts4 rfl rfl rfl o2 e7 rfl rfl rfl rfl) ?_))))))))))))
      rintro _ _ ⟨C8, rfl, o8⟩
      obtain ⟨x9, e9, H1⟩ := bind_some H1
      obtain ⟨x10, e10, H1⟩ := bind_some H1
      refine nn (sr (oD (mv rfl) rfl (oD (stp_add rfl rfl e9) rfl (oD (sg rfl) rfl (nn (sr (oD (mv rfl) rfl (oD (mv rfl) rfl (oD (mv rfl) rfl (oD (stp_indexAddr Tryz.underlying37 ts127 (by decide) rfl (by simp [hl2]) rfl (Rdb.own (id := 0) rfl o8) e10) rfl (oD (fA 1 Tryz.underlying127 rfl ts51 rfl rfl rfl) rfl (oD (fA 0 Tryz.underlying51 rfl ts3 rfl rfl rfl) rfl (oF (stpU_storeEl (id := 0) (i := 1) (⟨x10.u, (⟨x9, x10.k.p⟩ : K), x10.r, x10.nx⟩ : F) (by decide) ts3 rfl rfl rfl o8 e10 rfl rfl rfl rfl) ?_)))))))))))))
      rintro _ _ ⟨C11, rfl, o11⟩
      obtain ⟨x12, e12, H1⟩ := bind_some H1
      obtain ⟨x13, e13, H1⟩ := bind_some H1
      refine nn (sr (oD (mv rfl) rfl (oD (stp_add rfl rfl e12) rfl (oD (sg rfl) rfl (nn (sr (oD (mv rfl) rfl (oD (mv rfl) rfl (oD (mv rfl) rfl (oD (stp_indexAddr Tryz.underlying37 ts127 (by decide) rfl (by simp [hl2]) rfl (Rdb.own (id := 0) rfl o11) e13) rfl (oD (fA 1 Tryz.underlying127 rfl ts51 rfl rfl rfl) rfl (oD (fA 1 Tryz.underlying51 rfl ts3 rfl rfl rfl) rfl (oF (stpU_storeEl (id := 0) (i := 2) (⟨x13.u, (⟨x13.k.s, x12⟩ : K), x13.r, x13.nx⟩ : F) (by decide) ts3 rfl rfl rfl o11 e13 rfl rfl rfl rfl) ?_)))))))))))))
      rintro _ _ ⟨C14, rfl, o14⟩
      obtain ⟨x15, e15, H1⟩ := bind_some H1
      obtain ⟨x16, e16, H1⟩ := bind_some H1
      refine nn (sr (oD (mv rfl) rfl (oD (stp_add rfl rfl e15) rfl (oD (sg rfl) rfl (nn (sr (oD (mv rfl) rfl (oD (mv rfl) rfl (oD (mv rfl) rfl (oD (stp_indexAddr Tryz.underlying37 ts127 (by decide) rfl (by simp [hl2]) rfl (Rdb.own (id := 0) rfl o14) e16) rfl (oD (fA 3 Tryz.underlying127 rfl ts3 rfl rfl rfl) rfl (oF (stpU_storeEl (id := 0) (i := 3) (⟨x16.u, x16.k, x15, x16.nx⟩ : F) (by decide) ts3 rfl rfl rfl o14 e16 rfl rfl rfl rfl) ?_))))))))))))
      rintro _ _ ⟨C17, rfl, o17⟩
      obtain ⟨x18, e18, H1⟩ := bind_some H1
      obtain ⟨x19, e19, H1⟩ := bind_some H1
      refine nn (sr (oD (mv rfl) rfl (oD (stp_add rfl rfl e18) rfl (oD (sg rfl) rfl (nn (sr (oD (mv rfl) rfl (oD (mv rfl) rfl (oD (mv rfl) rfl (oD (stp_indexAddr Tryz.underlying37 ts127 (by decide) rfl (by simp [hl2]) rfl (Rdb.own (id := 0) rfl o17) e19) rfl (oD (fA 4 Tryz.underlying127 rfl ts3 rfl rfl rfl) rfl (oF (stpU_storeEl (id := 0) (i := 4) (⟨x19.u, x19.k, x19.r, x18⟩ : F) (by decide) ts3 rfl rfl rfl o17 e19 rfl rfl rfl rfl) ?_))))))))))))
      rintro _ _ ⟨C20, rfl, o20⟩
      obtain ⟨x21, e21, H1⟩ := bind_some H1
      obtain ⟨x22, e22, H1⟩ := bind_some H1
      exact nn (cw_region (oD (mv rfl) rfl (oD (stp_add rfl rfl e21) rfl (oD (sg rfl) rfl (ow_nil (kw_bl_normal (kw_nx (cw_region (oD (mv rfl) rfl (oD (stp_add rfl rfl e22) rfl (oD (sg rfl) rfl (ow_nil (kw_lqS (js := [0]) (fuel, (((((v1.set (Int.toNat v4) (⟨(x6 == 0), x7.k, x7.r, x7.nx⟩ : F)).set (Int.toNat v4) (⟨x10.u, (⟨x9, x10.k.p⟩ : K), x10.r, x10.nx⟩ : F)).set (Int.toNat v4) (⟨x13.u, (⟨x13.k.s, x12⟩ : K), x13.r, x13.nx⟩ : F)).set (Int.toNat v4) (⟨x16.u, x16.k, x15, x16.nx⟩ : F)).set (Int.toNat v4) (⟨x19.u, x19.k, x19.r, x18⟩ : F)), x21, x22, C20) ⟨H1, (by simp [hl2]), o20⟩ (Nat.lt_succ_self _) ⟨rfl, rfl, rfl, trivial⟩ ⟨0, [], rfl, rfl, trivial⟩ (by decide))))))))))))))
    · have H1 := cond_f H1 h5
      refine cw_exit (kw_nx_exit (kw_lq_exit (kw_bl ?_)))
      have q1 := Option.some.inj H1
      subst q1
      exact kw_joinS (js := [0]) (v1, v3, v4, C2) ⟨rfl, (by simp [hl2]), o2⟩ ⟨rfl, rfl, rfl, trivial⟩ ⟨0, [], rfl, rfl, trivial⟩ (by decide)
  · rintro ⟨v1, v3, v4, C2⟩ ⟨rfl, hl2, o2⟩
    refine KW.sub (s' := [(0, .slice p0_0 ((a0).length) c0_0), (1, .int .i64 v3), (5, .int .i64 v4)]) (h' := [(0, C2)]) ?_ ⟨rfl, rfl, rfl, trivial⟩ ⟨rfl, trivial⟩
    refine kw_nx (sr (oD (mv rfl) rfl (oD (sg rfl) rfl (nn (cw_ret ?_)))))
    have q0 := Option.some.inj H0
    subst q0
    exact kw_ret Tryz.results155 (.cons (.tmp rfl) .nil) [(0, C2)] [0] ⟨0, [], rfl, rfl, trivial⟩ (by decide) ⟨C2, rfl, rfl, (by simp [hl2]), o2⟩

set_option maxHeartbeats 4000000 in
set_option maxRecDepth 20000 in
theorem c_l_markTable (fl : Nat) (w : World) (a0 : T) (p0_0 : Option Addr) (n0_0 c0_0 : Nat) (C0_0 : Res) (p0_1 : Option Addr) (n0_1 c0_1 : Nat) (C0_1 : Res) (a1 : Int) (hn0_0 : n0_0 = (a0.b).length) (ho0_0 : OwnC (α := Int) 3 p0_0 c0_0 a0.b C0_0) (hn0_1 : n0_1 = (a0.f).length) (ho0_1 : OwnC (α := F) 127 p0_1 c0_1 a0.f C0_1) (hM : Sat w (hkeys [(0, C0_0), (1, C0_1)]) w [(0, C0_0), (1, C0_1)]) (r : Int × (List Int) × (List F)) (H0 : l_markTable fl a0 a1 = some r) :
    Ct Tryz.prog 67 [.agg #[.slice p0_0 n0_0 c0_0, .slice p0_1 n0_1 c0_1], .int .i64 a1] w [(0, C0_0), (1, C0_1)] (fun rv h' => ∃ (D0 : Res) (D1 : Res), rv = .int .i64 r.1 ∧ h' = [(0, D0), (1, D1)] ∧ n0_0 = (r.2.1).length ∧ OwnC (α := Int) 3 p0_0 c0_0 r.2.1 D0 ∧ n0_1 = (r.2.2).length ∧ OwnC (α := F) 127 p0_1 c0_1 r.2.2 D1) := by
  obtain rfl := hn0_0
  obtain rfl := hn0_1
  unfold l_markTable at H0
  refine ct_of_cw Tryz.func67 rfl Tryz.ntmps67 rfl hM ?_
  refine sr (oE (stpU_box 2 rfl rfl) rfl ?_)
  rintro _ _ ⟨b1, rfl, rfl⟩
  obtain ⟨x2, e2, H0⟩ := bind_some H0
  refine oD (sg rfl) rfl (nn (sr (oD (fA 0 Tryz.underlying39 rfl ts22 rfl rfl rfl) rfl (oD (lB 2 ts22 rfl rfl rfl) rfl (oD (mv rfl) rfl (oE (stpU_callM (fun i => bif Nat.beq i 0 then 0 else 3 + i) cf154 (fun w hw hb => c_l_markIntS fl w a0.b p0_0 ((a0.b).length) c0_0 C0_0 a1 rfl ho0_0 (hw.pass (js := [0]) ⟨0, [], rfl, rfl, trivial⟩ (by decide)) x2 e2) (sevs_cons rfl (sevs_cons rfl sevs_nil)) ⟨rfl, (fun _ _ hp => by obtain ⟨_, _, rfl, _⟩ := hp; exact ⟨_, rfl⟩), trivial⟩) rfl ?_))))))
  rintro _ _ ⟨_, ⟨C3, rfl, rfl, hl3, o3⟩, rfl⟩
  obtain ⟨x4, e4, H0⟩ := bind_some H0
  refine oD (sg rfl) rfl (nn (sr (oD (fA 1 Tryz.underlying39 rfl ts37 rfl rfl rfl) rfl (oD (lB 2 ts37 rfl rfl rfl) rfl (oD (mv rfl) rfl (oE (stpU_callM (fun i => bif Nat.beq i 0 then 1 else 4 + i) cf155 (fun w hw hb => c_l_markFrameS fl w a0.f p0_1 ((a0.f).length) c0_1 C0_1 x2.1 rfl ho0_1 (hw.pass (js := [1]) ⟨1, [], rfl, rfl, trivial⟩ (by decide)) x4 e4) (sevs_cons rfl (sevs_cons rfl sevs_nil)) ⟨rfl, (fun _ _ hp => by obtain ⟨_, _, rfl, _⟩ := hp; exact ⟨_, rfl⟩), trivial⟩) rfl ?_))))))
  rintro _ _ ⟨_, ⟨C5, rfl, rfl, hl5, o5⟩, rfl⟩
  refine oD (sg rfl) rfl (nn (sr (oD (mv rfl) rfl (oD (sg rfl) rfl (nn (cw_ret ?_))))))
  have q0 := Option.some.inj H0
  subst q0
  exact kw_ret Tryz.results67 (.cons (.tmp rfl) .nil) [(0, C3), (1, C5)] [0, 1] ⟨0, [1], rfl, rfl, 1, [], rfl, rfl, trivial⟩ (by decide) ⟨C3, C5, rfl, rfl, (by simp [hl3]), o3, (by simp [hl5]), o5⟩

set_option maxHeartbeats 4000000 in
set_option maxRecDepth 20000 in
theorem c_l_markLineS (fl : Nat) (w : World) (a0 : (List Ln)) (p0_0 : Option Addr) (n0_0 c0_0 : Nat) (C0_0 : Res) (a1 : Int) (hn0_0 : n0_0 = (a0).length) (ho0_0 : OwnC (α := Ln) 112 p0_0 c0_0 a0 C0_0) (hM : Sat w (hkeys [(0, C0_0)]) w [(0, C0_0)]) (r : Int × (List Ln)) (H0 : l_markLineS fl a0 a1 = some r) :
    Ct Tryz.prog 156 [.slice p0_0 n0_0 c0_0, .int .i64 a1] w [(0, C0_0)] (fun rv h' => ∃ (D0 : Res), rv = .int .i64 r.1 ∧ h' = [(0, D0)] ∧ n0_0 = (r.2).length ∧ OwnC (α := Ln) 112 p0_0 c0_0 r.2 D0) := by
  obtain rfl := hn0_0
  unfold l_markLineS at H0
  refine ct_of_cw Tryz.func156 rfl Tryz.ntmps156 rfl hM ?_
  obtain ⟨o0_0, eo0_0, H0⟩ := bind_some H0
  refine sr (oD (sg rfl) rfl (nn (cw_seq (sr (oD (sg rfl) rfl (nn (cw_join (ι := (List Ln) × Int × Int × Res) (fun | (v1, v3, v4, C2) => o0_0 = .out (v1, v3, v4) ∧ (a0).length = (v1).length ∧ OwnC (α := Ln) 112 p0_0 c0_0 v1 C2) (fun | (v1, v3, v4, C2) => [(0, .slice p0_0 ((a0).length) c0_0), (1, .int .i64 v3), (5, .int .i64 v4)]) (fun | (v1, v3, v4, C2) => [(0, C2)]) ?_ ?_)))))))
  · refine cw_block (cw_loopS (ι := Nat × (List Ln) × Int × Int × Res) (js := [0]) (fun x => x.1) (fun | (fuel, v1, v3, v4, C2) => l_markLineS_L0 fl a0 fuel v1 v3 v4 = some o0_0 ∧ (a0).length = (v1).length ∧ OwnC (α := Ln) 112 p0_0 c0_0 v1 C2) (fun | (_, v1, v3, v4, C2) => [(0, .slice p0_0 ((a0).length) c0_0), (1, .int .i64 v3), (5, .int .i64 v4)]) (fun | (_, v1, v3, v4, C2) => [(0, C2)]) (fl, a0, a1, 0, C0_0) ⟨eo0_0, rfl, ho0_0⟩ ⟨rfl, rfl, rfl, trivial⟩ ⟨0, [], rfl, rfl, trivial⟩ (by decide) ?_)
    rintro ⟨fuel, v1, v3, v4, C2⟩ ⟨H1, hl2, o2⟩
    have H1 : l_markLineS_L0 fl a0 fuel v1 v3 v4 = some o0_0 := H1
    rcases fuel with _ | fuel
    · rw [l_markLineS_L0.eq_1] at H1; cases H1
    rw [l_markLineS_L0.eq_2] at H1
    refine CW.sub (s' := [(0, .slice p0_0 ((a0).length) c0_0), (1, .int .i64 v3), (5, .int .i64 v4)]) (h' := [(0, C2)]) ?_ ⟨rfl, rfl, rfl, trivial⟩ ⟨rfl, trivial⟩
    refine cw_seq (sr (oD (mv rfl) rfl (oD (mv rfl) rfl (oD (stp_len Tryz.underlying40 rfl) rfl (oD (stp_lss rfl rfl) rfl (nn (cw_cond rfl (fun h5 => ?_) (fun h5 => ?_))))))))
    · have H1 := cond_t H1 h5
      obtain ⟨x6, e6, H1⟩ := bind_some H1
      obtain ⟨x7, e7, H1⟩ := bind_some H1
      refine cw_skip (kw_nx (cw_seq (cw_block (sr (oD (mv rfl) rfl (oD (mv rfl) rfl (oD (mv rfl) rfl (oD (stp_rem rfl rfl e6) rfl (oD (stp_eql rfl rfl) rfl (oD (stp_indexAddr Tryz.underlying40 ts112 (by decide) rfl (by simp [hl2]) rfl (Rdb.own (id := 0) rfl o2) e7) rfl (oD (fA 0 Tryz.underlying112 rfl ts4 rfl rfl rfl) rfl (oF (stpU_storeEl (id := 0) (i := 0) (⟨(x6 == 0), x7.tg, x7.pg, x7.fr, x7.ri, x7.wi⟩ : Ln) (by decide) ts4 rfl rfl rfl o2 e7 rfl rfl rfl rfl) ?_))))))))))))
      rintro _ _ ⟨C8, rfl, o8⟩
      obtain ⟨x9, e9, H1⟩ := bind_some H1
      obtain ⟨x10, e10, H1⟩ := bind_some H1
      refine nn (sr (oD (mv rfl) rfl (oD (stp_add rfl rfl e9) rfl (oD (sg rfl) rfl (nn (sr (oD (mv rfl) rfl (oD (mv rfl) rfl (oD (mv rfl) rfl (oD (stp_indexAddr Tryz.underlying40 ts112 (by decide) rfl (by simp [hl2]) rfl (Rdb.own (id := 0) rfl o8) e10) rfl (oD (fA 1 Tryz.underlying112 rfl ts3 rfl rfl rfl) rfl (oF (stpU_storeEl (id := 0) (i := 1) (⟨x10.va, x9, x10.pg, x10.fr, x10.ri, x10.wi⟩ : Ln) (by decide) ts3 rfl rfl rfl o8 e10 rfl rfl rfl rfl) ?_))))))))))))
      rintro _ _ ⟨C11, rfl, o11⟩
      obtain ⟨x12, e12, H1⟩ := bind_some H1
      obtain ⟨x13, e13, H1⟩ := bind_some H1
      refine nn (sr (oD (mv rfl) rfl (oD (stp_add rfl rfl e12) rfl (oD (sg rfl) rfl (nn (sr (oD (mv rfl) rfl (oD (mv rfl) rfl (oD (mv rfl) rfl (oD (stp_indexAddr Tryz.underlying40 ts112 (by decide) rfl (by simp [hl2]) rfl (Rdb.own (id := 0) rfl o11) e13) rfl (oD (fA 2 Tryz.underlying112 rfl ts3 rfl rfl rfl) rfl (oF (stpU_storeEl (id := 0) (i := 2) (⟨x13.va, x13.tg, x12, x13.fr, x13.ri, x13.wi⟩ : Ln) (by decide) ts3 rfl rfl rfl o11 e13 rfl rfl rfl rfl) ?_))))))))))))
      rintro _ _ ⟨C14, rfl, o14⟩
      obtain ⟨x15, e15, H1⟩ := bind_some H1
      obtain ⟨x16, e16, H1⟩ := bind_some H1
      refine nn (sr (oD (mv rfl) rfl (oD (stp_add rfl rfl e15) rfl (oD (sg rfl) rfl (nn (sr (oD (mv rfl) rfl (oD (mv rfl) rfl (oD (mv rfl) rfl (oD (stp_indexAddr Tryz.underlying40 ts112 (by decide) rfl (by simp [hl2]) rfl (Rdb.own (id := 0) rfl o14) e16) rfl (oD (fA 3 Tryz.underlying112 rfl ts3 rfl rfl rfl) rfl (oF (stpU_storeEl (id := 0) (i := 3) (⟨x16.va, x16.tg, x16.pg, x15, x16.ri, x16.wi⟩ : Ln) (by decide) ts3 rfl rfl rfl o14 e16 rfl rfl rfl rfl) ?_))))))))))))
      rintro _ _ ⟨C17, rfl, o17⟩
      obtain ⟨x18, e18, H1⟩ := bind_some H1
      obtain ⟨x19, e19, H1⟩ := bind_some H1
      refine nn (sr (oD (mv rfl) rfl (oD (stp_add rfl rfl e18) rfl (oD (sg rfl) rfl (nn (sr (oD (mv rfl) rfl (oD (mv rfl) rfl (oD (mv rfl) rfl (oD (stp_indexAddr Tryz.underlying40 ts112 (by decide) rfl (by simp [hl2]) rfl (Rdb.own (id := 0) rfl o17) e19) rfl (oD (fA 4 Tryz.underlying112 rfl ts3 rfl rfl rfl) rfl (oF (stpU_storeEl (id := 0) (i := 4) (⟨x19.va, x19.tg, x19.pg, x19.fr, x18, x19.wi⟩ : Ln) (by decide) ts3 rfl rfl rfl o17 e19 rfl rfl rfl rfl) ?_))))))))))))
      rintro _ _ ⟨C20, rfl, o20⟩
      obtain ⟨x21, e21, H1⟩ := bind_some H1
      obtain ⟨x22, e22, H1⟩ := bind_some H1
      obtain ⟨x23, e23, H1⟩ := bind_some H1
      refine nn (sr (oD (mv rfl) rfl (oD (stp_add rfl rfl e21) rfl (oD (sg rfl) rfl (nn (sr (oD (mv rfl) rfl (oD (mv rfl) rfl (oD (mv rfl) rfl (oD (stp_rem rfl rfl e22) rfl (oD (stp_eql rfl rfl) rfl (oD (stp_indexAddr Tryz.underlying40 ts112 (by decide) rfl (by simp [hl2]) rfl (Rdb.own (id := 0) rfl o20) e23) rfl (oD (fA 5 Tryz.underlying112 rfl ts4 rfl rfl rfl) rfl ?_)))))))))))))
      refine oF (stpU_storeEl (id := 0) (i := 5) (⟨x23.va, x23.tg, x23.pg, x23.fr, x23.ri, (x22 == 0)⟩ : Ln) (by decide) ts4 rfl rfl rfl o20 e23 rfl rfl rfl rfl) ?_
      rintro _ _ ⟨C24, rfl, o24⟩
      obtain ⟨x25, e25, H1⟩ := bind_some H1
      obtain ⟨x26, e26, H1⟩ := bind_some H1
      exact nn (cw_region (oD (mv rfl) rfl (oD (stp_add rfl rfl e25) rfl (oD (sg rfl) rfl (ow_nil (kw_bl_normal (kw_nx (cw_region (oD (mv rfl) rfl (oD (stp_add rfl rfl e26) rfl (oD (sg rfl) rfl (ow_nil (kw_lqS (js := [0]) (fuel, ((((((v1.set (Int.toNat v4) (⟨(x6 == 0), x7.tg, x7.pg, x7.fr, x7.ri, x7.wi⟩ : Ln)).set (Int.toNat v4) (⟨x10.va, x9, x10.pg, x10.fr, x10.ri, x10.wi⟩ : Ln)).set (Int.toNat v4) (⟨x13.va, x13.tg, x12, x13.fr, x13.ri, x13.wi⟩ : Ln)).set (Int.toNat v4) (⟨x16.va, x16.tg, x16.pg, x15, x16.ri, x16.wi⟩ : Ln)).set (Int.toNat v4) (⟨x19.va, x19.tg, x19.pg, x19.fr, x18, x19.wi⟩ : Ln)).set (Int.toNat v4) (⟨x23.va, x23.tg, x23.pg, x23.fr, x23.ri, (x22 == 0)⟩ : Ln)), x25, x26, C24) ⟨H1, (by simp [hl2]), o24⟩ (Nat.lt_succ_self _) ⟨rfl, rfl, rfl, trivial⟩ ⟨0, [], rfl, rfl, trivial⟩ (by decide))))))))))))))
    · have H1 := cond_f H1 h5
      refine cw_exit (kw_nx_exit (kw_lq_exit (kw_bl ?_)))
      have q1 := Option.some.inj H1
      subst q1
      exact kw_joinS (js := [0]) (v1, v3, v4, C2) ⟨rfl, (by simp [hl2]), o2⟩ ⟨rfl, rfl, rfl, trivial⟩ ⟨0, [], rfl, rfl, trivial⟩ (by decide)
  · rintro ⟨v1, v3, v4, C2⟩ ⟨rfl, hl2, o2⟩
    refine KW.sub (s' := [(0, .slice p0_0 ((a0).length) c0_0), (1, .int .i64 v3), (5, .int .i64 v4)]) (h' := [(0, C2)]) ?_ ⟨rfl, rfl, rfl, trivial⟩ ⟨rfl, trivial⟩
    refine kw_nx (sr (oD (mv rfl) rfl (oD (sg rfl) rfl (nn (cw_ret ?_)))))
    have q0 := Option.some.inj H0
    subst q0
    exact kw_ret Tryz.results156 (.cons (.tmp rfl) .nil) [(0, C2)] [0] ⟨0, [], rfl, rfl, trivial⟩ (by decide) ⟨C2, rfl, rfl, (by simp [hl2]), o2⟩

set_option maxHeartbeats 4000000 in
set_option maxRecDepth 20000 in
theorem c_l_markCache (fl : Nat) (w : World) (a0 : Ca) (p0_0 : Option Addr) (n0_0 c0_0 : Nat) (C0_0 : Res) (a1 : Int) (hn0_0 : n0_0 = (a0.l).length) (ho0_0 : OwnC (α := Ln) 112 p0_0 c0_0 a0.l C0_0) (hM : Sat w (hkeys [(0, C0_0)]) w [(0, C0_0)]) (r : Int × (List Ln)) (H0 : l_markCache fl a0 a1 = some r) :
    Ct Tryz.prog 68 [.agg #[.slice p0_0 n0_0 c0_0, .int .i64 a0.h], .int .i64 a1] w [(0, C0_0)] (fun rv h' => ∃ (D0 : Res), rv = .int .i64 r.1 ∧ h' = [(0, D0)] ∧ n0_0 = (r.2).length ∧ OwnC (α := Ln) 112 p0_0 c0_0 r.2 D0) := by
  obtain rfl := hn0_0
  unfold l_markCache at H0
  refine ct_of_cw Tryz.func68 rfl Tryz.ntmps68 rfl hM ?_
  refine sr (oE (stpU_box 1 rfl rfl) rfl ?_)
  rintro _ _ ⟨b1, rfl, rfl⟩
  obtain ⟨x2, e2, H0⟩ := bind_some H0
  refine oD (sg rfl) rfl (nn (sr (oD (fA 0 Tryz.underlying42 rfl ts40 rfl rfl rfl) rfl (oD (lB 1 ts40 rfl rfl rfl) rfl (oD (mv rfl) rfl (oE (stpU_callM (fun i => bif Nat.beq i 0 then 0 else 2 + i) cf156 (fun w hw hb => c_l_markLineS fl w a0.l p0_0 ((a0.l).length) c0_0 C0_0 a1 rfl ho0_0 (hw.pass (js := [0]) ⟨0, [], rfl, rfl, trivial⟩ (by decide)) x2 e2) (sevs_cons rfl (sevs_cons rfl sevs_nil)) ⟨rfl, (fun _ _ hp => by obtain ⟨_, _, rfl, _⟩ := hp; exact ⟨_, rfl⟩), trivial⟩) rfl ?_))))))
  rintro _ _ ⟨_, ⟨C3, rfl, rfl, hl3, o3⟩, rfl⟩
  refine oD (sg rfl) rfl (nn (sr (oD (mv rfl) rfl (oD (sg rfl) rfl (nn (cw_ret ?_))))))
  have q0 := Option.some.inj H0
  subst q0
  exact kw_ret Tryz.results68 (.cons (.tmp rfl) .nil) [(0, C3)] [0] ⟨0, [], rfl, rfl, trivial⟩ (by decide) ⟨C3, rfl, rfl, (by simp [hl3]), o3⟩

set_option maxHeartbeats 4000000 in
set_option maxRecDepth 20000 in
theorem c_l_markOwnS (fl : Nat) (w : World) (a0 : (List Ow)) (p0_0 : Option Addr) (n0_0 c0_0 : Nat) (C0_0 : Res) (a1 : Int) (hn0_0 : n0_0 = (a0).length) (ho0_0 : OwnC (α := Ow) 148 p0_0 c0_0 a0 C0_0) (hM : Sat w (hkeys [(0, C0_0)]) w [(0, C0_0)]) (r : Int × (List Ow)) (H0 : l_markOwnS fl a0 a1 = some r) :
    Ct Tryz.prog 157 [.slice p0_0 n0_0 c0_0, .int .i64 a1] w [(0, C0_0)] (fun rv h' => ∃ (D0 : Res), rv = .int .i64 r.1 ∧ h' = [(0, D0)] ∧ n0_0 = (r.2).length ∧ OwnC (α := Ow) 148 p0_0 c0_0 r.2 D0) := by
  obtain rfl := hn0_0
  unfold l_markOwnS at H0
  refine ct_of_cw Tryz.func157 rfl Tryz.ntmps157 rfl hM ?_
  obtain ⟨o0_0, eo0_0, H0⟩ := bind_some H0
  refine sr (oD (sg rfl) rfl (nn (cw_seq (sr (oD (sg rfl) rfl (nn (cw_join (ι := (List Ow) × Int × Int × Res) (fun | (v1, v3, v4, C2) => o0_0 = .out (v1, v3, v4) ∧ (a0).length = (v1).length ∧ OwnC (α := Ow) 148 p0_0 c0_0 v1 C2) (fun | (v1, v3, v4, C2) => [(0, .slice p0_0 ((a0).length) c0_0), (1, .int .i64 v3), (5, .int .i64 v4)]) (fun | (v1, v3, v4, C2) => [(0, C2)]) ?_ ?_)))))))
  · refine cw_block (cw_loopS (ι := Nat × (List Ow) × Int × Int × Res) (js := [0]) (fun x => x.1) (fun | (fuel, v1, v3, v4, C2) => l_markOwnS_L0 fl a0 fuel v1 v3 v4 = some o0_0 ∧ (a0).length = (v1).length ∧ OwnC (α := Ow) 148 p0_0 c0_0 v1 C2) (fun | (_, v1, v3, v4, C2) => [(0, .slice p0_0 ((a0).length) c0_0), (1, .int .i64 v3), (5, .int .i64 v4)]) (fun | (_, v1, v3, v4, C2) => [(0, C2)]) (fl, a0, a1, 0, C0_0) ⟨eo0_0, rfl, ho0_0⟩ ⟨rfl, rfl, rfl, trivial⟩ ⟨0, [], rfl, rfl, trivial⟩ (by decide) ?_)
    rintro ⟨fuel, v1, v3, v4, C2⟩ ⟨H1, hl2, o2⟩
    have H1 : l_markOwnS_L0 fl a0 fuel v1 v3 v4 = some o0_0 := H1
    rcases fuel with _ | fuel
    · rw [l_markOwnS_L0.eq_1] at H1; cases H1
    rw [l_markOwnS_L0.eq_2] at H1
    refine CW.sub (s' := [(0, .slice p0_0 ((a0).length) c0_0), (1, .int .i64 v3), (5, .int .i64 v4)]) (h' := [(0, C2)]) ?_ ⟨rfl, rfl, rfl, trivial⟩ ⟨rfl, trivial⟩
    refine cw_seq (sr (oD (mv rfl) rfl (oD (mv rfl) rfl (oD (stp_len Tryz.underlying43 rfl) rfl (oD (stp_lss rfl rfl) rfl (nn (cw_cond rfl (fun h5 => ?_) (fun h5 => ?_))))))))
    · have H1 := cond_t H1 h5
      obtain ⟨x6, e6, H1⟩ := bind_some H1
      refine cw_skip (kw_nx (cw_seq (cw_block (sr (oD (mv rfl) rfl (oD (mv rfl) rfl (oD (mv rfl) rfl (oD (stp_indexAddr Tryz.underlying43 ts148 (by decide) rfl (by simp [hl2]) rfl (Rdb.own (id := 0) rfl o2) e6) rfl (oD (fA 0 Tryz.underlying148 rfl ts3 rfl rfl rfl) rfl (oF (stpU_storeEl (id := 0) (i := 0) (⟨v3, x6.tg⟩ : Ow) (by decide) ts3 rfl rfl rfl o2 e6 rfl rfl rfl rfl) ?_))))))))))
      rintro _ _ ⟨C7, rfl, o7⟩
      obtain ⟨x8, e8, H1⟩ := bind_some H1
      obtain ⟨x9, e9, H1⟩ := bind_some H1
      refine nn (sr (oD (mv rfl) rfl (oD (stp_add rfl rfl e8) rfl (oD (sg rfl) rfl (nn (sr (oD (mv rfl) rfl (oD (mv rfl) rfl (oD (mv rfl) rfl (oD (stp_indexAddr Tryz.underlying43 ts148 (by decide) rfl (by simp [hl2]) rfl (Rdb.own (id := 0) rfl o7) e9) rfl (oD (fA 1 Tryz.underlying148 rfl ts3 rfl rfl rfl) rfl (oF (stpU_storeEl (id := 0) (i := 1) (⟨x9.sp, x8⟩ : Ow) (by decide) ts3 rfl rfl rfl o7 e9 rfl rfl rfl rfl) ?_))))))))))))
      rintro _ _ ⟨C10, rfl, o10⟩
      obtain ⟨x11, e11, H1⟩ := bind_some H1
      obtain ⟨x12, e12, H1⟩ := bind_some H1
      exact nn (cw_region (oD (mv rfl) rfl (oD (stp_add rfl rfl e11) rfl (oD (sg rfl) rfl (ow_nil (kw_bl_normal (kw_nx (cw_region (oD (mv rfl) rfl (oD (stp_add rfl rfl e12) rfl (oD (sg rfl) rfl (ow_nil (kw_lqS (js := [0]) (fuel, ((v1.set (Int.toNat v4) (⟨v3, x6.tg⟩ : Ow)).set (Int.toNat v4) (⟨x9.sp, x8⟩ : Ow)), x11, x12, C10) ⟨H1, (by simp [hl2]), o10⟩ (Nat.lt_succ_self _) ⟨rfl, rfl, rfl, trivial⟩ ⟨0, [], rfl, rfl, trivial⟩ (by decide))))))))))))))
    · have H1 := cond_f H1 h5
      refine cw_exit (kw_nx_exit (kw_lq_exit (kw_bl ?_)))
      have q1 := Option.some.inj H1
      subst q1
      exact kw_joinS (js := [0]) (v1, v3, v4, C2) ⟨rfl, (by simp [hl2]), o2⟩ ⟨rfl, rfl, rfl, trivial⟩ ⟨0, [], rfl, rfl, trivial⟩ (by decide)
  · rintro ⟨v1, v3, v4, C2⟩ ⟨rfl, hl2, o2⟩
    refine KW.sub (s' := [(0, .slice p0_0 ((a0).length) c0_0), (1, .int .i64 v3), (5, .int .i64 v4)]) (h' := [(0, C2)]) ?_ ⟨rfl, rfl, rfl, trivial⟩ ⟨rfl, trivial⟩
    refine kw_nx (sr (oD (mv rfl) rfl (oD (sg rfl) rfl (nn (cw_ret ?_)))))
    have q0 := Option.some.inj H0
    subst q0
    exact kw_ret Tryz.results157 (.cons (.tmp rfl) .nil) [(0, C2)] [0] ⟨0, [], rfl, rfl, trivial⟩ (by decide) ⟨C2, rfl, rfl, (by simp [hl2]), o2⟩

set_option maxHeartbeats 4000000 in
set_option maxRecDepth 20000 in
theorem c_l_markTags (fl : Nat) (w : World) (a0 : Tg) (p0_0 : Option Addr) (n0_0 c0_0 : Nat) (C0_0 : Res) (a1 : Int) (hn0_0 : n0_0 = (a0.o).length) (ho0_0 : OwnC (α := Ow) 148 p0_0 c0_0 a0.o C0_0) (hM : Sat w (hkeys [(0, C0_0)]) w [(0, C0_0)]) (r : Int × (List Ow)) (H0 : l_markTags fl a0 a1 = some r) :
    Ct Tryz.prog 69 [.agg #[.int .i64 a0.c, .int .i64 a0.n, .int .i64 a0.r, .slice p0_0 n0_0 c0_0], .int .i64 a1] w [(0, C0_0)] (fun rv h' => ∃ (D0 : Res), rv = .int .i64 r.1 ∧ h' = [(0, D0)] ∧ n0_0 = (r.2).length ∧ OwnC (α := Ow) 148 p0_0 c0_0 r.2 D0) := by
  obtain rfl := hn0_0
  unfold l_markTags at H0
  refine ct_of_cw Tryz.func69 rfl Tryz.ntmps69 rfl hM ?_
  refine sr (oE (stpU_box 1 rfl rfl) rfl ?_)
  rintro _ _ ⟨b1, rfl, rfl⟩
  obtain ⟨x2, e2, H0⟩ := bind_some H0
  refine oD (sg rfl) rfl (nn (sr (oD (fA 3 Tryz.underlying45 rfl ts43 rfl rfl rfl) rfl (oD (lB 1 ts43 rfl rfl rfl) rfl (oD (mv rfl) rfl (oE (stpU_callM (fun i => bif Nat.beq i 0 then 0 else 2 + i) cf157 (fun w hw hb => c_l_markOwnS fl w a0.o p0_0 ((a0.o).length) c0_0 C0_0 a1 rfl ho0_0 (hw.pass (js := [0]) ⟨0, [], rfl, rfl, trivial⟩ (by decide)) x2 e2) (sevs_cons rfl (sevs_cons rfl sevs_nil)) ⟨rfl, (fun _ _ hp => by obtain ⟨_, _, rfl, _⟩ := hp; exact ⟨_, rfl⟩), trivial⟩) rfl ?_))))))
  rintro _ _ ⟨_, ⟨C3, rfl, rfl, hl3, o3⟩, rfl⟩
  refine oD (sg rfl) rfl (nn (sr (oD (mv rfl) rfl (oD (sg rfl) rfl (nn (cw_ret ?_))))))
  have q0 := Option.some.inj H0
  subst q0
  exact kw_ret Tryz.results69 (.cons (.tmp rfl) .nil) [(0, C3)] [0] ⟨0, [], rfl, rfl, trivial⟩ (by decide) ⟨C3, rfl, rfl, (by simp [hl3]), o3⟩

set_option maxHeartbeats 4000000 in
set_option maxRecDepth 20000 in
theorem c_l_markMachine (fl : Nat) (w : World) (a0 : Mc) (p0_0 : Option Addr) (n0_0 c0_0 : Nat) (C0_0 : Res) (p0_1 : Option Addr) (n0_1 c0_1 : Nat) (C0_1 : Res) (p0_2 : Option Addr) (n0_2 c0_2 : Nat) (C0_2 : Res) (p0_3 : Option Addr) (n0_3 c0_3 : Nat) (C0_3 : Res) (a1 : Int) (hn0_0 : n0_0 = (a0.t.b).length) (ho0_0 : OwnC (α := Int) 3 p0_0 c0_0 a0.t.b C0_0) (hn0_1 : n0_1 = (a0.t.f).length) (ho0_1 : OwnC (α := F) 127 p0_1 c0_1 a0.t.f C0_1) (hn0_2 : n0_2 = (a0.c.l).length) (ho0_2 : OwnC (α := Ln) 112 p0_2 c0_2 a0.c.l C0_2) (hn0_3 : n0_3 = (a0.g.o).length) (ho0_3 : OwnC (α := Ow) 148 p0_3 c0_3 a0.g.o C0_3) (hM : Sat w (hkeys [(0, C0_0), (1, C0_1), (2, C0_2), (3, C0_3)]) w [(0, C0_0), (1, C0_1), (2, C0_2), (3, C0_3)]) (r : Int × (List Int) × (List F) × (List Ln) × (List Ow)) (H0 : l_markMachine fl a0 a1 = some r) :
    Ct Tryz.prog 20 [.agg #[.slice p0_0 n0_0 c0_0, .slice p0_1 n0_1 c0_1, .slice p0_2 n0_2 c0_2, .int .i64 a0.c.h, .int .i64 a0.g.c, .int .i64 a0.g.n, .int .i64 a0.g.r, .slice p0_3 n0_3 c0_3, .int .i64 a0.s], .int .i64 a1] w [(0, C0_0), (1, C0_1), (2, C0_2), (3, C0_3)] (fun rv h' => ∃ (D0 : Res) (D1 : Res) (D2 : Res) (D3 : Res), rv = .int .i64 r.1 ∧ h' = [(0, D0), (1, D1), (2, D2), (3, D3)] ∧ n0_0 = (r.2.1).length ∧ OwnC (α := Int) 3 p0_0 c0_0 r.2.1 D0 ∧ n0_1 = (r.2.2.1).length ∧ OwnC (α := F) 127 p0_1 c0_1 r.2.2.1 D1 ∧ n0_2 = (r.2.2.2.1).length ∧ OwnC (α := Ln) 112 p0_2 c0_2 r.2.2.2.1 D2 ∧ n0_3 = (r.2.2.2.2).length ∧ OwnC (α := Ow) 148 p0_3 c0_3 r.2.2.2.2 D3) := by
  obtain rfl := hn0_0
  obtain rfl := hn0_1
  obtain rfl := hn0_2
  obtain rfl := hn0_3
  unfold l_markMachine at H0
  refine ct_of_cw Tryz.func20 rfl Tryz.ntmps20 rfl hM ?_
  refine sr (oE (stpU_box 4 rfl rfl) rfl ?_)
  rintro _ _ ⟨b1, rfl, rfl⟩
  obtain ⟨x2, e2, H0⟩ := bind_some H0
  refine oD (sg rfl) rfl (nn (sr (oD (fA 0 Tryz.underlying47 rfl ts39 rfl rfl rfl) rfl (oD (stp_loadN (us := [_, _]) ts39 rfl (Cells.box (id := 4) rfl 2 rfl)) rfl (oD (mv rfl) rfl (oE (stpU_callM (fun i => bif Nat.beq i 0 then 0 else bif Nat.beq i 1 then 1 else 5 + i) cf67 (fun w hw hb => c_l_markTable fl w a0.t p0_0 ((a0.t.b).length) c0_0 C0_0 p0_1 ((a0.t.f).length) c0_1 C0_1 a1 rfl ho0_0 rfl ho0_1 (hw.pass (js := [0, 1]) ⟨0, [1], rfl, rfl, 1, [], rfl, rfl, trivial⟩ (by decide)) x2 e2) (sevs_cons rfl (sevs_cons rfl sevs_nil)) ⟨rfl, (fun _ _ hp => by obtain ⟨_, _, _, rfl, _⟩ := hp; exact ⟨_, rfl⟩), rfl, (fun _ _ hp => by obtain ⟨_, _, _, rfl, _⟩ := hp; exact ⟨_, rfl⟩), trivial⟩) rfl ?_))))))
  rintro _ _ ⟨_, ⟨C3, C4, rfl, rfl, hl3, o3, hl4, o4⟩, rfl⟩
  obtain ⟨x5, e5, H0⟩ := bind_some H0
  refine oD (sg rfl) rfl (nn (sr (oD (fA 2 Tryz.underlying47 rfl ts42 rfl rfl rfl) rfl (oD (stp_loadN (us := [_, _]) ts42 rfl (Cells.box (id := 4) rfl 2 rfl)) rfl (oD (mv rfl) rfl (oE (stpU_callM (fun i => bif Nat.beq i 0 then 2 else 7 + i) cf68 (fun w hw hb => c_l_markCache fl w a0.c p0_2 ((a0.c.l).length) c0_2 C0_2 x2.1 rfl ho0_2 (hw.pass (js := [2]) ⟨2, [], rfl, rfl, trivial⟩ (by decide)) x5 e5) (sevs_cons rfl (sevs_cons rfl sevs_nil)) ⟨rfl, (fun _ _ hp => by obtain ⟨_, _, rfl, _⟩ := hp; exact ⟨_, rfl⟩), trivial⟩) rfl ?_))))))
  rintro _ _ ⟨_, ⟨C6, rfl, rfl, hl6, o6⟩, rfl⟩
  obtain ⟨x7, e7, H0⟩ := bind_some H0
  refine oD (sg rfl) rfl (nn (sr (oD (fA 4 Tryz.underlying47 rfl ts45 rfl rfl rfl) rfl (oD (stp_loadN (us := [_, _, _, _]) ts45 rfl (Cells.box (id := 4) rfl 4 rfl)) rfl (oD (mv rfl) rfl (oE (stpU_callM (fun i => bif Nat.beq i 0 then 3 else 8 + i) cf69 (fun w hw hb => c_l_markTags fl w a0.g p0_3 ((a0.g.o).length) c0_3 C0_3 x5.1 rfl ho0_3 (hw.pass (js := [3]) ⟨3, [], rfl, rfl, trivial⟩ (by decide)) x7 e7) (sevs_cons rfl (sevs_cons rfl sevs_nil)) ⟨rfl, (fun _ _ hp => by obtain ⟨_, _, rfl, _⟩ := hp; exact ⟨_, rfl⟩), trivial⟩) rfl ?_))))))
  rintro _ _ ⟨_, ⟨C8, rfl, rfl, hl8, o8⟩, rfl⟩
  refine oD (sg rfl) rfl (nn (sr (oD (mv rfl) rfl (oD (sg rfl) rfl (nn (cw_ret ?_))))))
  have q0 := Option.some.inj H0
  subst q0
  exact kw_ret Tryz.results20 (.cons (.tmp rfl) .nil) [(0, C3), (1, C4), (2, C6), (3, C8)] [0, 1, 2, 3] ⟨0, [1, 2, 3], rfl, rfl, 1, [2, 3], rfl, rfl, 2, [3], rfl, rfl, 3, [], rfl, rfl, trivial⟩ (by decide) ⟨C3, C4, C6, C8, rfl, rfl, (by simp [hl3]), o3, (by simp [hl4]), o4, (by simp [hl6]), o6, (by simp [hl8]), o8⟩

set_option maxHeartbeats 4000000 in
set_option maxRecDepth 20000 in
theorem c_l_heldIntS (fl : Nat) (w : World) (a0 : (List Int)) (p0_0 : Option Addr) (n0_0 c0_0 : Nat) (a1 : Int) (hn0_0 : n0_0 = (a0).length) (hr0_0 : RO w (hkeys []) (RdL p0_0 c0_0 a0)) (r : Int) (H0 : l_heldIntS fl a0 a1 = some r) :
    Ct Tryz.prog 158 [.slice p0_0 n0_0 c0_0, .int .i64 a1] w [] (fun rv h' => rv = .int .i64 r ∧ h' = []) := by
  obtain rfl := hn0_0
  unfold l_heldIntS at H0
  refine ct_of_cw Tryz.func158 rfl Tryz.ntmps158 rfl (Sat.refl _ _) ?_
  obtain ⟨o0_0, eo0_0, H0⟩ := bind_some H0
  refine sr (oD (sg rfl) rfl (nn (cw_seq (sr (oD (sg rfl) rfl (nn (cw_join (ι := Int × Int) (fun | (v1, v2) => o0_0 = .out (v1, v2)) (fun | (v1, v2) => [(0, .slice p0_0 ((a0).length) c0_0), (1, .int .i64 v1), (5, .int .i64 v2)]) (fun | (v1, v2) => []) ?_ ?_)))))))
  · refine cw_block (cw_loopS (ι := Nat × Int × Int) (js := []) (fun x => x.1) (fun | (fuel, v1, v2) => l_heldIntS_L0 fl a0 fuel v1 v2 = some o0_0) (fun | (_, v1, v2) => [(0, .slice p0_0 ((a0).length) c0_0), (1, .int .i64 v1), (5, .int .i64 v2)]) (fun | (_, v1, v2) => []) (fl, a1, 0) eo0_0 ⟨rfl, rfl, rfl, trivial⟩ trivial (by decide) ?_)
    rintro ⟨fuel, v1, v2⟩ H1
    have H1 : l_heldIntS_L0 fl a0 fuel v1 v2 = some o0_0 := H1
    rcases fuel with _ | fuel
    · rw [l_heldIntS_L0.eq_1] at H1; cases H1
    rw [l_heldIntS_L0.eq_2] at H1
    refine CW.sub (s' := [(0, .slice p0_0 ((a0).length) c0_0), (1, .int .i64 v1), (5, .int .i64 v2)]) (h' := []) ?_ ⟨rfl, rfl, rfl, trivial⟩ trivial
    refine cw_seq (sr (oD (mv rfl) rfl (oD (mv rfl) rfl (oD (stp_len Tryz.underlying22 rfl) rfl (oD (stp_lss rfl rfl) rfl (nn (cw_cond rfl (fun h3 => ?_) (fun h3 => ?_))))))))
    · have H1 := cond_t H1 h3
      obtain ⟨x4, e4, H1⟩ := bind_some H1
      refine cw_skip (kw_nx (cw_seq (cw_block (cw_seq (sr (oD (mv rfl) rfl (oD (mv rfl) rfl (oD (stp_indexAddr Tryz.underlying22 ts3 (by decide) rfl rfl rfl (Rdb.ro hr0_0) e4) rfl (oD (stp_load1 ts3 rfl (Cells.el (Rdb.ro hr0_0) (by decide) e4 0 1 rfl)) rfl (oD (mv rfl) rfl (oD (stp_neq rfl rfl) rfl (nn (cw_cond rfl (fun h5 => ?_) (fun h5 => ?_))))))))))))))
      · have H1 := cond_t H1 h5
        refine sr (oD (sg rfl) rfl (nn (cw_ret (kw_nx_ret (kw_bl_ret (kw_nx_ret (kw_lq_ret (kw_bl_ret (kw_join_ret (kw_nx_ret ?_))))))))))
        have q1 := Option.some.inj H1
        subst q1
        have q0 := Option.some.inj H0
        subst q0
        exact kw_ret Tryz.results158 (.cons (.tmp rfl) .nil) [] [] trivial (by decide) ⟨rfl, rfl⟩
      · have H1 := cond_f H1 h5
        obtain ⟨x6, e6, H1⟩ := bind_some H1
        obtain ⟨x7, e7, H1⟩ := bind_some H1
        refine cw_skip (kw_nx (cw_region (oD (mv rfl) rfl (oD (stp_add rfl rfl e6) rfl (oD (sg rfl) rfl (ow_nil (kw_bl_normal (kw_nx (cw_region (oD (mv rfl) rfl (oD (stp_add rfl rfl e7) rfl (oD (sg rfl) rfl (ow_nil ?_)))))))))))))
        exact kw_lqS (js := []) (fuel, x6, x7) H1 (Nat.lt_succ_self _) ⟨rfl, rfl, rfl, trivial⟩ trivial (by decide)
    · have H1 := cond_f H1 h3
      refine cw_exit (kw_nx_exit (kw_lq_exit (kw_bl ?_)))
      have q1 := Option.some.inj H1
      subst q1
      exact kw_joinS (js := []) (v1, v2) rfl ⟨rfl, rfl, rfl, trivial⟩ trivial (by decide)
  · rintro ⟨v1, v2⟩ rfl
    refine KW.sub (s' := [(0, .slice p0_0 ((a0).length) c0_0), (1, .int .i64 v1), (5, .int .i64 v2)]) (h' := []) ?_ ⟨rfl, rfl, rfl, trivial⟩ trivial
    refine kw_nx (sr (oD (mv rfl) rfl (oD (sg rfl) rfl (nn (cw_ret ?_)))))
    have q0 := Option.some.inj H0
    subst q0
    exact kw_ret Tryz.results158 (.cons (.tmp rfl) .nil) [] [] trivial (by decide) ⟨rfl, rfl⟩

set_option maxHeartbeats 4000000 in
set_option maxRecDepth 20000 in
theorem c_l_heldFrameS (fl : Nat) (w : World) (a0 : (List F)) (p0_0 : Option Addr) (n0_0 c0_0 : Nat) (a1 : Int) (hn0_0 : n0_0 = (a0).length) (hr0_0 : RO w (hkeys []) (RdL p0_0 c0_0 a0)) (r : Int) (H0 : l_heldFrameS fl a0 a1 = some r) :
    Ct Tryz.prog 159 [.slice p0_0 n0_0 c0_0, .int .i64 a1] w [] (fun rv h' => rv = .int .i64 r ∧ h' = []) := by
  obtain rfl := hn0_0
  unfold l_heldFrameS at H0
  refine ct_of_cw Tryz.func159 rfl Tryz.ntmps159 rfl (Sat.refl _ _) ?_
  obtain ⟨o0_0, eo0_0, H0⟩ := bind_some H0
  refine sr (oD (sg rfl) rfl (nn (cw_seq (sr (oD (sg rfl) rfl (nn (cw_join (ι := Int × Int) (fun | (v1, v2) => o0_0 = .out (v1, v2)) (fun | (v1, v2) => [(0, .slice p0_0 ((a0).length) c0_0), (1, .int .i64 v1), (5, .int .i64 v2)]) (fun | (v1, v2) => []) ?_ ?_)))))))
  · refine cw_block (cw_loopS (ι := Nat × Int × Int) (js := []) (fun x => x.1) (fun | (fuel, v1, v2) => l_heldFrameS_L0 fl a0 fuel v1 v2 = some o0_0) (fun | (_, v1, v2) => [(0, .slice p0_0 ((a0).length) c0_0), (1, .int .i64 v1), (5, .int .i64 v2)]) (fun | (_, v1, v2) => []) (fl, a1, 0) eo0_0 ⟨rfl, rfl, rfl, trivial⟩ trivial (by decide) ?_)
    rintro ⟨fuel, v1, v2⟩ H1
    have H1 : l_heldFrameS_L0 fl a0 fuel v1 v2 = some o0_0 := H1
    rcases fuel with _ | fuel
    · rw [l_heldFrameS_L0.eq_1] at H1; cases H1
    rw [l_heldFrameS_L0.eq_2] at H1
    refine CW.sub (s' := [(0, .slice p0_0 ((a0).length) c0_0), (1, .int .i64 v1), (5, .int .i64 v2)]) (h' := []) ?_ ⟨rfl, rfl, rfl, trivial⟩ trivial
    refine cw_seq (sr (oD (mv rfl) rfl (oD (mv rfl) rfl (oD (stp_len Tryz.underlying37 rfl) rfl (oD (stp_lss rfl rfl) rfl (nn (cw_cond rfl (fun h3 => ?_) (fun h3 => ?_))))))))
    · have H1 := cond_t H1 h3
      obtain ⟨x4, e4, H1⟩ := bind_some H1
      obtain ⟨x5, e5, H1⟩ := bind_some H1
      refine cw_skip (kw_nx (cw_seq (cw_block (cw_seq (sr (oD (mv rfl) rfl (oD (mv rfl) rfl (oD (stp_indexAddr Tryz.underlying37 ts127 (by decide) rfl rfl rfl (Rdb.ro hr0_0) e4) rfl (oD (fA 0 Tryz.underlying127 rfl ts4 rfl rfl rfl) rfl (oD (stp_load1 ts4 rfl (Cells.el (Rdb.ro hr0_0) (by decide) e4 0 1 rfl)) rfl (oD (mv rfl) rfl (oD (stp_rem rfl rfl e5) rfl (oD (stp_eql rfl rfl) rfl ?_)))))))))))))
      refine oD (stp_neqB Tryz.underlying4 rfl rfl) rfl (nn (cw_cond rfl (fun h6 => ?_) (fun h6 => ?_)))
      · have H1 := cond_t H1 h6
        refine sr (oD (sg rfl) rfl (nn (cw_ret (kw_nx_ret (kw_bl_ret (kw_nx_ret (kw_lq_ret (kw_bl_ret (kw_join_ret (kw_nx_ret ?_))))))))))
        have q1 := Option.some.inj H1
        subst q1
        have q0 := Option.some.inj H0
        subst q0
        exact kw_ret Tryz.results159 (.cons (.tmp rfl) .nil) [] [] trivial (by decide) ⟨rfl, rfl⟩
      · have H1 := cond_f H1 h6
        obtain ⟨x7, e7, H1⟩ := bind_some H1
        refine cw_skip (kw_nx (sr (oD (mv rfl) rfl (oD (stp_add rfl rfl e7) rfl (oD (sg rfl) rfl (nn (cw_seq (sr (oD (mv rfl) rfl (oD (mv rfl) rfl (oD (stp_indexAddr Tryz.underlying37 ts127 (by decide) rfl rfl rfl (Rdb.ro hr0_0) e4) rfl (oD (fA 1 Tryz.underlying127 rfl ts51 rfl rfl rfl) rfl (oD (fA 0 Tryz.underlying51 rfl ts3 rfl rfl rfl) rfl ?_)))))))))))))
        refine oD (stp_load1 ts3 rfl (Cells.el (Rdb.ro hr0_0) (by decide) e4 1 1 rfl)) rfl (oD (mv rfl) rfl (oD (stp_neq rfl rfl) rfl (nn (cw_cond rfl (fun h8 => ?_) (fun h8 => ?_)))))
        · have H1 := cond_t H1 h8
          refine sr (oD (sg rfl) rfl (nn (cw_ret (kw_nx_ret (kw_bl_ret (kw_nx_ret (kw_lq_ret (kw_bl_ret (kw_join_ret (kw_nx_ret ?_))))))))))
          have q1 := Option.some.inj H1
          subst q1
          have q0 := Option.some.inj H0
          subst q0
          exact kw_ret Tryz.results159 (.cons (.tmp rfl) .nil) [] [] trivial (by decide) ⟨rfl, rfl⟩
        · have H1 := cond_f H1 h8
          obtain ⟨x9, e9, H1⟩ := bind_some H1
          refine cw_skip (kw_nx (sr (oD (mv rfl) rfl (oD (stp_add rfl rfl e9) rfl (oD (sg rfl) rfl (nn (cw_seq (sr (oD (mv rfl) rfl (oD (mv rfl) rfl (oD (stp_indexAddr Tryz.underlying37 ts127 (by decide) rfl rfl rfl (Rdb.ro hr0_0) e4) rfl (oD (fA 1 Tryz.underlying127 rfl ts51 rfl rfl rfl) rfl (oD (fA 1 Tryz.underlying51 rfl ts3 rfl rfl rfl) rfl ?_)))))))))))))
          refine oD (stp_load1 ts3 rfl (Cells.el (Rdb.ro hr0_0) (by decide) e4 2 1 rfl)) rfl (oD (mv rfl) rfl (oD (stp_neq rfl rfl) rfl (nn (cw_cond rfl (fun h10 => ?_) (fun h10 => ?_)))))
          · have H1 := cond_t H1 h10
            refine sr (oD (sg rfl) rfl (nn (cw_ret (kw_nx_ret (kw_bl_ret (kw_nx_ret (kw_lq_ret (kw_bl_ret (kw_join_ret (kw_nx_ret ?_))))))))))
            have q1 := Option.some.inj H1
            subst q1
            have q0 := Option.some.inj H0
            subst q0
            exact kw_ret Tryz.results159 (.cons (.tmp rfl) .nil) [] [] trivial (by decide) ⟨rfl, rfl⟩
          · have H1 := cond_f H1 h10
            obtain ⟨x11, e11, H1⟩ := bind_some H1
            refine cw_skip (kw_nx (sr (oD (mv rfl) rfl (oD (stp_add rfl rfl e11) rfl (oD (sg rfl) rfl (nn (cw_seq (sr (oD (mv rfl) rfl (oD (mv rfl) rfl (oD (stp_indexAddr Tryz.underlying37 ts127 (by decide) rfl rfl rfl (Rdb.ro hr0_0) e4) rfl (oD (fA 3 Tryz.underlying127 rfl ts3 rfl rfl rfl) rfl (oD (stp_load1 ts3 rfl (Cells.el (Rdb.ro hr0_0) (by decide) e4 3 1 rfl)) rfl ?_)))))))))))))
            refine oD (mv rfl) rfl (oD (stp_neq rfl rfl) rfl (nn (cw_cond rfl (fun h12 => ?_) (fun h12 => ?_))))
            · have H1 := cond_t H1 h12
              refine sr (oD (sg rfl) rfl (nn (cw_ret (kw_nx_ret (kw_bl_ret (kw_nx_ret (kw_lq_ret (kw_bl_ret (kw_join_ret (kw_nx_ret ?_))))))))))
              have q1 := Option.some.inj H1
              subst q1
              have q0 := Option.some.inj H0
              subst q0
              exact kw_ret Tryz.results159 (.cons (.tmp rfl) .nil) [] [] trivial (by decide) ⟨rfl, rfl⟩
            · have H1 := cond_f H1 h12
              obtain ⟨x13, e13, H1⟩ := bind_some H1
              refine cw_skip (kw_nx (sr (oD (mv rfl) rfl (oD (stp_add rfl rfl e13) rfl (oD (sg rfl) rfl (nn (cw_seq (sr (oD (mv rfl) rfl (oD (mv rfl) rfl (oD (stp_indexAddr Tryz.underlying37 ts127 (by decide) rfl rfl rfl (Rdb.ro hr0_0) e4) rfl (oD (fA 4 Tryz.underlying127 rfl ts3 rfl rfl rfl) rfl (oD (stp_load1 ts3 rfl (Cells.el (Rdb.ro hr0_0) (by decide) e4 4 1 rfl)) rfl ?_)))))))))))))
              refine oD (mv rfl) rfl (oD (stp_neq rfl rfl) rfl (nn (cw_cond rfl (fun h14 => ?_) (fun h14 => ?_))))
              · have H1 := cond_t H1 h14
                refine sr (oD (sg rfl) rfl (nn (cw_ret (kw_nx_ret (kw_bl_ret (kw_nx_ret (kw_lq_ret (kw_bl_ret (kw_join_ret (kw_nx_ret ?_))))))))))
                have q1 := Option.some.inj H1
                subst q1
                have q0 := Option.some.inj H0
                subst q0
                exact kw_ret Tryz.results159 (.cons (.tmp rfl) .nil) [] [] trivial (by decide) ⟨rfl, rfl⟩
              · have H1 := cond_f H1 h14
                obtain ⟨x15, e15, H1⟩ := bind_some H1
                obtain ⟨x16, e16, H1⟩ := bind_some H1
                refine cw_skip (kw_nx (cw_region (oD (mv rfl) rfl (oD (stp_add rfl rfl e15) rfl (oD (sg rfl) rfl (ow_nil (kw_bl_normal (kw_nx (cw_region (oD (mv rfl) rfl (oD (stp_add rfl rfl e16) rfl (oD (sg rfl) rfl (ow_nil ?_)))))))))))))
                exact kw_lqS (js := []) (fuel, x15, x16) H1 (Nat.lt_succ_self _) ⟨rfl, rfl, rfl, trivial⟩ trivial (by decide)
    · have H1 := cond_f H1 h3
      refine cw_exit (kw_nx_exit (kw_lq_exit (kw_bl ?_)))
      have q1 := Option.some.inj H1
      subst q1
      exact kw_joinS (js := []) (v1, v2) rfl ⟨rfl, rfl, rfl, trivial⟩ trivial (by decide)
  · rintro ⟨v1, v2⟩ rfl
    refine KW.sub (s' := [(0, .slice p0_0 ((a0).length) c0_0), (1, .int .i64 v1), (5, .int .i64 v2)]) (h' := []) ?_ ⟨rfl, rfl, rfl, trivial⟩ trivial
    refine kw_nx (sr (oD (mv rfl) rfl (oD (sg rfl) rfl (nn (cw_ret ?_)))))
    have q0 := Option.some.inj H0
    subst q0
    exact kw_ret Tryz.results159 (.cons (.tmp rfl) .nil) [] [] trivial (by decide) ⟨rfl, rfl⟩

set_option maxHeartbeats 4000000 in
set_option maxRecDepth 20000 in
theorem c_l_heldTable (fl : Nat) (w : World) (a0 : T) (p0_0 : Option Addr) (n0_0 c0_0 : Nat) (p0_1 : Option Addr) (n0_1 c0_1 : Nat) (a1 : Int) (hn0_0 : n0_0 = (a0.b).length) (hr0_0 : RO w (hkeys []) (RdL p0_0 c0_0 a0.b)) (hn0_1 : n0_1 = (a0.f).length) (hr0_1 : RO w (hkeys []) (RdL p0_1 c0_1 a0.f)) (r : Int) (H0 : l_heldTable fl a0 a1 = some r) :
    Ct Tryz.prog 70 [.agg #[.slice p0_0 n0_0 c0_0, .slice p0_1 n0_1 c0_1], .int .i64 a1] w [] (fun rv h' => rv = .int .i64 r ∧ h' = []) := by
  obtain rfl := hn0_0
  obtain rfl := hn0_1
  unfold l_heldTable at H0
  refine ct_of_cw Tryz.func70 rfl Tryz.ntmps70 rfl (Sat.refl _ _) ?_
  refine sr (oE (stpU_box 0 rfl rfl) rfl ?_)
  rintro _ _ ⟨b1, rfl, rfl⟩
  obtain ⟨x2, e2, H0⟩ := bind_some H0
  refine oD (sg rfl) rfl (nn (sr (oD (fA 0 Tryz.underlying39 rfl ts22 rfl rfl rfl) rfl (oD (lB 0 ts22 rfl rfl rfl) rfl (oD (mv rfl) rfl (oE (stpU_call (fun i => 1 + i) cf158 (fun w hw => c_l_heldIntS fl w a0.b p0_0 ((a0.b).length) c0_0 a1 rfl (RO.pass hr0_0 hw) x2 e2) (sevs_cons rfl (sevs_cons rfl sevs_nil))) rfl ?_))))))
  rintro _ _ ⟨_, ⟨rfl, rfl⟩, rfl⟩
  refine oD (sg rfl) rfl (nn (cw_seq (sr (oD (mv rfl) rfl (oD (stp_lss rfl rfl) rfl (nn (cw_cond rfl (fun h3 => ?_) (fun h3 => ?_))))))))
  · have H0 := cond_t H0 h3
    refine sr (oD (sg rfl) rfl (nn (cw_ret (kw_nx_ret ?_))))
    have q0 := Option.some.inj H0
    subst q0
    exact kw_ret Tryz.results70 (.cons (.tmp rfl) .nil) [] [] trivial (by decide) ⟨rfl, rfl⟩
  · have H0 := cond_f H0 h3
    obtain ⟨x4, e4, H0⟩ := bind_some H0
    refine cw_skip (kw_nx (sr (oD (fA 1 Tryz.underlying39 rfl ts37 rfl rfl rfl) rfl (oD (lB 0 ts37 rfl rfl rfl) rfl (oD (mv rfl) rfl (oE (stpU_call (fun i => 1 + i) cf159 (fun w hw => c_l_heldFrameS fl w a0.f p0_1 ((a0.f).length) c0_1 x2 rfl (RO.pass hr0_1 hw) x4 e4) (sevs_cons rfl (sevs_cons rfl sevs_nil))) rfl ?_))))))
    rintro _ _ ⟨_, ⟨rfl, rfl⟩, rfl⟩
    refine oD (sg rfl) rfl (nn (cw_seq (sr (oD (mv rfl) rfl (oD (stp_lss rfl rfl) rfl (nn (cw_cond rfl (fun h5 => ?_) (fun h5 => ?_))))))))
    · have H0 := cond_t H0 h5
      refine sr (oD (sg rfl) rfl (nn (cw_ret (kw_nx_ret ?_))))
      have q0 := Option.some.inj H0
      subst q0
      exact kw_ret Tryz.results70 (.cons (.tmp rfl) .nil) [] [] trivial (by decide) ⟨rfl, rfl⟩
    · have H0 := cond_f H0 h5
      refine cw_skip (kw_nx (sr (oD (mv rfl) rfl (oD (sg rfl) rfl (nn (cw_ret ?_))))))
      have q0 := Option.some.inj H0
      subst q0
      exact kw_ret Tryz.results70 (.cons (.tmp rfl) .nil) [] [] trivial (by decide) ⟨rfl, rfl⟩

set_option maxHeartbeats 4000000 in
set_option maxRecDepth 20000 in
theorem c_l_heldLineS (fl : Nat) (w : World) (a0 : (List Ln)) (p0_0 : Option Addr) (n0_0 c0_0 : Nat) (a1 : Int) (hn0_0 : n0_0 = (a0).length) (hr0_0 : RO w (hkeys []) (RdL p0_0 c0_0 a0)) (r : Int) (H0 : l_heldLineS fl a0 a1 = some r) :
    Ct Tryz.prog 160 [.slice p0_0 n0_0 c0_0, .int .i64 a1] w [] (fun rv h' => rv = .int .i64 r ∧ h' = []) := by
  obtain rfl := hn0_0
  unfold l_heldLineS at H0
  refine ct_of_cw Tryz.func160 rfl Tryz.ntmps160 rfl (Sat.refl _ _) ?_
  obtain ⟨o0_0, eo0_0, H0⟩ := bind_some H0
  refine sr (oD (sg rfl) rfl (nn (cw_seq (sr (oD (sg rfl) rfl (nn (cw_join (ι := Int × Int) (fun | (v1, v2) => o0_0 = .out (v1, v2)) (fun | (v1, v2) => [(0, .slice p0_0 ((a0).length) c0_0), (1, .int .i64 v1), (5, .int .i64 v2)]) (fun | (v1, v2) => []) ?_ ?_)))))))
  · refine cw_block (cw_loopS (ι := Nat × Int × Int) (js := []) (fun x => x.1) (fun | (fuel, v1, v2) => l_heldLineS_L0 fl a0 fuel v1 v2 = some o0_0) (fun | (_, v1, v2) => [(0, .slice p0_0 ((a0).length) c0_0), (1, .int .i64 v1), (5, .int .i64 v2)]) (fun | (_, v1, v2) => []) (fl, a1, 0) eo0_0 ⟨rfl, rfl, rfl, trivial⟩ trivial (by decide) ?_)
    rintro ⟨fuel, v1, v2⟩ H1
    have H1 : l_heldLineS_L0 fl a0 fuel v1 v2 = some o0_0 := H1
    rcases fuel with _ | fuel
    · rw [l_heldLineS_L0.eq_1] at H1; cases H1
    rw [l_heldLineS_L0.eq_2] at H1
    refine CW.sub (s' := [(0, .slice p0_0 ((a0).length) c0_0), (1, .int .i64 v1), (5, .int .i64 v2)]) (h' := []) ?_ ⟨rfl, rfl, rfl, trivial⟩ trivial
    refine cw_seq (sr (oD (mv rfl) rfl (oD (mv rfl) rfl (oD (stp_len Tryz.underlying40 rfl) rfl (oD (stp_lss rfl rfl) rfl (nn (cw_cond rfl (fun h3 => ?_) (fun h3 => ?_))))))))
    · have H1 := cond_t H1 h3
      obtain ⟨x4, e4, H1⟩ := bind_some H1
      obtain ⟨x5, e5, H1⟩ := bind_some H1
      refine cw_skip (kw_nx (cw_seq (cw_block (cw_seq (sr (oD (mv rfl) rfl (oD (mv rfl) rfl (oD (stp_indexAddr Tryz.underlying40 ts112 (by decide) rfl rfl rfl (Rdb.ro hr0_0) e4) rfl (oD (fA 0 Tryz.underlying112 rfl ts4 rfl rfl rfl) rfl (oD (stp_load1 ts4 rfl (Cells.el (Rdb.ro hr0_0) (by decide) e4 0 1 rfl)) rfl (oD (mv rfl) rfl (oD (stp_rem rfl rfl e5) rfl (oD (stp_eql rfl rfl) rfl ?_)))))))))))))
      refine oD (stp_neqB Tryz.underlying4 rfl rfl) rfl (nn (cw_cond rfl (fun h6 => ?_) (fun h6 => ?_)))
      · have H1 := cond_t H1 h6
        refine sr (oD (sg rfl) rfl (nn (cw_ret (kw_nx_ret (kw_bl_ret (kw_nx_ret (kw_lq_ret (kw_bl_ret (kw_join_ret (kw_nx_ret ?_))))))))))
        have q1 := Option.some.inj H1
        subst q1
        have q0 := Option.some.inj H0
        subst q0
        exact kw_ret Tryz.results160 (.cons (.tmp rfl) .nil) [] [] trivial (by decide) ⟨rfl, rfl⟩
      · have H1 := cond_f H1 h6
        obtain ⟨x7, e7, H1⟩ := bind_some H1
        refine cw_skip (kw_nx (sr (oD (mv rfl) rfl (oD (stp_add rfl rfl e7) rfl (oD (sg rfl) rfl (nn (cw_seq (sr (oD (mv rfl) rfl (oD (mv rfl) rfl (oD (stp_indexAddr Tryz.underlying40 ts112 (by decide) rfl rfl rfl (Rdb.ro hr0_0) e4) rfl (oD (fA 1 Tryz.underlying112 rfl ts3 rfl rfl rfl) rfl (oD (stp_load1 ts3 rfl (Cells.el (Rdb.ro hr0_0) (by decide) e4 1 1 rfl)) rfl ?_)))))))))))))
        refine oD (mv rfl) rfl (oD (stp_neq rfl rfl) rfl (nn (cw_cond rfl (fun h8 => ?_) (fun h8 => ?_))))
        · have H1 := cond_t H1 h8
          refine sr (oD (sg rfl) rfl (nn (cw_ret (kw_nx_ret (kw_bl_ret (kw_nx_ret (kw_lq_ret (kw_bl_ret (kw_join_ret (kw_nx_ret ?_))))))))))
          have q1 := Option.some.inj H1
          subst q1
          have q0 := Option.some.inj H0
          subst q0
          exact kw_ret Tryz.results160 (.cons (.tmp rfl) .nil) [] [] trivial (by decide) ⟨rfl, rfl⟩
        · have H1 := cond_f H1 h8
          obtain ⟨x9, e9, H1⟩ := bind_some H1
          refine cw_skip (kw_nx (sr (oD (mv rfl) rfl (oD (stp_add rfl rfl e9) rfl (oD (sg rfl) rfl (nn (cw_seq (sr (oD (mv rfl) rfl (oD (mv rfl) rfl (oD (stp_indexAddr Tryz.underlying40 ts112 (by decide) rfl rfl rfl (Rdb.ro hr0_0) e4) rfl (oD (fA 2 Tryz.underlying112 rfl ts3 rfl rfl rfl) rfl (oD (stp_load1 ts3 rfl (Cells.el (Rdb.ro hr0_0) (by decide) e4 2 1 rfl)) rfl ?_)))))))))))))
          refine oD (mv rfl) rfl (oD (stp_neq rfl rfl) rfl (nn (cw_cond rfl (fun h10 => ?_) (fun h10 => ?_))))
          · have H1 := cond_t H1 h10
            refine sr (oD (sg rfl) rfl (nn (cw_ret (kw_nx_ret (kw_bl_ret (kw_nx_ret (kw_lq_ret (kw_bl_ret (kw_join_ret (kw_nx_ret ?_))))))))))
            have q1 := Option.some.inj H1
            subst q1
            have q0 := Option.some.inj H0
            subst q0
            exact kw_ret Tryz.results160 (.cons (.tmp rfl) .nil) [] [] trivial (by decide) ⟨rfl, rfl⟩
          · have H1 := cond_f H1 h10
            obtain ⟨x11, e11, H1⟩ := bind_some H1
            refine cw_skip (kw_nx (sr (oD (mv rfl) rfl (oD (stp_add rfl rfl e11) rfl (oD (sg rfl) rfl (nn (cw_seq (sr (oD (mv rfl) rfl (oD (mv rfl) rfl (oD (stp_indexAddr Tryz.underlying40 ts112 (by decide) rfl rfl rfl (Rdb.ro hr0_0) e4) rfl (oD (fA 3 Tryz.underlying112 rfl ts3 rfl rfl rfl) rfl (oD (stp_load1 ts3 rfl (Cells.el (Rdb.ro hr0_0) (by decide) e4 3 1 rfl)) rfl ?_)))))))))))))
            refine oD (mv rfl) rfl (oD (stp_neq rfl rfl) rfl (nn (cw_cond rfl (fun h12 => ?_) (fun h12 => ?_))))
            · have H1 := cond_t H1 h12
              refine sr (oD (sg rfl) rfl (nn (cw_ret (kw_nx_ret (kw_bl_ret (kw_nx_ret (kw_lq_ret (kw_bl_ret (kw_join_ret (kw_nx_ret ?_))))))))))
              have q1 := Option.some.inj H1
              subst q1
              have q0 := Option.some.inj H0
              subst q0
              exact kw_ret Tryz.results160 (.cons (.tmp rfl) .nil) [] [] trivial (by decide) ⟨rfl, rfl⟩
            · have H1 := cond_f H1 h12
              obtain ⟨x13, e13, H1⟩ := bind_some H1
              refine cw_skip (kw_nx (sr (oD (mv rfl) rfl (oD (stp_add rfl rfl e13) rfl (oD (sg rfl) rfl (nn (cw_seq (sr (oD (mv rfl) rfl (oD (mv rfl) rfl (oD (stp_indexAddr Tryz.underlying40 ts112 (by decide) rfl rfl rfl (Rdb.ro hr0_0) e4) rfl (oD (fA 4 Tryz.underlying112 rfl ts3 rfl rfl rfl) rfl (oD (stp_load1 ts3 rfl (Cells.el (Rdb.ro hr0_0) (by decide) e4 4 1 rfl)) rfl ?_)))))))))))))
              refine oD (mv rfl) rfl (oD (stp_neq rfl rfl) rfl (nn (cw_cond rfl (fun h14 => ?_) (fun h14 => ?_))))
              · have H1 := cond_t H1 h14
                refine sr (oD (sg rfl) rfl (nn (cw_ret (kw_nx_ret (kw_bl_ret (kw_nx_ret (kw_lq_ret (kw_bl_ret (kw_join_ret (kw_nx_ret ?_))))))))))
                have q1 := Option.some.inj H1
                subst q1
                have q0 := Option.some.inj H0
                subst q0
                exact kw_ret Tryz.results160 (.cons (.tmp rfl) .nil) [] [] trivial (by decide) ⟨rfl, rfl⟩
              · have H1 := cond_f H1 h14
                obtain ⟨x15, e15, H1⟩ := bind_some H1
                refine cw_skip (kw_nx (sr (oD (mv rfl) rfl (oD (stp_add rfl rfl e15) rfl (oD (sg rfl) rfl (nn (cw_seq (sr (oD (mv rfl) rfl (oD (mv rfl) rfl (oD (stp_indexAddr Tryz.underlying40 ts112 (by decide) rfl rfl rfl (Rdb.ro hr0_0) e4) rfl (oD (fA 5 Tryz.underlying112 rfl ts4 rfl rfl rfl) rfl (oD (stp_load1 ts4 rfl (Cells.el (Rdb.ro hr0_0) (by decide) e4 5 1 rfl)) rfl ?_)))))))))))))
                obtain ⟨x16, e16, H1⟩ := bind_some H1
                refine oD (mv rfl) rfl (oD (stp_rem rfl rfl e16) rfl (oD (stp_eql rfl rfl) rfl (oD (stp_neqB Tryz.underlying4 rfl rfl) rfl (nn (cw_cond rfl (fun h17 => ?_) (fun h17 => ?_))))))
                · have H1 := cond_t H1 h17
                  refine sr (oD (sg rfl) rfl (nn (cw_ret (kw_nx_ret (kw_bl_ret (kw_nx_ret (kw_lq_ret (kw_bl_ret (kw_join_ret (kw_nx_ret ?_))))))))))
                  have q1 := Option.some.inj H1
                  subst q1
                  have q0 := Option.some.inj H0
                  subst q0
                  exact kw_ret Tryz.results160 (.cons (.tmp rfl) .nil) [] [] trivial (by decide) ⟨rfl, rfl⟩
                · have H1 := cond_f H1 h17
                  obtain ⟨x18, e18, H1⟩ := bind_some H1
                  obtain ⟨x19, e19, H1⟩ := bind_some H1
                  refine cw_skip (kw_nx (cw_region (oD (mv rfl) rfl (oD (stp_add rfl rfl e18) rfl (oD (sg rfl) rfl (ow_nil (kw_bl_normal (kw_nx (cw_region (oD (mv rfl) rfl (oD (stp_add rfl rfl e19) rfl (oD (sg rfl) rfl (ow_nil ?_)))))))))))))
                  exact kw_lqS (js := []) (fuel, x18, x19) H1 (Nat.lt_succ_self _) ⟨rfl, rfl, rfl, trivial⟩ trivial (by decide)
    · have H1 := cond_f H1 h3
      refine cw_exit (kw_nx_exit (kw_lq_exit (kw_bl ?_)))
      have q1 := Option.some.inj H1
      subst q1
      exact kw_joinS (js := []) (v1, v2) rfl ⟨rfl, rfl, rfl, trivial⟩ trivial (by decide)
  · rintro ⟨v1, v2⟩ rfl
    refine KW.sub (s' := [(0, .slice p0_0 ((a0).length) c0_0), (1, .int .i64 v1), (5, .int .i64 v2)]) (h' := []) ?_ ⟨rfl, rfl, rfl, trivial⟩ trivial
    refine kw_nx (sr (oD (mv rfl) rfl (oD (sg rfl) rfl (nn (cw_ret ?_)))))
    have q0 := Option.some.inj H0
    subst q0
    exact kw_ret Tryz.results160 (.cons (.tmp rfl) .nil) [] [] trivial (by decide) ⟨rfl, rfl⟩

set_option maxHeartbeats 4000000 in
set_option maxRecDepth 20000 in
theorem c_l_heldCache (fl : Nat) (w : World) (a0 : Ca) (p0_0 : Option Addr) (n0_0 c0_0 : Nat) (a1 : Int) (hn0_0 : n0_0 = (a0.l).length) (hr0_0 : RO w (hkeys []) (RdL p0_0 c0_0 a0.l)) (r : Int) (H0 : l_heldCache fl a0 a1 = some r) :
    Ct Tryz.prog 71 [.agg #[.slice p0_0 n0_0 c0_0, .int .i64 a0.h], .int .i64 a1] w [] (fun rv h' => rv = .int .i64 r ∧ h' = []) := by
  obtain rfl := hn0_0
  unfold l_heldCache at H0
  refine ct_of_cw Tryz.func71 rfl Tryz.ntmps71 rfl (Sat.refl _ _) ?_
  refine sr (oE (stpU_box 0 rfl rfl) rfl ?_)
  rintro _ _ ⟨b1, rfl, rfl⟩
  obtain ⟨x2, e2, H0⟩ := bind_some H0
  refine oD (sg rfl) rfl (nn (sr (oD (fA 0 Tryz.underlying42 rfl ts40 rfl rfl rfl) rfl (oD (lB 0 ts40 rfl rfl rfl) rfl (oD (mv rfl) rfl (oE (stpU_call (fun i => 1 + i) cf160 (fun w hw => c_l_heldLineS fl w a0.l p0_0 ((a0.l).length) c0_0 a1 rfl (RO.pass hr0_0 hw) x2 e2) (sevs_cons rfl (sevs_cons rfl sevs_nil))) rfl ?_))))))
  rintro _ _ ⟨_, ⟨rfl, rfl⟩, rfl⟩
  refine oD (sg rfl) rfl (nn (cw_seq (sr (oD (mv rfl) rfl (oD (stp_lss rfl rfl) rfl (nn (cw_cond rfl (fun h3 => ?_) (fun h3 => ?_))))))))
  · have H0 := cond_t H0 h3
    refine sr (oD (sg rfl) rfl (nn (cw_ret (kw_nx_ret ?_))))
    have q0 := Option.some.inj H0
    subst q0
    exact kw_ret Tryz.results71 (.cons (.tmp rfl) .nil) [] [] trivial (by decide) ⟨rfl, rfl⟩
  · have H0 := cond_f H0 h3
    refine cw_skip (kw_nx (sr (oD (mv rfl) rfl (oD (sg rfl) rfl (nn (cw_ret ?_))))))
    have q0 := Option.some.inj H0
    subst q0
    exact kw_ret Tryz.results71 (.cons (.tmp rfl) .nil) [] [] trivial (by decide) ⟨rfl, rfl⟩

set_option maxHeartbeats 4000000 in
set_option maxRecDepth 20000 in
theorem c_l_heldOwnS (fl : Nat) (w : World) (a0 : (List Ow)) (p0_0 : Option Addr) (n0_0 c0_0 : Nat) (a1 : Int) (hn0_0 : n0_0 = (a0).length) (hr0_0 : RO w (hkeys []) (RdL p0_0 c0_0 a0)) (r : Int) (H0 : l_heldOwnS fl a0 a1 = some r) :
    Ct Tryz.prog 161 [.slice p0_0 n0_0 c0_0, .int .i64 a1] w [] (fun rv h' => rv = .int .i64 r ∧ h' = []) := by
  obtain rfl := hn0_0
  unfold l_heldOwnS at H0
  refine ct_of_cw Tryz.func161 rfl Tryz.ntmps161 rfl (Sat.refl _ _) ?_
  obtain ⟨o0_0, eo0_0, H0⟩ := bind_some H0
  refine sr (oD (sg rfl) rfl (nn (cw_seq (sr (oD (sg rfl) rfl (nn (cw_join (ι := Int × Int) (fun | (v1, v2) => o0_0 = .out (v1, v2)) (fun | (v1, v2) => [(0, .slice p0_0 ((a0).length) c0_0), (1, .int .i64 v1), (5, .int .i64 v2)]) (fun | (v1, v2) => []) ?_ ?_)))))))
  · refine cw_block (cw_loopS (ι := Nat × Int × Int) (js := []) (fun x => x.1) (fun | (fuel, v1, v2) => l_heldOwnS_L0 fl a0 fuel v1 v2 = some o0_0) (fun | (_, v1, v2) => [(0, .slice p0_0 ((a0).length) c0_0), (1, .int .i64 v1), (5, .int .i64 v2)]) (fun | (_, v1, v2) => []) (fl, a1, 0) eo0_0 ⟨rfl, rfl, rfl, trivial⟩ trivial (by decide) ?_)
    rintro ⟨fuel, v1, v2⟩ H1
    have H1 : l_heldOwnS_L0 fl a0 fuel v1 v2 = some o0_0 := H1
    rcases fuel with _ | fuel
    · rw [l_heldOwnS_L0.eq_1] at H1; cases H1
    rw [l_heldOwnS_L0.eq_2] at H1
    refine CW.sub (s' := [(0, .slice p0_0 ((a0).length) c0_0), (1, .int .i64 v1), (5, .int .i64 v2)]) (h' := []) ?_ ⟨rfl, rfl, rfl, trivial⟩ trivial
    refine cw_seq (sr (oD (mv rfl) rfl (oD (mv rfl) rfl (oD (stp_len Tryz.underlying43 rfl) rfl (oD (stp_lss rfl rfl) rfl (nn (cw_cond rfl (fun h3 => ?_) (fun h3 => ?_))))))))
    · have H1 := cond_t H1 h3
      obtain ⟨x4, e4, H1⟩ := bind_some H1
      refine cw_skip (kw_nx (cw_seq (cw_block (cw_seq (sr (oD (mv rfl) rfl (oD (mv rfl) rfl (oD (stp_indexAddr Tryz.underlying43 ts148 (by decide) rfl rfl rfl (Rdb.ro hr0_0) e4) rfl (oD (fA 0 Tryz.underlying148 rfl ts3 rfl rfl rfl) rfl (oD (stp_load1 ts3 rfl (Cells.el (Rdb.ro hr0_0) (by decide) e4 0 1 rfl)) rfl (oD (mv rfl) rfl (oD (stp_neq rfl rfl) rfl (nn ?_)))))))))))))
      refine cw_cond rfl (fun h5 => ?_) (fun h5 => ?_)
      · have H1 := cond_t H1 h5
        refine sr (oD (sg rfl) rfl (nn (cw_ret (kw_nx_ret (kw_bl_ret (kw_nx_ret (kw_lq_ret (kw_bl_ret (kw_join_ret (kw_nx_ret ?_))))))))))
        have q1 := Option.some.inj H1
        subst q1
        have q0 := Option.some.inj H0
        subst q0
        exact kw_ret Tryz.results161 (.cons (.tmp rfl) .nil) [] [] trivial (by decide) ⟨rfl, rfl⟩
      · have H1 := cond_f H1 h5
        obtain ⟨x6, e6, H1⟩ := bind_some H1
        refine cw_skip (kw_nx (sr (oD (mv rfl) rfl (oD (stp_add rfl rfl e6) rfl (oD (sg rfl) rfl (nn (cw_seq (sr (oD (mv rfl) rfl (oD (mv rfl) rfl (oD (stp_indexAddr Tryz.underlying43 ts148 (by decide) rfl rfl rfl (Rdb.ro hr0_0) e4) rfl (oD (fA 1 Tryz.underlying148 rfl ts3 rfl rfl rfl) rfl (oD (stp_load1 ts3 rfl (Cells.el (Rdb.ro hr0_0) (by decide) e4 1 1 rfl)) rfl ?_)))))))))))))
        refine oD (mv rfl) rfl (oD (stp_neq rfl rfl) rfl (nn (cw_cond rfl (fun h7 => ?_) (fun h7 => ?_))))
        · have H1 := cond_t H1 h7
          refine sr (oD (sg rfl) rfl (nn (cw_ret (kw_nx_ret (kw_bl_ret (kw_nx_ret (kw_lq_ret (kw_bl_ret (kw_join_ret (kw_nx_ret ?_))))))))))
          have q1 := Option.some.inj H1
          subst q1
          have q0 := Option.some.inj H0
          subst q0
          exact kw_ret Tryz.results161 (.cons (.tmp rfl) .nil) [] [] trivial (by decide) ⟨rfl, rfl⟩
        · have H1 := cond_f H1 h7
          obtain ⟨x8, e8, H1⟩ := bind_some H1
          obtain ⟨x9, e9, H1⟩ := bind_some H1
          refine cw_skip (kw_nx (cw_region (oD (mv rfl) rfl (oD (stp_add rfl rfl e8) rfl (oD (sg rfl) rfl (ow_nil (kw_bl_normal (kw_nx (cw_region (oD (mv rfl) rfl (oD (stp_add rfl rfl e9) rfl (oD (sg rfl) rfl (ow_nil ?_)))))))))))))
          exact kw_lqS (js := []) (fuel, x8, x9) H1 (Nat.lt_succ_self _) ⟨rfl, rfl, rfl, trivial⟩ trivial (by decide)
    · have H1 := cond_f H1 h3
      refine cw_exit (kw_nx_exit (kw_lq_exit (kw_bl ?_)))
      have q1 := Option.some.inj H1
      subst q1
      exact kw_joinS (js := []) (v1, v2) rfl ⟨rfl, rfl, rfl, trivial⟩ trivial (by decide)
  · rintro ⟨v1, v2⟩ rfl
    refine KW.sub (s' := [(0, .slice p0_0 ((a0).length) c0_0), (1, .int .i64 v1), (5, .int .i64 v2)]) (h' := []) ?_ ⟨rfl, rfl, rfl, trivial⟩ trivial
    refine kw_nx (sr (oD (mv rfl) rfl (oD (sg rfl) rfl (nn (cw_ret ?_)))))
    have q0 := Option.some.inj H0
    subst q0
    exact kw_ret Tryz.results161 (.cons (.tmp rfl) .nil) [] [] trivial (by decide) ⟨rfl, rfl⟩

set_option maxHeartbeats 4000000 in
set_option maxRecDepth 20000 in
theorem c_l_heldTags (fl : Nat) (w : World) (a0 : Tg) (p0_0 : Option Addr) (n0_0 c0_0 : Nat) (a1 : Int) (hn0_0 : n0_0 = (a0.o).length) (hr0_0 : RO w (hkeys []) (RdL p0_0 c0_0 a0.o)) (r : Int) (H0 : l_heldTags fl a0 a1 = some r) :
    Ct Tryz.prog 72 [.agg #[.int .i64 a0.c, .int .i64 a0.n, .int .i64 a0.r, .slice p0_0 n0_0 c0_0], .int .i64 a1] w [] (fun rv h' => rv = .int .i64 r ∧ h' = []) := by
  obtain rfl := hn0_0
  unfold l_heldTags at H0
  refine ct_of_cw Tryz.func72 rfl Tryz.ntmps72 rfl (Sat.refl _ _) ?_
  refine sr (oE (stpU_box 0 rfl rfl) rfl ?_)
  rintro _ _ ⟨b1, rfl, rfl⟩
  obtain ⟨x2, e2, H0⟩ := bind_some H0
  refine oD (sg rfl) rfl (nn (sr (oD (fA 3 Tryz.underlying45 rfl ts43 rfl rfl rfl) rfl (oD (lB 0 ts43 rfl rfl rfl) rfl (oD (mv rfl) rfl (oE (stpU_call (fun i => 1 + i) cf161 (fun w hw => c_l_heldOwnS fl w a0.o p0_0 ((a0.o).length) c0_0 a1 rfl (RO.pass hr0_0 hw) x2 e2) (sevs_cons rfl (sevs_cons rfl sevs_nil))) rfl ?_))))))
  rintro _ _ ⟨_, ⟨rfl, rfl⟩, rfl⟩
  refine oD (sg rfl) rfl (nn (cw_seq (sr (oD (mv rfl) rfl (oD (stp_lss rfl rfl) rfl (nn (cw_cond rfl (fun h3 => ?_) (fun h3 => ?_))))))))
  · have H0 := cond_t H0 h3
    refine sr (oD (sg rfl) rfl (nn (cw_ret (kw_nx_ret ?_))))
    have q0 := Option.some.inj H0
    subst q0
    exact kw_ret Tryz.results72 (.cons (.tmp rfl) .nil) [] [] trivial (by decide) ⟨rfl, rfl⟩
  · have H0 := cond_f H0 h3
    refine cw_skip (kw_nx (sr (oD (mv rfl) rfl (oD (sg rfl) rfl (nn (cw_ret ?_))))))
    have q0 := Option.some.inj H0
    subst q0
    exact kw_ret Tryz.results72 (.cons (.tmp rfl) .nil) [] [] trivial (by decide) ⟨rfl, rfl⟩

set_option maxHeartbeats 4000000 in
set_option maxRecDepth 20000 in
theorem c_l_heldMachine (fl : Nat) (w : World) (a0 : Mc) (p0_0 : Option Addr) (n0_0 c0_0 : Nat) (p0_1 : Option Addr) (n0_1 c0_1 : Nat) (p0_2 : Option Addr) (n0_2 c0_2 : Nat) (p0_3 : Option Addr) (n0_3 c0_3 : Nat) (a1 : Int) (hn0_0 : n0_0 = (a0.t.b).length) (hr0_0 : RO w (hkeys []) (RdL p0_0 c0_0 a0.t.b)) (hn0_1 : n0_1 = (a0.t.f).length) (hr0_1 : RO w (hkeys []) (RdL p0_1 c0_1 a0.t.f)) (hn0_2 : n0_2 = (a0.c.l).length) (hr0_2 : RO w (hkeys []) (RdL p0_2 c0_2 a0.c.l)) (hn0_3 : n0_3 = (a0.g.o).length) (hr0_3 : RO w (hkeys []) (RdL p0_3 c0_3 a0.g.o)) (r : Int) (H0 : l_heldMachine fl a0 a1 = some r) :
    Ct Tryz.prog 21 [.agg #[.slice p0_0 n0_0 c0_0, .slice p0_1 n0_1 c0_1, .slice p0_2 n0_2 c0_2, .int .i64 a0.c.h, .int .i64 a0.g.c, .int .i64 a0.g.n, .int .i64 a0.g.r, .slice p0_3 n0_3 c0_3, .int .i64 a0.s], .int .i64 a1] w [] (fun rv h' => rv = .int .i64 r ∧ h' = []) := by
  obtain rfl := hn0_0
  obtain rfl := hn0_1
  obtain rfl := hn0_2
  obtain rfl := hn0_3
  unfold l_heldMachine at H0
  refine ct_of_cw Tryz.func21 rfl Tryz.ntmps21 rfl (Sat.refl _ _) ?_
  refine sr (oE (stpU_box 0 rfl rfl) rfl ?_)
  rintro _ _ ⟨b1, rfl, rfl⟩
  obtain ⟨x2, e2, H0⟩ := bind_some H0
  refine oD (sg rfl) rfl (nn (sr (oD (fA 0 Tryz.underlying47 rfl ts39 rfl rfl rfl) rfl (oD (stp_loadN (us := [_, _]) ts39 rfl (Cells.box (id := 0) rfl 2 rfl)) rfl (oD (mv rfl) rfl (oE (stpU_call (fun i => 1 + i) cf70 (fun w hw => c_l_heldTable fl w a0.t p0_0 ((a0.t.b).length) c0_0 p0_1 ((a0.t.f).length) c0_1 a1 rfl (RO.pass hr0_0 hw) rfl (RO.pass hr0_1 hw) x2 e2) (sevs_cons rfl (sevs_cons rfl sevs_nil))) rfl ?_))))))
  rintro _ _ ⟨_, ⟨rfl, rfl⟩, rfl⟩
  refine oD (sg rfl) rfl (nn (cw_seq (sr (oD (mv rfl) rfl (oD (stp_lss rfl rfl) rfl (nn (cw_cond rfl (fun h3 => ?_) (fun h3 => ?_))))))))
  · have H0 := cond_t H0 h3
    refine sr (oD (sg rfl) rfl (nn (cw_ret (kw_nx_ret ?_))))
    have q0 := Option.some.inj H0
    subst q0
    exact kw_ret Tryz.results21 (.cons (.tmp rfl) .nil) [] [] trivial (by decide) ⟨rfl, rfl⟩
  · have H0 := cond_f H0 h3
    obtain ⟨x4, e4, H0⟩ := bind_some H0
    refine cw_skip (kw_nx (sr (oD (fA 2 Tryz.underlying47 rfl ts42 rfl rfl rfl) rfl (oD (stp_loadN (us := [_, _]) ts42 rfl (Cells.box (id := 0) rfl 2 rfl)) rfl (oD (mv rfl) rfl (oE (stpU_call (fun i => 1 + i) cf71 (fun w hw => c_l_heldCache fl w a0.c p0_2 ((a0.c.l).length) c0_2 x2 rfl (RO.pass hr0_2 hw) x4 e4) (sevs_cons rfl (sevs_cons rfl sevs_nil))) rfl ?_))))))
    rintro _ _ ⟨_, ⟨rfl, rfl⟩, rfl⟩
    refine oD (sg rfl) rfl (nn (cw_seq (sr (oD (mv rfl) rfl (oD (stp_lss rfl rfl) rfl (nn (cw_cond rfl (fun h5 => ?_) (fun h5 => ?_))))))))
    · have H0 := cond_t H0 h5
      refine sr (oD (sg rfl) rfl (nn (cw_ret (kw_nx_ret ?_))))
      have q0 := Option.some.inj H0
      subst q0
      exact kw_ret Tryz.results21 (.cons (.tmp rfl) .nil) [] [] trivial (by decide) ⟨rfl, rfl⟩
    · have H0 := cond_f H0 h5
      obtain ⟨x6, e6, H0⟩ := bind_some H0
      refine cw_skip (kw_nx (sr (oD (fA 4 Tryz.underlying47 rfl ts45 rfl rfl rfl) rfl (oD (stp_loadN (us := [_, _, _, _]) ts45 rfl (Cells.box (id := 0) rfl 4 rfl)) rfl (oD (mv rfl) rfl (oE (stpU_call (fun i => 1 + i) cf72 (fun w hw => c_l_heldTags fl w a0.g p0_3 ((a0.g.o).length) c0_3 x4 rfl (RO.pass hr0_3 hw) x6 e6) (sevs_cons rfl (sevs_cons rfl sevs_nil))) rfl ?_))))))
      rintro _ _ ⟨_, ⟨rfl, rfl⟩, rfl⟩
      refine oD (sg rfl) rfl (nn (cw_seq (sr (oD (mv rfl) rfl (oD (stp_lss rfl rfl) rfl (nn (cw_cond rfl (fun h7 => ?_) (fun h7 => ?_))))))))
      · have H0 := cond_t H0 h7
        refine sr (oD (sg rfl) rfl (nn (cw_ret (kw_nx_ret ?_))))
        have q0 := Option.some.inj H0
        subst q0
        exact kw_ret Tryz.results21 (.cons (.tmp rfl) .nil) [] [] trivial (by decide) ⟨rfl, rfl⟩
      · have H0 := cond_f H0 h7
        refine cw_skip (kw_nx (sr (oD (mv rfl) rfl (oD (sg rfl) rfl (nn (cw_ret ?_))))))
        have q0 := Option.some.inj H0
        subst q0
        exact kw_ret Tryz.results21 (.cons (.tmp rfl) .nil) [] [] trivial (by decide) ⟨rfl, rfl⟩
end Go.Proofs.YtbgodaeccgjdgaaGreatDoor
