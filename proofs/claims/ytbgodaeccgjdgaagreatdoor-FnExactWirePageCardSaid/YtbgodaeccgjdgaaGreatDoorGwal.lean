/- The walks: functions of the program return what their pure functions say. Printed by a program (gen.py). -/
import Derived.Test.YtbgodaeccgjdgaaGreatDoorGp
import Derived.Test.YtbgodaeccgjdgaaGreatDoorGt
import Derived.Test.YtbgodaeccgjdgaaGreatDoorMan
import Derived.Test.YtbgodaeccgjdgaaGreatDoorMap
import Derived.Test.YtbgodaeccgjdgaaGreatDoorGwaa
import Derived.Test.YtbgodaeccgjdgaaGreatDoorGwab
import Derived.Test.YtbgodaeccgjdgaaGreatDoorGwac
import Derived.Test.YtbgodaeccgjdgaaGreatDoorGwaj
import Derived.Test.YtbgodaeccgjdgaaGreatDoorGws
set_option linter.unusedSimpArgs false
set_option linter.unusedVariables false
set_option linter.unusedSectionVars false
namespace Go.Proofs.YtbgodaeccgjdgaaGreatDoor
open Go.RowKit
set_option maxHeartbeats 4000000 in
set_option maxRecDepth 20000 in
theorem c_s_Allows (fl : Nat) (w : World) (a0 : Int) (a1 : Int) (r : Bool) (H0 : s_Allows fl a0 a1 = some r) :
    Ct Tryz.prog 89 [.int .i64 a0, .int .i64 a1] w [] (fun rv h' => rv = .bool r ∧ h' = []) := by
  unfold s_Allows at H0
  refine ct_of_cw Tryz.func89 rfl Tryz.ntmps89 rfl (Sat.refl _ _) ?_
  obtain ⟨x1, e1, H0⟩ := bind_some H0
  refine sr (oD (sg rfl) rfl (nn (sr (oD (mv rfl) rfl (oE (stpU_call (fun i => 0 + i) cf83 (fun w hw => c_s_RightsValid fl w a0 x1 e1) (sevs_cons rfl sevs_nil)) rfl ?_)))))
  rintro _ _ ⟨_, ⟨rfl, rfl⟩, rfl⟩
  obtain ⟨y2, ey2, H0⟩ := bind_some H0
  refine oD (mv rfl) rfl (ow_cutY 3 10 y2 ?_ ?_)
  · rcases Bool.eq_false_or_eq_true x1 with hy2 | hy2
    · have ey2 := cond_t ey2 hy2
      obtain ⟨x3, e3, ey2⟩ := bind_some ey2
      refine oG rfl hy2 (mv rfl) rfl (ow_eff (.some rfl hy2) (stpU_call (fun i => 0 + i) cf83 (fun w hw => c_s_RightsValid fl w a1 x3 e3) (sevs_cons rfl sevs_nil)) rfl ?_)
      rintro _ _ ⟨_, ⟨rfl, rfl⟩, rfl⟩
      refine oD (stp_pick_t rfl hy2 rfl) rfl ?_
      obtain rfl := Option.some.inj ey2
      exact ow_nil (jy 3 0)
    · have ey2 := cond_f ey2 hy2
      refine oO rfl hy2 rfl (oO rfl hy2 rfl (oD (stp_pick_f rfl hy2 rfl) rfl ?_))
      obtain rfl := Option.some.inj ey2
      exact ow_nil (jy 3 0)
  · obtain ⟨y4, ey4, H0⟩ := bind_some H0
    refine oD (mv rfl) rfl (ow_cutY 6 17 y4 ?_ ?_)
    · rcases Bool.eq_false_or_eq_true y2 with hy4 | hy4
      · have ey4 := cond_t ey4 hy4
        refine oG rfl hy4 (mv rfl) rfl (oG rfl hy4 (mv rfl) rfl (oG rfl hy4 (stp_and rfl rfl) rfl (oG rfl hy4 (mv rfl) rfl (oG rfl hy4 (stp_eql rfl rfl) rfl (oD (stp_pick_t rfl hy4 rfl) rfl ?_)))))
        obtain rfl := Option.some.inj ey4
        exact ow_nil (jy 6 0)
      · have ey4 := cond_f ey4 hy4
        refine oO rfl hy4 rfl (oO rfl hy4 rfl (oO rfl hy4 rfl (oO rfl hy4 rfl (oO rfl hy4 rfl (oD (stp_pick_f rfl hy4 rfl) rfl ?_)))))
        obtain rfl := Option.some.inj ey4
        exact ow_nil (jy 6 0)
    · refine oD (sg rfl) rfl (nn (cw_ret ?_))
      have q0 := Option.some.inj H0
      subst q0
      exact kw_ret Tryz.results89 (.cons (.tmp rfl) .nil) [] [] trivial (by decide) ⟨rfl, rfl⟩

set_option maxHeartbeats 4000000 in
set_option maxRecDepth 20000 in
theorem c_s_l4Victim (fl : Nat) (w : World) (a0 : Ca) (p0_0 : Option Addr) (n0_0 c0_0 : Nat) (hn0_0 : n0_0 = (a0.l).length) (hr0_0 : RO w (hkeys []) (RdL p0_0 c0_0 a0.l)) (r : Int) (H0 : s_l4Victim fl a0 = some r) :
    Ct Tryz.prog 207 [.agg #[.slice p0_0 n0_0 c0_0, .int .i64 a0.h]] w [] (fun rv h' => rv = .int .i64 r ∧ h' = []) := by
  obtain rfl := hn0_0
  unfold s_l4Victim at H0
  refine ct_of_cw Tryz.func207 rfl Tryz.ntmps207 rfl (Sat.refl _ _) ?_
  refine sr (oE (stpU_box 0 rfl rfl) rfl ?_)
  rintro _ _ ⟨b1, rfl, rfl⟩
  obtain ⟨o0_0, eo0_0, H0⟩ := bind_some H0
  refine oD (sg rfl) rfl (nn (cw_seq (sr (oD (sg rfl) rfl (nn (cw_join (ι := Int) (fun | v2 => o0_0 = .out v2) (fun | v2 => [(1, .pointer (some ⟨b1, 0, none⟩)), (3, .int .i64 v2)]) (fun | v2 => [(0, [(b1, .cells #[.slice p0_0 ((a0.l).length) c0_0, .int .i64 a0.h] 42 (0, 0))])]) ?_ ?_))))))
  · refine cw_block (cw_loopS (ι := Nat × Int) (js := [0]) (fun x => x.1) (fun | (fuel, v2) => s_l4Victim_L0 fl a0 fuel v2 = some o0_0) (fun | (_, v2) => [(1, .pointer (some ⟨b1, 0, none⟩)), (3, .int .i64 v2)]) (fun | (_, v2) => [(0, [(b1, .cells #[.slice p0_0 ((a0.l).length) c0_0, .int .i64 a0.h] 42 (0, 0))])]) (fl, 0) eo0_0 ⟨rfl, rfl, trivial⟩ ⟨0, [], rfl, rfl, trivial⟩ (by decide) ?_)
    rintro ⟨fuel, v2⟩ H1
    have H1 : s_l4Victim_L0 fl a0 fuel v2 = some o0_0 := H1
    rcases fuel with _ | fuel
    · rw [s_l4Victim_L0.eq_1] at H1; cases H1
    rw [s_l4Victim_L0.eq_2] at H1
    refine CW.sub (s' := [(1, .pointer (some ⟨b1, 0, none⟩)), (3, .int .i64 v2)]) (h' := [(0, [(b1, .cells #[.slice p0_0 ((a0.l).length) c0_0, .int .i64 a0.h] 42 (0, 0))])]) ?_ ⟨rfl, rfl, trivial⟩ ⟨rfl, trivial⟩
    refine cw_seq (sr (oD (mv rfl) rfl (oD (fA 0 Tryz.underlying42 rfl ts40 rfl rfl rfl) rfl (oD (lB 0 ts40 rfl rfl rfl) rfl (oD (stp_len Tryz.underlying40 rfl) rfl (oD (stp_lss rfl rfl) rfl (nn (cw_cond rfl (fun h3 => ?_) (fun h3 => ?_)))))))))
    · have H1 := cond_t H1 h3
      obtain ⟨x4, e4, H1⟩ := bind_some H1
      refine cw_skip (kw_nx (cw_seq (cw_block (sr (oD (fA 0 Tryz.underlying42 rfl ts40 rfl rfl rfl) rfl (oD (lB 0 ts40 rfl rfl rfl) rfl (oD (mv rfl) rfl (oD (stp_indexAddr Tryz.underlying40 ts112 (by decide) rfl rfl rfl (Rdb.ro hr0_0) e4) rfl (oD (fA 0 Tryz.underlying112 rfl ts4 rfl rfl rfl) rfl (oD (stp_load1 ts4 rfl (Cells.el (Rdb.ro hr0_0) (by decide) e4 0 1 rfl)) rfl (oD (stp_not rfl) rfl (nn (cw_cond rfl (fun h5 => ?_) (fun h5 => ?_))))))))))))))
      · have H1 := cond_t H1 h5
        refine sr (oD (mv rfl) rfl (oD (sg rfl) rfl (nn (cw_ret (kw_bl_ret (kw_nx_ret (kw_lq_ret (kw_bl_ret (kw_join_ret (kw_nx_ret ?_))))))))))
        have q1 := Option.some.inj H1
        subst q1
        have q0 := Option.some.inj H0
        subst q0
        exact kw_ret Tryz.results207 (.cons (.tmp rfl) .nil) [] [] trivial (by decide) ⟨rfl, rfl⟩
      · have H1 := cond_f H1 h5
        obtain ⟨x6, e6, H1⟩ := bind_some H1
        exact cw_skip (kw_bl_normal (kw_nx (cw_region (oD (mv rfl) rfl (oD (stp_add rfl rfl e6) rfl (oD (sg rfl) rfl (ow_nil (kw_lqS (js := [0]) (fuel, x6) H1 (Nat.lt_succ_self _) ⟨rfl, rfl, trivial⟩ ⟨0, [], rfl, rfl, trivial⟩ (by decide)))))))))
    · have H1 := cond_f H1 h3
      refine cw_exit (kw_nx_exit (kw_lq_exit (kw_bl ?_)))
      have q1 := Option.some.inj H1
      subst q1
      exact kw_joinS (js := [0]) v2 rfl ⟨rfl, rfl, trivial⟩ ⟨0, [], rfl, rfl, trivial⟩ (by decide)
  · rintro v2 rfl
    refine KW.sub (s' := [(1, .pointer (some ⟨b1, 0, none⟩)), (3, .int .i64 v2)]) (h' := [(0, [(b1, .cells #[.slice p0_0 ((a0.l).length) c0_0, .int .i64 a0.h] 42 (0, 0))])]) ?_ ⟨rfl, rfl, trivial⟩ ⟨rfl, trivial⟩
    obtain ⟨o0_1, eo0_1, H0⟩ := bind_some H0
    refine kw_nx (sr (oD (fA 1 Tryz.underlying42 rfl ts3 rfl rfl rfl) rfl (oD (lB 0 ts3 rfl rfl rfl) rfl (oD (sg rfl) rfl (nn (cw_seq (cw_join (ι := Int) (fun | v7 => o0_1 = .out v7) (fun | v7 => [(1, .pointer (some ⟨b1, 0, none⟩)), (4, .int .i64 v7)]) (fun | v7 => [(0, [(b1, .cells #[.slice p0_0 ((a0.l).length) c0_0, .int .i64 a0.h] 42 (0, 0))])]) ?_ ?_)))))))
    · refine cw_block (cw_loopS (ι := Nat × Int) (js := [0]) (fun x => x.1) (fun | (fuel, v7) => s_l4Victim_L1 fl a0 fuel v7 = some o0_1) (fun | (_, v7) => [(1, .pointer (some ⟨b1, 0, none⟩)), (4, .int .i64 v7)]) (fun | (_, v7) => [(0, [(b1, .cells #[.slice p0_0 ((a0.l).length) c0_0, .int .i64 a0.h] 42 (0, 0))])]) (fl, a0.h) eo0_1 ⟨rfl, rfl, trivial⟩ ⟨0, [], rfl, rfl, trivial⟩ (by decide) ?_)
      rintro ⟨fuel, v7⟩ H1
      have H1 : s_l4Victim_L1 fl a0 fuel v7 = some o0_1 := H1
      rcases fuel with _ | fuel
      · rw [s_l4Victim_L1.eq_1] at H1; cases H1
      rw [s_l4Victim_L1.eq_2] at H1
      refine CW.sub (s' := [(1, .pointer (some ⟨b1, 0, none⟩)), (4, .int .i64 v7)]) (h' := [(0, [(b1, .cells #[.slice p0_0 ((a0.l).length) c0_0, .int .i64 a0.h] 42 (0, 0))])]) ?_ ⟨rfl, rfl, trivial⟩ ⟨rfl, trivial⟩
      obtain ⟨x8, e8, H1⟩ := bind_some H1
      refine cw_seq (sr (oD (fA 0 Tryz.underlying42 rfl ts40 rfl rfl rfl) rfl (oD (lB 0 ts40 rfl rfl rfl) rfl (oD (mv rfl) rfl (oD (stp_indexAddr Tryz.underlying40 ts112 (by decide) rfl rfl rfl (Rdb.ro hr0_0) e8) rfl (oD (fA 5 Tryz.underlying112 rfl ts4 rfl rfl rfl) rfl (oD (stp_load1 ts4 rfl (Cells.el (Rdb.ro hr0_0) (by decide) e8 5 1 rfl)) rfl (nn (cw_cond rfl (fun h9 => ?_) (fun h9 => ?_))))))))))
      · have H1 := cond_t H1 h9
        obtain ⟨x10, e10, H1⟩ := bind_some H1
        obtain ⟨x11, e11, H1⟩ := bind_some H1
        exact cw_skip (kw_nx (cw_block (cw_region (oD (mv rfl) rfl (oD (stp_add rfl rfl e10) rfl (oD (fA 0 Tryz.underlying42 rfl ts40 rfl rfl rfl) rfl (oD (lB 0 ts40 rfl rfl rfl) rfl (oD (stp_len Tryz.underlying40 rfl) rfl (oD (stp_rem rfl rfl e11) rfl (oD (sg rfl) rfl (ow_nil (kw_bl_normal (kw_lqS (js := [0]) (fuel, x11) H1 (Nat.lt_succ_self _) ⟨rfl, rfl, trivial⟩ ⟨0, [], rfl, rfl, trivial⟩ (by decide))))))))))))))
      · have H1 := cond_f H1 h9
        refine cw_exit (kw_nx_exit (kw_lq_exit (kw_bl ?_)))
        have q1 := Option.some.inj H1
        subst q1
        exact kw_joinS (js := [0]) v7 rfl ⟨rfl, rfl, trivial⟩ ⟨0, [], rfl, rfl, trivial⟩ (by decide)
    · rintro v7 rfl
      refine KW.sub (s' := [(1, .pointer (some ⟨b1, 0, none⟩)), (4, .int .i64 v7)]) (h' := [(0, [(b1, .cells #[.slice p0_0 ((a0.l).length) c0_0, .int .i64 a0.h] 42 (0, 0))])]) ?_ ⟨rfl, rfl, trivial⟩ ⟨rfl, trivial⟩
      refine kw_nx (sr (oD (mv rfl) rfl (oD (sg rfl) rfl (nn (cw_ret ?_)))))
      have q0 := Option.some.inj H0
      subst q0
      exact kw_ret Tryz.results207 (.cons (.tmp rfl) .nil) [] [] trivial (by decide) ⟨rfl, rfl⟩

set_option maxHeartbeats 4000000 in
set_option maxRecDepth 20000 in
theorem c_s_FillLine (fl : Nat) (w : World) (a0 : Ca) (p0_0 : Option Addr) (n0_0 c0_0 : Nat) (a1 : Ln) (hn0_0 : n0_0 = (a0.l).length) (hr0_0 : RO w (hkeys []) (RdL p0_0 c0_0 a0.l)) (r : Ca × Int × Bool) (H0 : s_FillLine fl a0 a1 = some r) :
    Ct Tryz.prog 170 [.agg #[.slice p0_0 n0_0 c0_0, .int .i64 a0.h], .agg #[.bool a1.va, .int .i64 a1.tg, .int .i64 a1.pg, .int .i64 a1.fr, .int .i64 a1.ri, .bool a1.wi]] w [] (fun rv h' => ∃ (x0 : Option Addr) (y0 z0 : Nat) (C0 : Res), rv = .tuple #[.agg #[.slice x0 y0 z0, .int .i64 r.1.h], .int .i64 r.2.1, .bool r.2.2] ∧ h' = [(0, C0)] ∧ y0 = (r.1.l).length ∧ OwnC 112 x0 z0 r.1.l C0) := by
  obtain rfl := hn0_0
  unfold s_FillLine at H0
  refine ct_of_cw Tryz.func170 rfl Tryz.ntmps170 rfl (Sat.refl _ _) ?_
  refine sr (oE (stpU_box 0 rfl rfl) rfl ?_)
  rintro _ _ ⟨b1, rfl, rfl⟩
  refine oE (stpU_box 1 rfl rfl) rfl ?_
  rintro _ _ ⟨b2, rfl, rfl⟩
  refine oE (stpU_alloc 2 tz42 rfl) rfl ?_
  rintro _ _ ⟨b3, rfl, rfl⟩
  obtain ⟨x4, e4, H0⟩ := bind_some H0
  refine oD (sg rfl) rfl (oD (sg rfl) rfl (nn (cw_seq (sr (oD (stp_loadN (us := [_, _]) ts42 rfl (Cells.box (id := 0) rfl 2 rfl)) rfl (oE (stpU_call (fun i => 3 + i) cf125 (fun w hw => c_s_CacheValid fl w a0 p0_0 ((a0.l).length) c0_0 rfl (RO.pass hr0_0 hw) x4 e4) (sevs_cons rfl sevs_nil)) rfl ?_))))))
  rintro _ _ ⟨_, ⟨rfl, rfl⟩, rfl⟩
  obtain ⟨y5, ey5, H0⟩ := bind_some H0
  refine oD (stp_not rfl) rfl (oD (mv rfl) rfl (ow_cutY 4 16 y5 ?_ ?_))
  · rcases Bool.eq_false_or_eq_true (!x4) with hy5 | hy5
    · have ey5 := cond_t ey5 hy5
      refine oO rfl hy5 rfl (oO rfl hy5 rfl (oO rfl hy5 rfl (oD (stp_pick_t rfl hy5 rfl) rfl ?_)))
      obtain rfl := Option.some.inj ey5
      exact ow_nil (jy 4 0)
    · have ey5 := cond_f ey5 hy5
      refine oG rfl hy5 (fA 0 Tryz.underlying112 rfl ts4 rfl rfl rfl) rfl (oG rfl hy5 (lB 1 ts4 rfl rfl rfl) rfl (oG rfl hy5 (stp_not rfl) rfl (oD (stp_pick_f rfl hy5 rfl) rfl ?_)))
      obtain rfl := Option.some.inj ey5
      exact ow_nil (jy 4 0)
  · obtain ⟨y6, ey6, H0⟩ := bind_some H0
    refine oD (mv rfl) rfl (ow_cutY 4 21 y6 ?_ ?_)
    · rcases Bool.eq_false_or_eq_true y5 with hy6 | hy6
      · have ey6 := cond_t ey6 hy6
        refine oO rfl hy6 rfl (oO rfl hy6 rfl (oO rfl hy6 rfl (oD (stp_pick_t rfl hy6 rfl) rfl ?_)))
        obtain rfl := Option.some.inj ey6
        exact ow_nil (jy 4 0)
      · have ey6 := cond_f ey6 hy6
        obtain ⟨x7, e7, ey6⟩ := bind_some ey6
        refine oG rfl hy6 (stp_loadN (us := [_, _, _, _, _, _]) ts112 rfl (Cells.box (id := 1) rfl 6 rfl)) rfl (ow_eff (.some rfl hy6) (stpU_call (fun i => 3 + i) cf190 (fun w hw => c_s_l4Line fl w a1 x7 e7) (sevs_cons rfl sevs_nil)) rfl ?_)
        rintro _ _ ⟨_, ⟨rfl, rfl⟩, rfl⟩
        refine oG rfl hy6 (stp_not rfl) rfl (oD (stp_pick_f rfl hy6 rfl) rfl ?_)
        obtain rfl := Option.some.inj ey6
        exact ow_nil (jy 4 0)
    · refine ow_nil (kw_nx (cw_cond rfl (fun h8 => ?_) (fun h8 => ?_)))
      · have H0 := cond_t H0 h8
        refine sr (oD (stp_build (cs := #[.slice none 0 0, .int .i64 0]) sevp_nil bt42_14) rfl (oF (stpU_store (id := 2) (cs' := [.slice none 0 0, .int .i64 0]) ts42 rfl rfl rfl rfl rfl rfl rfl) ?_))
        rintro _ _ rfl
        refine oD (sg rfl) rfl (oD (sg rfl) rfl (nn (cw_ret (kw_nx_ret (kw_addNil 3 ?_)))))
        have q0 := Option.some.inj H0
        subst q0
        exact kw_ret Tryz.results170 (.cons (.cellN (us := [_, _]) ts42 rfl (Cells.box (id := 2) rfl 2 rfl)) (.cons (.tmp rfl) (.cons (.tmp rfl) .nil))) [(0, [])] [3] ⟨3, [], rfl, rfl, trivial⟩ (by decide) ⟨none, 0, 0, [], rfl, rfl, rfl, (OwnC.nil _ _)⟩
      · have H0 := cond_f H0 h8
        obtain ⟨x9, e9, H0⟩ := bind_some H0
        refine cw_skip (kw_nx (sr (oD (stp_loadN (us := [_, _]) ts42 rfl (Cells.box (id := 0) rfl 2 rfl)) rfl (oE (stpU_call (fun i => 4 + i) cf207 (fun w hw => c_s_l4Victim fl w a0 p0_0 ((a0.l).length) c0_0 rfl (RO.pass hr0_0 hw) x9 e9) (sevs_cons rfl sevs_nil)) rfl ?_))))
        rintro _ _ ⟨_, ⟨rfl, rfl⟩, rfl⟩
        obtain ⟨x10, e10, H0⟩ := bind_some H0
        refine oD (sg rfl) rfl (nn (sr (oD (stp_loadN (us := [_, _]) ts42 rfl (Cells.box (id := 0) rfl 2 rfl)) rfl (oE (stpU_call (fun i => 4 + i) cf132 (fun w hw => c_s_l4Copy fl w a0 p0_0 ((a0.l).length) c0_0 rfl (RO.pass hr0_0 hw) x10 e10) (sevs_cons rfl sevs_nil)) rfl ?_))))
        rintro _ _ ⟨_, ⟨p11, n12, c13, C14, rfl, rfl, hnn12, o14⟩, rfl⟩
        obtain rfl := hnn12
        refine oE (stpU_alloc 5 tz42 rfl) rfl ?_
        rintro _ _ ⟨b15, rfl, rfl⟩
        refine oF (stpU_store (id := 5) (cs' := [.slice p11 ((x10.l).length) c13, .int .i64 x10.h]) ts42 rfl rfl rfl rfl rfl rfl rfl) ?_
        rintro _ _ rfl
        obtain ⟨x16, e16, H0⟩ := bind_some H0
        refine nn (cw_seq (sr (oD (fA 0 Tryz.underlying42 rfl ts40 rfl rfl rfl) rfl (oD (lB 0 ts40 rfl rfl rfl) rfl (oD (mv rfl) rfl (oD (stp_indexAddr Tryz.underlying40 ts112 (by decide) rfl rfl rfl (Rdb.ro hr0_0) e16) rfl (oD (fA 0 Tryz.underlying112 rfl ts4 rfl rfl rfl) rfl (oD (stp_load1 ts4 rfl (Cells.el (Rdb.ro hr0_0) (by decide) e16 0 1 rfl)) rfl (nn (cw_cond rfl (fun h17 => ?_) (fun h17 => ?_)))))))))))
        · have H0 := cond_t H0 h17
          obtain ⟨x18, e18, H0⟩ := bind_some H0
          obtain ⟨x19, e19, H0⟩ := bind_some H0
          refine cw_region (oD (mv rfl) rfl (oD (stp_add rfl rfl e18) rfl (oD (fA 0 Tryz.underlying42 rfl ts40 rfl rfl rfl) rfl (oD (lB 0 ts40 rfl rfl rfl) rfl (oD (stp_len Tryz.underlying40 rfl) rfl (oD (stp_rem rfl rfl e19) rfl (oD (fA 1 Tryz.underlying42 rfl ts3 rfl rfl rfl) rfl (oF (stpU_store (id := 5) (cs' := [.slice p11 ((x10.l).length) c13, .int .i64 x19]) ts3 rfl rfl rfl rfl rfl rfl rfl) ?_))))))))
          rintro _ _ rfl
          obtain ⟨x20, e20, H0⟩ := bind_some H0
          refine nn (sr (oD (fA 0 Tryz.underlying42 rfl ts40 rfl rfl rfl) rfl (oD (lB 5 ts40 rfl rfl rfl) rfl (oD (mv rfl) rfl (oD (stp_loadN (us := [_, _, _, _, _, _]) ts112 rfl (Cells.box (id := 1) rfl 6 rfl)) rfl (oD (stp_indexAddr Tryz.underlying40 ts112 (by decide) rfl rfl rfl (Rdb.own (id := 4) rfl o14) e20) rfl (oF (stpU_storeEl (id := 4) (i := 0) a1 (by decide) ts112 rfl rfl rfl o14 e20 rfl rfl rfl rfl) ?_)))))))
          rintro _ _ ⟨C21, rfl, o21⟩
          obtain ⟨x22, e22, H0⟩ := bind_some H0
          refine nn (cw_seq (sr (oD (stp_loadN (us := [_, _]) ts42 rfl (Cells.box (id := 5) rfl 2 rfl)) rfl (oE (stpU_call (fun i => 6 + i) cf125 (fun w hw => c_s_CacheValid fl w (⟨(x10.l.set (Int.toNat x9) a1), x19⟩ : Ca) p11 ((x10.l).length) c13 (by simp) (OwnC.pass (id := 4) rfl o21 hw) x22 e22) (sevs_cons rfl sevs_nil)) rfl ?_))))
          rintro _ _ ⟨_, ⟨rfl, rfl⟩, rfl⟩
          obtain ⟨y23, ey23, H0⟩ := bind_some H0
          refine oD (stp_not rfl) rfl (oD (mv rfl) rfl (ow_cutY 8 56 y23 ?_ ?_))
          · rcases Bool.eq_false_or_eq_true (!x22) with hy23 | hy23
            · have ey23 := cond_t ey23 hy23
              refine oO rfl hy23 rfl (oO rfl hy23 rfl (oO rfl hy23 rfl (oO rfl hy23 rfl (oO rfl hy23 rfl (oO rfl hy23 rfl (oO rfl hy23 rfl (oD (stp_pick_t rfl hy23 rfl) rfl ?_)))))))
              obtain rfl := Option.some.inj ey23
              exact ow_nil (jy 8 0)
            · have ey23 := cond_f ey23 hy23
              obtain ⟨x24, e24, ey23⟩ := bind_some ey23
              refine oG rfl hy23 (stp_loadN (us := [_, _]) ts42 rfl (Cells.box (id := 0) rfl 2 rfl)) rfl (oG rfl hy23 (fA 1 Tryz.underlying112 rfl ts3 rfl rfl rfl) rfl (oG rfl hy23 (lB 1 ts3 rfl rfl rfl) rfl (oG rfl hy23 (fA 2 Tryz.underlying112 rfl ts3 rfl rfl rfl) rfl (oG rfl hy23 (lB 1 ts3 rfl rfl rfl) rfl (ow_eff (.some rfl hy23) (stpU_call (fun i => 6 + i) cf85 (fun w hw => c_s_l4Find fl w a0 p0_0 ((a0.l).length) c0_0 a1.tg a1.pg rfl (RO.pass hr0_0 hw) x24 e24) (sevs_cons rfl (sevs_cons rfl (sevs_cons rfl sevs_nil)))) rfl ?_)))))
              rintro _ _ ⟨_, ⟨rfl, rfl⟩, rfl⟩
              refine oG rfl hy23 (stp_geq rfl rfl) rfl (oD (stp_pick_f rfl hy23 rfl) rfl ?_)
              obtain rfl := Option.some.inj ey23
              exact ow_nil (jy 8 0)
          · refine ow_nil (kw_nx (cw_cond rfl (fun h25 => ?_) (fun h25 => ?_)))
            · have H0 := cond_t H0 h25
              refine sr (oD (stp_build (cs := #[.slice none 0 0, .int .i64 0]) sevp_nil bt42_14) rfl (oF (stpU_store (id := 2) (cs' := [.slice none 0 0, .int .i64 0]) ts42 rfl rfl rfl rfl rfl rfl rfl) ?_))
              rintro _ _ rfl
              refine oD (sg rfl) rfl (oD (sg rfl) rfl (nn (cw_ret (kw_nx_ret (kw_addNil 6 ?_)))))
              have q0 := Option.some.inj H0
              subst q0
              exact kw_ret Tryz.results170 (.cons (.cellN (us := [_, _]) ts42 rfl (Cells.box (id := 2) rfl 2 rfl)) (.cons (.tmp rfl) (.cons (.tmp rfl) .nil))) [(0, [])] [6] ⟨6, [], rfl, rfl, trivial⟩ (by decide) ⟨none, 0, 0, [], rfl, rfl, rfl, (OwnC.nil _ _)⟩
            · have H0 := cond_f H0 h25
              refine cw_skip (kw_nx (sr (oD (stp_loadN (us := [_, _]) ts42 rfl (Cells.box (id := 5) rfl 2 rfl)) rfl (oD (mv rfl) rfl (oF (stpU_store (id := 2) (cs' := [.slice p11 ((x10.l).length) c13, .int .i64 x19]) ts42 rfl rfl rfl rfl rfl rfl rfl) ?_)))))
              rintro _ _ rfl
              refine oD (sg rfl) rfl (oD (sg rfl) rfl (nn (cw_ret ?_)))
              have q0 := Option.some.inj H0
              subst q0
              exact kw_ret Tryz.results170 (.cons (.cellN (us := [_, _]) ts42 rfl (Cells.box (id := 2) rfl 2 rfl)) (.cons (.tmp rfl) (.cons (.tmp rfl) .nil))) [(0, C21)] [4] ⟨4, [], rfl, rfl, trivial⟩ (by decide) ⟨p11, ((x10.l).length), c13, C21, rfl, rfl, (by simp), o21⟩
        · have H0 := cond_f H0 h17
          obtain ⟨x26, e26, H0⟩ := bind_some H0
          refine cw_skip (kw_nx (sr (oD (fA 0 Tryz.underlying42 rfl ts40 rfl rfl rfl) rfl (oD (lB 5 ts40 rfl rfl rfl) rfl (oD (mv rfl) rfl (oD (stp_loadN (us := [_, _, _, _, _, _]) ts112 rfl (Cells.box (id := 1) rfl 6 rfl)) rfl (oD (stp_indexAddr Tryz.underlying40 ts112 (by decide) rfl rfl rfl (Rdb.own (id := 4) rfl o14) e26) rfl (oF (stpU_storeEl (id := 4) (i := 0) a1 (by decide) ts112 rfl rfl rfl o14 e26 rfl rfl rfl rfl) ?_))))))))
          rintro _ _ ⟨C27, rfl, o27⟩
          obtain ⟨x28, e28, H0⟩ := bind_some H0
          refine nn (cw_seq (sr (oD (stp_loadN (us := [_, _]) ts42 rfl (Cells.box (id := 5) rfl 2 rfl)) rfl (oE (stpU_call (fun i => 7 + i) cf125 (fun w hw => c_s_CacheValid fl w (⟨(x10.l.set (Int.toNat x9) a1), x10.h⟩ : Ca) p11 ((x10.l).length) c13 (by simp) (OwnC.pass (id := 4) rfl o27 hw) x28 e28) (sevs_cons rfl sevs_nil)) rfl ?_))))
          rintro _ _ ⟨_, ⟨rfl, rfl⟩, rfl⟩
          obtain ⟨y29, ey29, H0⟩ := bind_some H0
          refine oD (stp_not rfl) rfl (oD (mv rfl) rfl (ow_cutY 8 56 y29 ?_ ?_))
          · rcases Bool.eq_false_or_eq_true (!x28) with hy29 | hy29
            · have ey29 := cond_t ey29 hy29
              refine oO rfl hy29 rfl (oO rfl hy29 rfl (oO rfl hy29 rfl (oO rfl hy29 rfl (oO rfl hy29 rfl (oO rfl hy29 rfl (oO rfl hy29 rfl (oD (stp_pick_t rfl hy29 rfl) rfl ?_)))))))
              obtain rfl := Option.some.inj ey29
              exact ow_nil (jy 8 0)
            · have ey29 := cond_f ey29 hy29
              obtain ⟨x30, e30, ey29⟩ := bind_some ey29
              refine oG rfl hy29 (stp_loadN (us := [_, _]) ts42 rfl (Cells.box (id := 0) rfl 2 rfl)) rfl (oG rfl hy29 (fA 1 Tryz.underlying112 rfl ts3 rfl rfl rfl) rfl (oG rfl hy29 (lB 1 ts3 rfl rfl rfl) rfl (oG rfl hy29 (fA 2 Tryz.underlying112 rfl ts3 rfl rfl rfl) rfl (oG rfl hy29 (lB 1 ts3 rfl rfl rfl) rfl (ow_eff (.some rfl hy29) (stpU_call (fun i => 7 + i) cf85 (fun w hw => c_s_l4Find fl w a0 p0_0 ((a0.l).length) c0_0 a1.tg a1.pg rfl (RO.pass hr0_0 hw) x30 e30) (sevs_cons rfl (sevs_cons rfl (sevs_cons rfl sevs_nil)))) rfl ?_)))))
              rintro _ _ ⟨_, ⟨rfl, rfl⟩, rfl⟩
              refine oG rfl hy29 (stp_geq rfl rfl) rfl (oD (stp_pick_f rfl hy29 rfl) rfl ?_)
              obtain rfl := Option.some.inj ey29
              exact ow_nil (jy 8 0)
          · refine ow_nil (kw_nx (cw_cond rfl (fun h31 => ?_) (fun h31 => ?_)))
            · have H0 := cond_t H0 h31
              refine sr (oD (stp_build (cs := #[.slice none 0 0, .int .i64 0]) sevp_nil bt42_14) rfl (oF (stpU_store (id := 2) (cs' := [.slice none 0 0, .int .i64 0]) ts42 rfl rfl rfl rfl rfl rfl rfl) ?_))
              rintro _ _ rfl
              refine oD (sg rfl) rfl (oD (sg rfl) rfl (nn (cw_ret (kw_nx_ret (kw_addNil 7 ?_)))))
              have q0 := Option.some.inj H0
              subst q0
              exact kw_ret Tryz.results170 (.cons (.cellN (us := [_, _]) ts42 rfl (Cells.box (id := 2) rfl 2 rfl)) (.cons (.tmp rfl) (.cons (.tmp rfl) .nil))) [(0, [])] [7] ⟨7, [], rfl, rfl, trivial⟩ (by decide) ⟨none, 0, 0, [], rfl, rfl, rfl, (OwnC.nil _ _)⟩
            · have H0 := cond_f H0 h31
              refine cw_skip (kw_nx (sr (oD (stp_loadN (us := [_, _]) ts42 rfl (Cells.box (id := 5) rfl 2 rfl)) rfl (oD (mv rfl) rfl (oF (stpU_store (id := 2) (cs' := [.slice p11 ((x10.l).length) c13, .int .i64 x10.h]) ts42 rfl rfl rfl rfl rfl rfl rfl) ?_)))))
              rintro _ _ rfl
              refine oD (sg rfl) rfl (oD (sg rfl) rfl (nn (cw_ret ?_)))
              have q0 := Option.some.inj H0
              subst q0
              exact kw_ret Tryz.results170 (.cons (.cellN (us := [_, _]) ts42 rfl (Cells.box (id := 2) rfl 2 rfl)) (.cons (.tmp rfl) (.cons (.tmp rfl) .nil))) [(0, C27)] [4] ⟨4, [], rfl, rfl, trivial⟩ (by decide) ⟨p11, ((x10.l).length), c13, C27, rfl, rfl, (by simp), o27⟩

set_option maxHeartbeats 4000000 in
set_option maxRecDepth 20000 in
theorem c_s_l6Fill (fl : Nat) (w : World) (a0 : Mc) (p0_0 : Option Addr) (n0_0 c0_0 : Nat) (p0_1 : Option Addr) (n0_1 c0_1 : Nat) (p0_2 : Option Addr) (n0_2 c0_2 : Nat) (p0_3 : Option Addr) (n0_3 c0_3 : Nat) (a1 : Int) (a2 : Int) (a3 : Int) (hn0_0 : n0_0 = (a0.t.b).length) (hr0_0 : RO w (hkeys []) (RdL p0_0 c0_0 a0.t.b)) (hn0_1 : n0_1 = (a0.t.f).length) (hr0_1 : RO w (hkeys []) (RdL p0_1 c0_1 a0.t.f)) (hn0_2 : n0_2 = (a0.c.l).length) (hr0_2 : RO w (hkeys []) (RdL p0_2 c0_2 a0.c.l)) (hn0_3 : n0_3 = (a0.g.o).length) (hr0_3 : RO w (hkeys []) (RdL p0_3 c0_3 a0.g.o)) (r : Mc × Int) (H0 : s_l6Fill fl a0 a1 a2 a3 = some r) :
    Ct Tryz.prog 88 [.agg #[.slice p0_0 n0_0 c0_0, .slice p0_1 n0_1 c0_1, .slice p0_2 n0_2 c0_2, .int .i64 a0.c.h, .int .i64 a0.g.c, .int .i64 a0.g.n, .int .i64 a0.g.r, .slice p0_3 n0_3 c0_3, .int .i64 a0.s], .int .i64 a1, .int .i64 a2, .int .i64 a3] w [] (fun rv h' => ∃ (x0 : Option Addr) (y0 z0 : Nat) (C0 : Res) (x1 : Option Addr) (y1 z1 : Nat) (C1 : Res) (x2 : Option Addr) (y2 z2 : Nat) (C2 : Res) (x3 : Option Addr) (y3 z3 : Nat) (C3 : Res), rv = .tuple #[.agg #[.slice x0 y0 z0, .slice x1 y1 z1, .slice x2 y2 z2, .int .i64 r.1.c.h, .int .i64 r.1.g.c, .int .i64 r.1.g.n, .int .i64 r.1.g.r, .slice x3 y3 z3, .int .i64 r.1.s], .int .i64 r.2] ∧ h' = [(0, C0), (1, C1), (2, C2), (3, C3)] ∧ y0 = (r.1.t.b).length ∧ OwnC 3 x0 z0 r.1.t.b C0 ∧ y1 = (r.1.t.f).length ∧ OwnC 127 x1 z1 r.1.t.f C1 ∧ y2 = (r.1.c.l).length ∧ OwnC 112 x2 z2 r.1.c.l C2 ∧ y3 = (r.1.g.o).length ∧ OwnC 148 x3 z3 r.1.g.o C3) := by
  obtain rfl := hn0_0
  obtain rfl := hn0_1
  obtain rfl := hn0_2
  obtain rfl := hn0_3
  unfold s_l6Fill at H0
  refine ct_of_cw Tryz.func88 rfl Tryz.ntmps88 rfl (Sat.refl _ _) ?_
  refine sr (oE (stpU_box 0 rfl rfl) rfl ?_)
  rintro _ _ ⟨b1, rfl, rfl⟩
  refine oE (stpU_alloc 1 tz47 rfl) rfl ?_
  rintro _ _ ⟨b2, rfl, rfl⟩
  obtain ⟨x3, e3, H0⟩ := bind_some H0
  refine oD (sg rfl) rfl (nn (sr (oD (stp_loadN (us := [_, _, _, _, _, _, _, _, _]) ts47 rfl (Cells.box (id := 0) rfl 9 rfl)) rfl (oE (stpU_call (fun i => 2 + i) cf56 (fun w hw => c_s_l6Copy fl w a0 p0_0 ((a0.t.b).length) c0_0 p0_1 ((a0.t.f).length) c0_1 p0_2 ((a0.c.l).length) c0_2 p0_3 ((a0.g.o).length) c0_3 rfl (RO.pass hr0_0 hw) rfl (RO.pass hr0_1 hw) rfl (RO.pass hr0_2 hw) rfl (RO.pass hr0_3 hw) x3 e3) (sevs_cons rfl sevs_nil)) rfl ?_))))
  rintro _ _ ⟨_, ⟨p4, n5, c6, C7, p8, n9, c10, C11, p12, n13, c14, C15, p16, n17, c18, C19, rfl, rfl, hnn5, o7, hnn9, o11, hnn13, o15, hnn17, o19⟩, rfl⟩
  obtain rfl := hnn5
  obtain rfl := hnn9
  obtain rfl := hnn13
  obtain rfl := hnn17
  refine oE (stpU_alloc 6 tz47 rfl) rfl ?_
  rintro _ _ ⟨b20, rfl, rfl⟩
  refine oF (stpU_store (id := 6) (cs' := [.slice p4 ((x3.t.b).length) c6, .slice p8 ((x3.t.f).length) c10, .slice p12 ((x3.c.l).length) c14, .int .i64 x3.c.h, .int .i64 x3.g.c, .int .i64 x3.g.n, .int .i64 x3.g.r, .slice p16 ((x3.g.o).length) c18, .int .i64 x3.s]) ts47 rfl rfl rfl rfl rfl rfl rfl) ?_
  rintro _ _ rfl
  obtain ⟨x21, e21, H0⟩ := bind_some H0
  refine nn (sr (oD (mv rfl) rfl (oD (mv rfl) rfl (oD (mv rfl) rfl (oD (fA 0 Tryz.underlying47 rfl ts39 rfl rfl rfl) rfl (oD (fA 1 Tryz.underlying39 rfl ts37 rfl rfl rfl) rfl (oD (lB 0 ts37 rfl rfl rfl) rfl (oD (mv rfl) rfl (oD (stp_indexAddr Tryz.underlying37 ts127 (by decide) rfl rfl rfl (Rdb.ro hr0_1) e21) rfl (oD (fA 3 Tryz.underlying127 rfl ts3 rfl rfl rfl) rfl (oD (stp_load1 ts3 rfl (Cells.el (Rdb.ro hr0_1) (by decide) e21 3 1 rfl)) rfl (oD (stp_build (cs := #[.bool true, .int .i64 a3, .int .i64 a1, .int .i64 a2, .int .i64 x21.r, .bool false]) (sevp_cons rfl (sevp_cons rfl (sevp_cons rfl (sevp_cons rfl (sevp_cons rfl sevp_nil))))) bt112_16) rfl (oE (stpU_alloc 7 tz112 rfl) rfl ?_)))))))))))))
  rintro _ _ ⟨b22, rfl, rfl⟩
  refine oF (stpU_store (id := 7) (cs' := [.bool true, .int .i64 a3, .int .i64 a1, .int .i64 a2, .int .i64 x21.r, .bool false]) ts112 rfl rfl rfl rfl rfl rfl rfl) ?_
  rintro _ _ rfl
  obtain ⟨x23, e23, H0⟩ := bind_some H0
  refine nn (sr (oD (fA 2 Tryz.underlying47 rfl ts42 rfl rfl rfl) rfl (oD (stp_loadN (us := [_, _]) ts42 rfl (Cells.box (id := 0) rfl 2 rfl)) rfl (oD (stp_loadN (us := [_, _, _, _, _, _]) ts112 rfl (Cells.box (id := 7) rfl 6 rfl)) rfl (oE (stpU_call (fun i => 8 + i) cf170 (fun w hw => c_s_FillLine fl w a0.c p0_2 ((a0.c.l).length) c0_2 (⟨true, a3, a1, a2, x21.r, false⟩ : Ln) rfl (RO.pass hr0_2 hw) x23 e23) (sevs_cons rfl (sevs_cons rfl sevs_nil))) rfl ?_)))))
  rintro _ _ ⟨_, ⟨p24, n25, c26, C27, rfl, rfl, hnn25, o27⟩, rfl⟩
  obtain rfl := hnn25
  refine oD (mv rfl) rfl (oD (stp_extract rfl rfl) rfl (oD (stp_extract rfl rfl) rfl (oD (stp_extract rfl rfl) rfl (oE (stpU_alloc 9 tz42 rfl) rfl ?_))))
  rintro _ _ ⟨b28, rfl, rfl⟩
  refine oF (stpU_store (id := 9) (cs' := [.slice p24 ((x23.1.l).length) c26, .int .i64 x23.1.h]) ts42 rfl rfl rfl rfl rfl rfl rfl) ?_
  rintro _ _ rfl
  refine oD (sg rfl) rfl (oD (sg rfl) rfl (nn (sr (oD (stp_loadN (us := [_, _]) ts42 rfl (Cells.box (id := 9) rfl 2 rfl)) rfl (oD (fA 2 Tryz.underlying47 rfl ts42 rfl rfl rfl) rfl (oF (stpU_store (id := 6) (cs' := [.slice p4 ((x3.t.b).length) c6, .slice p8 ((x3.t.f).length) c10, .slice p24 ((x23.1.l).length) c26, .int .i64 x23.1.h, .int .i64 x3.g.c, .int .i64 x3.g.n, .int .i64 x3.g.r, .slice p16 ((x3.g.o).length) c18, .int .i64 x3.s]) ts42 rfl rfl rfl rfl rfl rfl rfl) ?_))))))
  rintro _ _ rfl
  refine nn (sr (oD (stp_loadN (us := [_, _, _, _, _, _, _, _, _]) ts47 rfl (Cells.box (id := 6) rfl 9 rfl)) rfl (oD (mv rfl) rfl (oF (stpU_store (id := 1) (cs' := [.slice p4 ((x3.t.b).length) c6, .slice p8 ((x3.t.f).length) c10, .slice p24 ((x23.1.l).length) c26, .int .i64 x23.1.h, .int .i64 x3.g.c, .int .i64 x3.g.n, .int .i64 x3.g.r, .slice p16 ((x3.g.o).length) c18, .int .i64 x3.s]) ts47 rfl rfl rfl rfl rfl rfl rfl) ?_))))
  rintro _ _ rfl
  refine oD (sg rfl) rfl (nn (cw_ret ?_))
  have q0 := Option.some.inj H0
  subst q0
  exact kw_ret Tryz.results88 (.cons (.cellN (us := [_, _, _, _, _, _, _, _, _]) ts47 rfl (Cells.box (id := 1) rfl 9 rfl)) (.cons (.tmp rfl) .nil)) [(0, C7), (1, C11), (2, C27), (3, C19)] [2, 3, 8, 5] ⟨2, [3, 8, 5], rfl, rfl, 3, [8, 5], rfl, rfl, 8, [5], rfl, rfl, 5, [], rfl, rfl, trivial⟩ (by decide) ⟨p4, ((x3.t.b).length), c6, C7, p8, ((x3.t.f).length), c10, C11, p24, ((x23.1.l).length), c26, C27, p16, ((x3.g.o).length), c18, C19, rfl, rfl, rfl, o7, rfl, o11, rfl, o27, rfl, o19⟩

set_option maxHeartbeats 4000000 in
set_option maxRecDepth 20000 in
theorem c_s_TouchPage (fl : Nat) (w : World) (a0 : Mc) (p0_0 : Option Addr) (n0_0 c0_0 : Nat) (p0_1 : Option Addr) (n0_1 c0_1 : Nat) (p0_2 : Option Addr) (n0_2 c0_2 : Nat) (p0_3 : Option Addr) (n0_3 c0_3 : Nat) (a1 : Int) (a2 : Int) (hn0_0 : n0_0 = (a0.t.b).length) (hr0_0 : RO w (hkeys []) (RdL p0_0 c0_0 a0.t.b)) (hn0_1 : n0_1 = (a0.t.f).length) (hr0_1 : RO w (hkeys []) (RdL p0_1 c0_1 a0.t.f)) (hn0_2 : n0_2 = (a0.c.l).length) (hr0_2 : RO w (hkeys []) (RdL p0_2 c0_2 a0.c.l)) (hn0_3 : n0_3 = (a0.g.o).length) (hr0_3 : RO w (hkeys []) (RdL p0_3 c0_3 a0.g.o)) (r : Mc × Int × Int × Bool) (H0 : s_TouchPage fl a0 a1 a2 = some r) :
    Ct Tryz.prog 28 [.agg #[.slice p0_0 n0_0 c0_0, .slice p0_1 n0_1 c0_1, .slice p0_2 n0_2 c0_2, .int .i64 a0.c.h, .int .i64 a0.g.c, .int .i64 a0.g.n, .int .i64 a0.g.r, .slice p0_3 n0_3 c0_3, .int .i64 a0.s], .int .i64 a1, .int .i64 a2] w [] (fun rv h' => ∃ (x0 : Option Addr) (y0 z0 : Nat) (C0 : Res) (x1 : Option Addr) (y1 z1 : Nat) (C1 : Res) (x2 : Option Addr) (y2 z2 : Nat) (C2 : Res) (x3 : Option Addr) (y3 z3 : Nat) (C3 : Res), rv = .tuple #[.agg #[.slice x0 y0 z0, .slice x1 y1 z1, .slice x2 y2 z2, .int .i64 r.1.c.h, .int .i64 r.1.g.c, .int .i64 r.1.g.n, .int .i64 r.1.g.r, .slice x3 y3 z3, .int .i64 r.1.s], .int .i64 r.2.1, .int .i64 r.2.2.1, .bool r.2.2.2] ∧ h' = [(0, C0), (1, C1), (2, C2), (3, C3)] ∧ y0 = (r.1.t.b).length ∧ OwnC 3 x0 z0 r.1.t.b C0 ∧ y1 = (r.1.t.f).length ∧ OwnC 127 x1 z1 r.1.t.f C1 ∧ y2 = (r.1.c.l).length ∧ OwnC 112 x2 z2 r.1.c.l C2 ∧ y3 = (r.1.g.o).length ∧ OwnC 148 x3 z3 r.1.g.o C3) := by
  obtain rfl := hn0_0
  obtain rfl := hn0_1
  obtain rfl := hn0_2
  obtain rfl := hn0_3
  unfold s_TouchPage at H0
  refine ct_of_cw Tryz.func28 rfl Tryz.ntmps28 rfl (Sat.refl _ _) ?_
  refine sr (oE (stpU_box 0 rfl rfl) rfl ?_)
  rintro _ _ ⟨b1, rfl, rfl⟩
  refine oE (stpU_alloc 1 tz47 rfl) rfl ?_
  rintro _ _ ⟨b2, rfl, rfl⟩
  obtain ⟨x3, e3, H0⟩ := bind_some H0
  refine oD (sg rfl) rfl (oD (sg rfl) rfl (oD (sg rfl) rfl (nn (cw_seq (sr (oD (stp_loadN (us := [_, _, _, _, _, _, _, _, _]) ts47 rfl (Cells.box (id := 0) rfl 9 rfl)) rfl (oE (stpU_call (fun i => 2 + i) cf53 (fun w hw => c_s_MachineValid fl w a0 p0_0 ((a0.t.b).length) c0_0 p0_1 ((a0.t.f).length) c0_1 p0_2 ((a0.c.l).length) c0_2 p0_3 ((a0.g.o).length) c0_3 rfl (RO.pass hr0_0 hw) rfl (RO.pass hr0_1 hw) rfl (RO.pass hr0_2 hw) rfl (RO.pass hr0_3 hw) x3 e3) (sevs_cons rfl sevs_nil)) rfl ?_)))))))
  rintro _ _ ⟨_, ⟨rfl, rfl⟩, rfl⟩
  obtain ⟨y4, ey4, H0⟩ := bind_some H0
  refine oD (stp_not rfl) rfl (oD (mv rfl) rfl (ow_cutY 4 25 y4 ?_ ?_))
  · rcases Bool.eq_false_or_eq_true (!x3) with hy4 | hy4
    · have ey4 := cond_t ey4 hy4
      refine oO rfl hy4 rfl (oO rfl hy4 rfl (oO rfl hy4 rfl (oD (stp_pick_t rfl hy4 rfl) rfl ?_)))
      obtain rfl := Option.some.inj ey4
      exact ow_nil (jy 4 0)
    · have ey4 := cond_f ey4 hy4
      obtain ⟨x5, e5, ey4⟩ := bind_some ey4
      refine oG rfl hy4 (mv rfl) rfl (ow_eff (.some rfl hy4) (stpU_call (fun i => 2 + i) cf82 (fun w hw => c_s_l1Page fl w a1 x5 e5) (sevs_cons rfl sevs_nil)) rfl ?_)
      rintro _ _ ⟨_, ⟨rfl, rfl⟩, rfl⟩
      refine oG rfl hy4 (stp_not rfl) rfl (oD (stp_pick_f rfl hy4 rfl) rfl ?_)
      obtain rfl := Option.some.inj ey4
      exact ow_nil (jy 4 0)
  · obtain ⟨y6, ey6, H0⟩ := bind_some H0
    refine oD (mv rfl) rfl (ow_cutY 4 30 y6 ?_ ?_)
    · rcases Bool.eq_false_or_eq_true y4 with hy6 | hy6
      · have ey6 := cond_t ey6 hy6
        refine oO rfl hy6 rfl (oO rfl hy6 rfl (oO rfl hy6 rfl (oD (stp_pick_t rfl hy6 rfl) rfl ?_)))
        obtain rfl := Option.some.inj ey6
        exact ow_nil (jy 4 0)
      · have ey6 := cond_f ey6 hy6
        obtain ⟨x7, e7, ey6⟩ := bind_some ey6
        refine oG rfl hy6 (mv rfl) rfl (ow_eff (.some rfl hy6) (stpU_call (fun i => 2 + i) cf83 (fun w hw => c_s_RightsValid fl w a2 x7 e7) (sevs_cons rfl sevs_nil)) rfl ?_)
        rintro _ _ ⟨_, ⟨rfl, rfl⟩, rfl⟩
        refine oG rfl hy6 (stp_not rfl) rfl (oD (stp_pick_f rfl hy6 rfl) rfl ?_)
        obtain rfl := Option.some.inj ey6
        exact ow_nil (jy 4 0)
    · refine ow_nil (kw_nx (cw_cond rfl (fun h8 => ?_) (fun h8 => ?_)))
      · have H0 := cond_t H0 h8
        refine sr (oD (stp_build (cs := #[.slice none 0 0, .slice none 0 0, .slice none 0 0, .int .i64 0, .int .i64 0, .int .i64 0, .int .i64 0, .slice none 0 0, .int .i64 0]) sevp_nil bt47_3) rfl (oF (stpU_store (id := 1) (cs' := [.slice none 0 0, .slice none 0 0, .slice none 0 0, .int .i64 0, .int .i64 0, .int .i64 0, .int .i64 0, .slice none 0 0, .int .i64 0]) ts47 rfl rfl rfl rfl rfl rfl rfl) ?_))
        rintro _ _ rfl
        refine oD (sg rfl) rfl (oD (sg rfl) rfl (oD (sg rfl) rfl (nn (cw_ret (kw_nx_ret (kw_addNil 2 (kw_addNil 3 (kw_addNil 4 (kw_addNil 5 ?_)))))))))
        have q0 := Option.some.inj H0
        subst q0
        exact kw_ret Tryz.results28 (.cons (.cellN (us := [_, _, _, _, _, _, _, _, _]) ts47 rfl (Cells.box (id := 1) rfl 9 rfl)) (.cons (.tmp rfl) (.cons (.tmp rfl) (.cons (.tmp rfl) .nil)))) [(0, []), (1, []), (2, []), (3, [])] [2, 3, 4, 5] ⟨2, [3, 4, 5], rfl, rfl, 3, [4, 5], rfl, rfl, 4, [5], rfl, rfl, 5, [], rfl, rfl, trivial⟩ (by decide) ⟨none, 0, 0, [], none, 0, 0, [], none, 0, 0, [], none, 0, 0, [], rfl, rfl, rfl, (OwnC.nil _ _), rfl, (OwnC.nil _ _), rfl, (OwnC.nil _ _), rfl, (OwnC.nil _ _)⟩
      · have H0 := cond_f H0 h8
        obtain ⟨x9, e9, H0⟩ := bind_some H0
        refine cw_skip (kw_nx (sr (oD (stp_loadN (us := [_, _, _, _, _, _, _, _, _]) ts47 rfl (Cells.box (id := 0) rfl 9 rfl)) rfl (oD (fA 8 Tryz.underlying47 rfl ts3 rfl rfl rfl) rfl (oD (lB 0 ts3 rfl rfl rfl) rfl (oD (mv rfl) rfl (oE (stpU_call (fun i => 6 + i) cf84 (fun w hw => c_s_l6Tag fl w a0 p0_0 ((a0.t.b).length) c0_0 p0_1 ((a0.t.f).length) c0_1 p0_2 ((a0.c.l).length) c0_2 p0_3 ((a0.g.o).length) c0_3 a0.s a1 rfl (RO.pass hr0_0 hw) rfl (RO.pass hr0_1 hw) rfl (RO.pass hr0_2 hw) rfl (RO.pass hr0_3 hw) x9 e9) (sevs_cons rfl (sevs_cons rfl (sevs_cons rfl sevs_nil)))) rfl ?_)))))))
        rintro _ _ ⟨_, ⟨rfl, rfl⟩, rfl⟩
        obtain ⟨x10, e10, H0⟩ := bind_some H0
        refine oD (mv rfl) rfl (oD (stp_extract rfl rfl) rfl (oD (stp_extract rfl rfl) rfl (oD (sg rfl) rfl (oD (sg rfl) rfl (nn (sr (oD (stp_loadN (us := [_, _, _, _, _, _, _, _, _]) ts47 rfl (Cells.box (id := 0) rfl 9 rfl)) rfl (oE (stpU_call (fun i => 6 + i) cf56 (fun w hw => c_s_l6Copy fl w a0 p0_0 ((a0.t.b).length) c0_0 p0_1 ((a0.t.f).length) c0_1 p0_2 ((a0.c.l).length) c0_2 p0_3 ((a0.g.o).length) c0_3 rfl (RO.pass hr0_0 hw) rfl (RO.pass hr0_1 hw) rfl (RO.pass hr0_2 hw) rfl (RO.pass hr0_3 hw) x10 e10) (sevs_cons rfl sevs_nil)) rfl ?_))))))))
        rintro _ _ ⟨_, ⟨p11, n12, c13, C14, p15, n16, c17, C18, p19, n20, c21, C22, p23, n24, c25, C26, rfl, rfl, hnn12, o14, hnn16, o18, hnn20, o22, hnn24, o26⟩, rfl⟩
        obtain rfl := hnn12
        obtain rfl := hnn16
        obtain rfl := hnn20
        obtain rfl := hnn24
        refine oE (stpU_alloc 10 tz47 rfl) rfl ?_
        rintro _ _ ⟨b27, rfl, rfl⟩
        refine oF (stpU_store (id := 10) (cs' := [.slice p11 ((x10.t.b).length) c13, .slice p15 ((x10.t.f).length) c17, .slice p19 ((x10.c.l).length) c21, .int .i64 x10.c.h, .int .i64 x10.g.c, .int .i64 x10.g.n, .int .i64 x10.g.r, .slice p23 ((x10.g.o).length) c25, .int .i64 x10.s]) ts47 rfl rfl rfl rfl rfl rfl rfl) ?_
        rintro _ _ rfl
        obtain ⟨x28, e28, H0⟩ := bind_some H0
        refine nn (sr (oD (sg rfl) rfl (nn (sr (oD (fA 2 Tryz.underlying47 rfl ts42 rfl rfl rfl) rfl (oD (stp_loadN (us := [_, _]) ts42 rfl (Cells.box (id := 0) rfl 2 rfl)) rfl (oD (mv rfl) rfl (oD (mv rfl) rfl (oE (stpU_call (fun i => 11 + i) cf85 (fun w hw => c_s_l4Find fl w a0.c p0_2 ((a0.c.l).length) c0_2 x9.1 a1 rfl (RO.pass hr0_2 hw) x28 e28) (sevs_cons rfl (sevs_cons rfl (sevs_cons rfl sevs_nil)))) rfl ?_)))))))))
        rintro _ _ ⟨_, ⟨rfl, rfl⟩, rfl⟩
        refine oD (sg rfl) rfl (nn (sr (oD (sg rfl) rfl (nn (cw_seq (sr (oD (mv rfl) rfl (oD (stp_geq rfl rfl) rfl (nn (cw_cond rfl (fun h29 => ?_) (fun h29 => ?_)))))))))))
        · have H0 := cond_t H0 h29
          obtain ⟨x30, e30, H0⟩ := bind_some H0
          refine cw_region (oD (fA 2 Tryz.underlying47 rfl ts42 rfl rfl rfl) rfl (oD (fA 0 Tryz.underlying42 rfl ts40 rfl rfl rfl) rfl (oD (lB 0 ts40 rfl rfl rfl) rfl (oD (mv rfl) rfl (oD (stp_indexAddr Tryz.underlying40 ts112 (by decide) rfl rfl rfl (Rdb.ro hr0_2) e30) rfl (oD (fA 3 Tryz.underlying112 rfl ts3 rfl rfl rfl) rfl (oD (stp_load1 ts3 rfl (Cells.el (Rdb.ro hr0_2) (by decide) e30 3 1 rfl)) rfl (oD (sg rfl) rfl (nn (cw_seq (sr (oD (fA 0 Tryz.underlying47 rfl ts39 rfl rfl rfl) rfl (oD (fA 1 Tryz.underlying39 rfl ts37 rfl rfl rfl) rfl ?_)))))))))))))
          obtain ⟨x31, e31, H0⟩ := bind_some H0
          obtain ⟨x32, e32, H0⟩ := bind_some H0
          refine oD (lB 0 ts37 rfl rfl rfl) rfl (oD (mv rfl) rfl (oD (stp_indexAddr Tryz.underlying37 ts127 (by decide) rfl rfl rfl (Rdb.ro hr0_1) e31) rfl (oD (fA 3 Tryz.underlying127 rfl ts3 rfl rfl rfl) rfl (oD (stp_load1 ts3 rfl (Cells.el (Rdb.ro hr0_1) (by decide) e31 3 1 rfl)) rfl (oD (mv rfl) rfl (oE (stpU_call (fun i => 11 + i) cf89 (fun w hw => c_s_Allows fl w x31.r a2 x32 e32) (sevs_cons rfl (sevs_cons rfl sevs_nil))) rfl ?_))))))
          rintro _ _ ⟨_, ⟨rfl, rfl⟩, rfl⟩
          refine oD (stp_not rfl) rfl (nn (cw_cond rfl (fun h33 => ?_) (fun h33 => ?_)))
          · have H0 := cond_t H0 h33
            refine sr (oD (stp_loadN (us := [_, _, _, _, _, _, _, _, _]) ts47 rfl (Cells.box (id := 10) rfl 9 rfl)) rfl (oD (mv rfl) rfl (oF (stpU_store (id := 1) (cs' := [.slice p11 ((x10.t.b).length) c13, .slice p15 ((x10.t.f).length) c17, .slice p19 ((x10.c.l).length) c21, .int .i64 x10.c.h, .int .i64 x10.g.c, .int .i64 x10.g.n, .int .i64 x10.g.r, .slice p23 ((x10.g.o).length) c25, .int .i64 x10.s]) ts47 rfl rfl rfl rfl rfl rfl rfl) ?_)))
            rintro _ _ rfl
            refine oD (sg rfl) rfl (oD (sg rfl) rfl (oD (sg rfl) rfl (nn (cw_ret (kw_nx_ret ?_)))))
            have q0 := Option.some.inj H0
            subst q0
            exact kw_ret Tryz.results28 (.cons (.cellN (us := [_, _, _, _, _, _, _, _, _]) ts47 rfl (Cells.box (id := 1) rfl 9 rfl)) (.cons (.tmp rfl) (.cons (.tmp rfl) (.cons (.tmp rfl) .nil)))) [(0, C14), (1, C18), (2, C22), (3, C26)] [6, 7, 8, 9] ⟨6, [7, 8, 9], rfl, rfl, 7, [8, 9], rfl, rfl, 8, [9], rfl, rfl, 9, [], rfl, rfl, trivial⟩ (by decide) ⟨p11, ((x10.t.b).length), c13, C14, p15, ((x10.t.f).length), c17, C18, p19, ((x10.c.l).length), c21, C22, p23, ((x10.g.o).length), c25, C26, rfl, rfl, rfl, o14, rfl, o18, rfl, o22, rfl, o26⟩
          · have H0 := cond_f H0 h33
            refine cw_skip (kw_nx (sr (oD (stp_loadN (us := [_, _, _, _, _, _, _, _, _]) ts47 rfl (Cells.box (id := 10) rfl 9 rfl)) rfl (oD (mv rfl) rfl (oD (mv rfl) rfl (oF (stpU_store (id := 1) (cs' := [.slice p11 ((x10.t.b).length) c13, .slice p15 ((x10.t.f).length) c17, .slice p19 ((x10.c.l).length) c21, .int .i64 x10.c.h, .int .i64 x10.g.c, .int .i64 x10.g.n, .int .i64 x10.g.r, .slice p23 ((x10.g.o).length) c25, .int .i64 x10.s]) ts47 rfl rfl rfl rfl rfl rfl rfl) ?_))))))
            rintro _ _ rfl
            refine oD (sg rfl) rfl (oD (sg rfl) rfl (oD (sg rfl) rfl (nn (cw_ret ?_))))
            have q0 := Option.some.inj H0
            subst q0
            exact kw_ret Tryz.results28 (.cons (.cellN (us := [_, _, _, _, _, _, _, _, _]) ts47 rfl (Cells.box (id := 1) rfl 9 rfl)) (.cons (.tmp rfl) (.cons (.tmp rfl) (.cons (.tmp rfl) .nil)))) [(0, C14), (1, C18), (2, C22), (3, C26)] [6, 7, 8, 9] ⟨6, [7, 8, 9], rfl, rfl, 7, [8, 9], rfl, rfl, 8, [9], rfl, rfl, 9, [], rfl, rfl, trivial⟩ (by decide) ⟨p11, ((x10.t.b).length), c13, C14, p15, ((x10.t.f).length), c17, C18, p19, ((x10.c.l).length), c21, C22, p23, ((x10.g.o).length), c25, C26, rfl, rfl, rfl, o14, rfl, o18, rfl, o22, rfl, o26⟩
        · have H0 := cond_f H0 h29
          obtain ⟨x34, e34, H0⟩ := bind_some H0
          obtain ⟨x35, e35, H0⟩ := bind_some H0
          refine cw_seq (rdr g_mixed [1, 3] [0] { dst := dS [58, 59, 60, 61, 62, 63, 64, 57, 65, 66, 17, 18], pre := gA [] [[], [0], [], [2], [], [2, 3, 4], rn 0 6, rn 0 7, rn 0 8, rn 0 8, rn 0 9, rn 0 11], ids := fun _ => [], rs := rL [[(3, 0)], [(57, 1)], [(3, 0)], [(59, 3)], [(1, 0)], [(60, 4), (61, 5)], [(58, 2), (62, 6)], [(63, 7)], [(56, 8)], [(56, 8)], [(64, 9)], [(65, 10)]], rh := rL [[], [(0, 0)], [], [(0, 0)]], V := fun i g => gA undef [.pointer (some ⟨b1, 0, none⟩), .agg #[.slice p0_0 ((a0.t.b).length) c0_0, .slice p0_1 ((a0.t.f).length) c0_1], .pointer (some ⟨b1, 8, none⟩), .int .i64 a0.s, .int .i64 a1, .agg #[.int .i64 x34.s, .int .i64 x34.p], .tuple #[.int .i64 x35.1, .int .i64 x35.2], .tuple #[.int .i64 x35.1, .int .i64 x35.2], .int .i64 x35.1, .int .i64 x35.2, .int .i64 x35.1, .int .i64 x35.2] i, U := fun _ _ => [], Φ := fun _ _ => True } ?_ ?_)
          · refine ⟨⟨⟨⟨⟨⟨⟨⟨⟨⟨⟨⟨trivial, lc rfl rfl fun hs hh => stp_fieldAddr (j := 0) Tryz.underlying47 rfl ts39 rfl (sv hs 3 rfl) rfl⟩, lc rfl rfl fun hs hh => stp_loadN (us := [_, _]) ts39 (sv hs 57 rfl) (Cells.box (id := 0) (hh.get 0 _ rfl) 2 rfl)⟩, lc rfl rfl fun hs hh => stp_fieldAddr (j := 8) Tryz.underlying47 rfl ts3 rfl (sv hs 3 rfl) rfl⟩, lc rfl rfl fun hs hh => stp_load1 ts3 (sv hs 59 rfl) (Cells.box (id := 0) (hh.get 0 _ rfl) 1 rfl)⟩, lc rfl rfl fun hs hh => stp_move (sv hs 1 rfl)⟩, ?_⟩, ?_⟩, lc rfl rfl fun hs hh => stp_move (sv hs 63 rfl)⟩, lc rfl rfl fun hs hh => stp_extract (sv hs 56 rfl) rfl⟩, lc rfl rfl fun hs hh => stp_extract (sv hs 56 rfl) rfl⟩, lc rfl rfl fun hs hh => stp_assign (sv hs 64 rfl)⟩, lc rfl rfl fun hs hh => stp_assign (sv hs 65 rfl)⟩
            · refine le rfl rfl (fun g hΦ s h hs hh => (stpU_call (fun i => 11 + i) cf87 (fun w hw => c_s_KeyFor fl w a0.s a1 x34 e34) (sevs_cons (sv hs 60 rfl) (sevs_cons (sv hs 61 rfl) sevs_nil)))) ?_
              rintro g _ _ ⟨_, ⟨rfl, rfl⟩, rfl⟩
              exact ⟨⟨[], [], []⟩, trivial, .inr rfl, rfl⟩
            · refine le rfl rfl (fun g hΦ s h hs hh => (stpU_call (fun i => 11 + i) cf86 (fun w hw => c_s_l3Find fl w a0.t p0_0 ((a0.t.b).length) c0_0 p0_1 ((a0.t.f).length) c0_1 x34 rfl (RO.pass hr0_0 hw) rfl (RO.pass hr0_1 hw) x35 e35) (sevs_cons (sv hs 58 rfl) (sevs_cons (sv hs 62 rfl) sevs_nil)))) ?_
              rintro g _ _ ⟨_, ⟨rfl, rfl⟩, rfl⟩
              exact ⟨⟨[], [], []⟩, trivial, .inr rfl, rfl⟩
          · intro g hΦ
            refine KW.sub (s' := [(1, .int .i64 a1), (2, .int .i64 a2), (3, .pointer (some ⟨b1, 0, none⟩)), (6, .pointer (some ⟨b2, 0, none⟩)), (10, .int .i64 x9.1), (12, .pointer (some ⟨b27, 0, none⟩)), (16, .int .i64 x35.1)]) (h' := [(0, [(b1, .cells #[.slice p0_0 ((a0.t.b).length) c0_0, .slice p0_1 ((a0.t.f).length) c0_1, .slice p0_2 ((a0.c.l).length) c0_2, .int .i64 a0.c.h, .int .i64 a0.g.c, .int .i64 a0.g.n, .int .i64 a0.g.r, .slice p0_3 ((a0.g.o).length) c0_3, .int .i64 a0.s] 47 (0, 0))]), (1, [(b2, .cells #[.slice none 0 0, .slice none 0 0, .slice none 0 0, .int .i64 0, .int .i64 0, .int .i64 0, .int .i64 0, .slice none 0 0, .int .i64 0] 47 (0, 0))]), (6, C14), (7, C18), (8, C22), (9, C26), (10, [(b27, .cells #[.slice p11 ((x10.t.b).length) c13, .slice p15 ((x10.t.f).length) c17, .slice p19 ((x10.c.l).length) c21, .int .i64 x10.c.h, .int .i64 x10.g.c, .int .i64 x10.g.n, .int .i64 x10.g.r, .slice p23 ((x10.g.o).length) c25, .int .i64 x10.s] 47 (0, 0))])]) ?_ ⟨rfl, rfl, rfl, rfl, rfl, rfl, rfl, trivial⟩ ⟨rfl, rfl, rfl, rfl, rfl, rfl, rfl, trivial⟩
            refine kw_nx (cw_seq (sr (oD (mv rfl) rfl (oD (stp_lss rfl rfl) rfl (nn (cw_cond rfl (fun h36 => ?_) (fun h36 => ?_)))))))
            · have H0 := cond_t H0 h36
              refine sr (oD (stp_loadN (us := [_, _, _, _, _, _, _, _, _]) ts47 rfl (Cells.box (id := 10) rfl 9 rfl)) rfl (oF (stpU_store (id := 1) (cs' := [.slice p11 ((x10.t.b).length) c13, .slice p15 ((x10.t.f).length) c17, .slice p19 ((x10.c.l).length) c21, .int .i64 x10.c.h, .int .i64 x10.g.c, .int .i64 x10.g.n, .int .i64 x10.g.r, .slice p23 ((x10.g.o).length) c25, .int .i64 x10.s]) ts47 rfl rfl rfl rfl rfl rfl rfl) ?_))
              rintro _ _ rfl
              refine oD (sg rfl) rfl (oD (sg rfl) rfl (oD (sg rfl) rfl (nn (cw_ret (kw_nx_ret (kw_nx_ret ?_))))))
              have q0 := Option.some.inj H0
              subst q0
              exact kw_ret Tryz.results28 (.cons (.cellN (us := [_, _, _, _, _, _, _, _, _]) ts47 rfl (Cells.box (id := 1) rfl 9 rfl)) (.cons (.tmp rfl) (.cons (.tmp rfl) (.cons (.tmp rfl) .nil)))) [(0, C14), (1, C18), (2, C22), (3, C26)] [6, 7, 8, 9] ⟨6, [7, 8, 9], rfl, rfl, 7, [8, 9], rfl, rfl, 8, [9], rfl, rfl, 9, [], rfl, rfl, trivial⟩ (by decide) ⟨p11, ((x10.t.b).length), c13, C14, p15, ((x10.t.f).length), c17, C18, p19, ((x10.c.l).length), c21, C22, p23, ((x10.g.o).length), c25, C26, rfl, rfl, rfl, o14, rfl, o18, rfl, o22, rfl, o26⟩
            · have H0 := cond_f H0 h36
              obtain ⟨x37, e37, H0⟩ := bind_some H0
              refine cw_skip (kw_nx (sr (oD (stp_loadN (us := [_, _, _, _, _, _, _, _, _]) ts47 rfl (Cells.box (id := 0) rfl 9 rfl)) rfl (oD (mv rfl) rfl (oD (mv rfl) rfl (oD (mv rfl) rfl (oE (stpU_call (fun i => 11 + i) cf88 (fun w hw => c_s_l6Fill fl w a0 p0_0 ((a0.t.b).length) c0_0 p0_1 ((a0.t.f).length) c0_1 p0_2 ((a0.c.l).length) c0_2 p0_3 ((a0.g.o).length) c0_3 a1 x35.1 x9.1 rfl (RO.pass hr0_0 hw) rfl (RO.pass hr0_1 hw) rfl (RO.pass hr0_2 hw) rfl (RO.pass hr0_3 hw) x37 e37) (sevs_cons rfl (sevs_cons rfl (sevs_cons rfl (sevs_cons rfl sevs_nil))))) rfl ?_)))))))
              rintro _ _ ⟨_, ⟨p38, n39, c40, C41, p42, n43, c44, C45, p46, n47, c48, C49, p50, n51, c52, C53, rfl, rfl, hnn39, o41, hnn43, o45, hnn47, o49, hnn51, o53⟩, rfl⟩
              obtain rfl := hnn39
              obtain rfl := hnn43
              obtain rfl := hnn47
              obtain rfl := hnn51
              refine oD (mv rfl) rfl (oD (stp_extract rfl rfl) rfl (oD (stp_extract rfl rfl) rfl (oF (stpU_store (id := 10) (cs' := [.slice p38 ((x37.1.t.b).length) c40, .slice p42 ((x37.1.t.f).length) c44, .slice p46 ((x37.1.c.l).length) c48, .int .i64 x37.1.c.h, .int .i64 x37.1.g.c, .int .i64 x37.1.g.n, .int .i64 x37.1.g.r, .slice p50 ((x37.1.g.o).length) c52, .int .i64 x37.1.s]) ts47 rfl rfl rfl rfl rfl rfl rfl) ?_)))
              rintro _ _ rfl
              refine nn (sr (oD (mv rfl) rfl (oD (sg rfl) rfl (nn (cw_region (oD (sg rfl) rfl (nn (cw_seq (sr (oD (fA 0 Tryz.underlying47 rfl ts39 rfl rfl rfl) rfl (oD (fA 1 Tryz.underlying39 rfl ts37 rfl rfl rfl) rfl (oD (lB 0 ts37 rfl rfl rfl) rfl (oD (mv rfl) rfl ?_)))))))))))))
              obtain ⟨x54, e54, H0⟩ := bind_some H0
              obtain ⟨x55, e55, H0⟩ := bind_some H0
              refine oD (stp_indexAddr Tryz.underlying37 ts127 (by decide) rfl rfl rfl (Rdb.ro hr0_1) e54) rfl (oD (fA 3 Tryz.underlying127 rfl ts3 rfl rfl rfl) rfl (oD (stp_load1 ts3 rfl (Cells.el (Rdb.ro hr0_1) (by decide) e54 3 1 rfl)) rfl (oD (mv rfl) rfl (oE (stpU_call (fun i => 15 + i) cf89 (fun w hw => c_s_Allows fl w x54.r a2 x55 e55) (sevs_cons rfl (sevs_cons rfl sevs_nil))) rfl ?_))))
              rintro _ _ ⟨_, ⟨rfl, rfl⟩, rfl⟩
              refine oD (stp_not rfl) rfl (nn (cw_cond rfl (fun h56 => ?_) (fun h56 => ?_)))
              · have H0 := cond_t H0 h56
                refine sr (oD (stp_loadN (us := [_, _, _, _, _, _, _, _, _]) ts47 rfl (Cells.box (id := 10) rfl 9 rfl)) rfl (oD (mv rfl) rfl (oF (stpU_store (id := 1) (cs' := [.slice p38 ((x37.1.t.b).length) c40, .slice p42 ((x37.1.t.f).length) c44, .slice p46 ((x37.1.c.l).length) c48, .int .i64 x37.1.c.h, .int .i64 x37.1.g.c, .int .i64 x37.1.g.n, .int .i64 x37.1.g.r, .slice p50 ((x37.1.g.o).length) c52, .int .i64 x37.1.s]) ts47 rfl rfl rfl rfl rfl rfl rfl) ?_)))
                rintro _ _ rfl
                refine oD (sg rfl) rfl (oD (sg rfl) rfl (oD (sg rfl) rfl (nn (cw_ret (kw_nx_ret ?_)))))
                have q0 := Option.some.inj H0
                subst q0
                exact kw_ret Tryz.results28 (.cons (.cellN (us := [_, _, _, _, _, _, _, _, _]) ts47 rfl (Cells.box (id := 1) rfl 9 rfl)) (.cons (.tmp rfl) (.cons (.tmp rfl) (.cons (.tmp rfl) .nil)))) [(0, C41), (1, C45), (2, C49), (3, C53)] [11, 12, 13, 14] ⟨11, [12, 13, 14], rfl, rfl, 12, [13, 14], rfl, rfl, 13, [14], rfl, rfl, 14, [], rfl, rfl, trivial⟩ (by decide) ⟨p38, ((x37.1.t.b).length), c40, C41, p42, ((x37.1.t.f).length), c44, C45, p46, ((x37.1.c.l).length), c48, C49, p50, ((x37.1.g.o).length), c52, C53, rfl, rfl, rfl, o41, rfl, o45, rfl, o49, rfl, o53⟩
              · have H0 := cond_f H0 h56
                refine cw_skip (kw_nx (sr (oD (stp_loadN (us := [_, _, _, _, _, _, _, _, _]) ts47 rfl (Cells.box (id := 10) rfl 9 rfl)) rfl (oD (mv rfl) rfl (oD (mv rfl) rfl (oF (stpU_store (id := 1) (cs' := [.slice p38 ((x37.1.t.b).length) c40, .slice p42 ((x37.1.t.f).length) c44, .slice p46 ((x37.1.c.l).length) c48, .int .i64 x37.1.c.h, .int .i64 x37.1.g.c, .int .i64 x37.1.g.n, .int .i64 x37.1.g.r, .slice p50 ((x37.1.g.o).length) c52, .int .i64 x37.1.s]) ts47 rfl rfl rfl rfl rfl rfl rfl) ?_))))))
                rintro _ _ rfl
                refine oD (sg rfl) rfl (oD (sg rfl) rfl (oD (sg rfl) rfl (nn (cw_ret ?_))))
                have q0 := Option.some.inj H0
                subst q0
                exact kw_ret Tryz.results28 (.cons (.cellN (us := [_, _, _, _, _, _, _, _, _]) ts47 rfl (Cells.box (id := 1) rfl 9 rfl)) (.cons (.tmp rfl) (.cons (.tmp rfl) (.cons (.tmp rfl) .nil)))) [(0, C41), (1, C45), (2, C49), (3, C53)] [11, 12, 13, 14] ⟨11, [12, 13, 14], rfl, rfl, 12, [13, 14], rfl, rfl, 13, [14], rfl, rfl, 14, [], rfl, rfl, trivial⟩ (by decide) ⟨p38, ((x37.1.t.b).length), c40, C41, p42, ((x37.1.t.f).length), c44, C45, p46, ((x37.1.c.l).length), c48, C49, p50, ((x37.1.g.o).length), c52, C53, rfl, rfl, rfl, o41, rfl, o45, rfl, o49, rfl, o53⟩

set_option maxHeartbeats 4000000 in
set_option maxRecDepth 20000 in
theorem c_i_Allows (fl : Nat) (w : World) (a0 : Int) (a1 : Int) (r : Bool) (H0 : i_Allows fl a0 a1 = some r) :
    Ct Tryz.prog 96 [.int .i64 a0, .int .i64 a1] w [] (fun rv h' => rv = .bool r ∧ h' = []) := by
  unfold i_Allows at H0
  refine ct_of_cw Tryz.func96 rfl Tryz.ntmps96 rfl (Sat.refl _ _) ?_
  obtain ⟨x1, e1, H0⟩ := bind_some H0
  refine sr (oD (sg rfl) rfl (nn (sr (oD (mv rfl) rfl (oE (stpU_call (fun i => 0 + i) cf91 (fun w hw => c_i_RightsValid fl w a0 x1 e1) (sevs_cons rfl sevs_nil)) rfl ?_)))))
  rintro _ _ ⟨_, ⟨rfl, rfl⟩, rfl⟩
  obtain ⟨y2, ey2, H0⟩ := bind_some H0
  refine oD (mv rfl) rfl (ow_cutY 3 10 y2 ?_ ?_)
  · rcases Bool.eq_false_or_eq_true x1 with hy2 | hy2
    · have ey2 := cond_t ey2 hy2
      obtain ⟨x3, e3, ey2⟩ := bind_some ey2
      refine oG rfl hy2 (mv rfl) rfl (ow_eff (.some rfl hy2) (stpU_call (fun i => 0 + i) cf91 (fun w hw => c_i_RightsValid fl w a1 x3 e3) (sevs_cons rfl sevs_nil)) rfl ?_)
      rintro _ _ ⟨_, ⟨rfl, rfl⟩, rfl⟩
      refine oD (stp_pick_t rfl hy2 rfl) rfl ?_
      obtain rfl := Option.some.inj ey2
      exact ow_nil (jy 3 0)
    · have ey2 := cond_f ey2 hy2
      refine oO rfl hy2 rfl (oO rfl hy2 rfl (oD (stp_pick_f rfl hy2 rfl) rfl ?_))
      obtain rfl := Option.some.inj ey2
      exact ow_nil (jy 3 0)
  · obtain ⟨y4, ey4, H0⟩ := bind_some H0
    refine oD (mv rfl) rfl (ow_cutY 5 16 y4 ?_ ?_)
    · rcases Bool.eq_false_or_eq_true y2 with hy4 | hy4
      · have ey4 := cond_t ey4 hy4
        refine oG rfl hy4 (mv rfl) rfl (oG rfl hy4 (mv rfl) rfl (oG rfl hy4 (stp_andNot rfl rfl) rfl (oG rfl hy4 (stp_eql rfl rfl) rfl (oD (stp_pick_t rfl hy4 rfl) rfl ?_))))
        obtain rfl := Option.some.inj ey4
        exact ow_nil (jy 5 0)
      · have ey4 := cond_f ey4 hy4
        refine oO rfl hy4 rfl (oO rfl hy4 rfl (oO rfl hy4 rfl (oO rfl hy4 rfl (oD (stp_pick_f rfl hy4 rfl) rfl ?_))))
        obtain rfl := Option.some.inj ey4
        exact ow_nil (jy 5 0)
    · refine oD (sg rfl) rfl (nn (cw_ret ?_))
      have q0 := Option.some.inj H0
      subst q0
      exact kw_ret Tryz.results96 (.cons (.tmp rfl) .nil) [] [] trivial (by decide) ⟨rfl, rfl⟩

set_option maxHeartbeats 4000000 in
set_option maxRecDepth 20000 in
theorem c_i_VictimOf (fl : Nat) (w : World) (a0 : Ca) (p0_0 : Option Addr) (n0_0 c0_0 : Nat) (hn0_0 : n0_0 = (a0.l).length) (hr0_0 : RO w (hkeys []) (RdL p0_0 c0_0 a0.l)) (r : Int × Bool) (H0 : i_VictimOf fl a0 = some r) :
    Ct Tryz.prog 176 [.agg #[.slice p0_0 n0_0 c0_0, .int .i64 a0.h]] w [] (fun rv h' => rv = .tuple #[.int .i64 r.1, .bool r.2] ∧ h' = []) := by
  obtain rfl := hn0_0
  unfold i_VictimOf at H0
  refine ct_of_cw Tryz.func176 rfl Tryz.ntmps176 rfl (Sat.refl _ _) ?_
  refine sr (oE (stpU_box 0 rfl rfl) rfl ?_)
  rintro _ _ ⟨b1, rfl, rfl⟩
  obtain ⟨x2, e2, H0⟩ := bind_some H0
  refine oD (sg rfl) rfl (oD (sg rfl) rfl (nn (cw_seq (sr (oD (stp_loadN (us := [_, _]) ts42 rfl (Cells.box (id := 0) rfl 2 rfl)) rfl (oE (stpU_call (fun i => 1 + i) cf139 (fun w hw => c_i_CacheValid fl w a0 p0_0 ((a0.l).length) c0_0 rfl (RO.pass hr0_0 hw) x2 e2) (sevs_cons rfl sevs_nil)) rfl ?_))))))
  rintro _ _ ⟨_, ⟨rfl, rfl⟩, rfl⟩
  refine oD (stp_not rfl) rfl (nn (cw_cond rfl (fun h3 => ?_) (fun h3 => ?_)))
  · have H0 := cond_t H0 h3
    refine sr (oD (sg rfl) rfl (oD (sg rfl) rfl (nn (cw_ret (kw_nx_ret ?_)))))
    have q0 := Option.some.inj H0
    subst q0
    exact kw_ret Tryz.results176 (.cons (.tmp rfl) (.cons (.tmp rfl) .nil)) [] [] trivial (by decide) ⟨rfl, rfl⟩
  · have H0 := cond_f H0 h3
    obtain ⟨o0_0, eo0_0, H0⟩ := bind_some H0
    refine cw_skip (kw_nx (cw_seq (sr (oD (fA 0 Tryz.underlying42 rfl ts40 rfl rfl rfl) rfl (oD (lB 0 ts40 rfl rfl rfl) rfl (oD (stp_len Tryz.underlying40 rfl) rfl (oD (mv rfl) rfl (nn (cw_join (ι := Int) (fun | v4 => o0_0 = .out v4) (fun | v4 => [(1, .pointer (some ⟨b1, 0, none⟩)), (11, .slice p0_0 ((a0.l).length) c0_0), (12, .int .i64 ((a0.l).length : Int)), (13, .int .i64 v4)]) (fun | v4 => [(0, [(b1, .cells #[.slice p0_0 ((a0.l).length) c0_0, .int .i64 a0.h] 42 (0, 0))])]) ?_ ?_)))))))))
    · refine cw_block (cw_loopS (ι := Nat × Int) (js := [0]) (fun x => x.1) (fun | (fuel, v4) => i_VictimOf_L0 fl a0 fuel v4 = some o0_0) (fun | (_, v4) => [(1, .pointer (some ⟨b1, 0, none⟩)), (11, .slice p0_0 ((a0.l).length) c0_0), (12, .int .i64 ((a0.l).length : Int)), (13, .int .i64 v4)]) (fun | (_, v4) => [(0, [(b1, .cells #[.slice p0_0 ((a0.l).length) c0_0, .int .i64 a0.h] 42 (0, 0))])]) (fl, 0) eo0_0 ⟨rfl, rfl, rfl, rfl, trivial⟩ ⟨0, [], rfl, rfl, trivial⟩ (by decide) ?_)
      rintro ⟨fuel, v4⟩ H1
      have H1 : i_VictimOf_L0 fl a0 fuel v4 = some o0_0 := H1
      rcases fuel with _ | fuel
      · rw [i_VictimOf_L0.eq_1] at H1; cases H1
      rw [i_VictimOf_L0.eq_2] at H1
      refine CW.sub (s' := [(1, .pointer (some ⟨b1, 0, none⟩)), (11, .slice p0_0 ((a0.l).length) c0_0), (12, .int .i64 ((a0.l).length : Int)), (13, .int .i64 v4)]) (h' := [(0, [(b1, .cells #[.slice p0_0 ((a0.l).length) c0_0, .int .i64 a0.h] 42 (0, 0))])]) ?_ ⟨rfl, rfl, rfl, rfl, trivial⟩ ⟨rfl, trivial⟩
      refine sr (oD (stp_lss rfl rfl) rfl (nn (cw_seq (cw_cond rfl (fun h5 => ?_) (fun h5 => ?_)))))
      · have H1 := cond_t H1 h5
        obtain ⟨x6, e6, H1⟩ := bind_some H1
        refine cw_skip (kw_nx (cw_seq (cw_block (sr (oD (mv rfl) rfl (oD (stp_indexAddr Tryz.underlying40 ts112 (by decide) rfl rfl rfl (Rdb.ro hr0_0) e6) rfl (oD (stp_loadN (us := [_, _, _, _, _, _]) ts112 rfl (Cells.el (Rdb.ro hr0_0) (by decide) e6 0 6 rfl)) rfl (oE (stpU_alloc 1 tz112 rfl) rfl ?_))))))))
        rintro _ _ ⟨b7, rfl, rfl⟩
        refine oD (sg rfl) rfl (oF (stpU_store (id := 1) (cs' := [.bool x6.va, .int .i64 x6.tg, .int .i64 x6.pg, .int .i64 x6.fr, .int .i64 x6.ri, .bool x6.wi]) ts112 rfl rfl rfl rfl rfl rfl rfl) ?_)
        rintro _ _ rfl
        refine nn (sr (oD (fA 0 Tryz.underlying112 rfl ts4 rfl rfl rfl) rfl (oD (lB 1 ts4 rfl rfl rfl) rfl (oD (stp_not rfl) rfl (nn (cw_cond rfl (fun h8 => ?_) (fun h8 => ?_)))))))
        · have H1 := cond_t H1 h8
          refine sr (oD (mv rfl) rfl (oD (sg rfl) rfl (oD (sg rfl) rfl (nn (cw_ret (kw_bl_ret (kw_nx_ret (kw_lq_ret (kw_bl_ret (kw_join_ret (kw_nx_ret ?_)))))))))))
          have q1 := Option.some.inj H1
          subst q1
          have q0 := Option.some.inj H0
          subst q0
          exact kw_ret Tryz.results176 (.cons (.tmp rfl) (.cons (.tmp rfl) .nil)) [] [] trivial (by decide) ⟨rfl, rfl⟩
        · have H1 := cond_f H1 h8
          obtain ⟨x9, e9, H1⟩ := bind_some H1
          exact cw_skip (kw_bl_normal (kw_nx (cw_region (oD (stp_add rfl rfl e9) rfl (oD (mv rfl) rfl (ow_nil (kw_lqS (js := [0]) (fuel, x9) H1 (Nat.lt_succ_self _) ⟨rfl, rfl, rfl, rfl, trivial⟩ ⟨0, [], rfl, rfl, trivial⟩ (by decide))))))))
      · have H1 := cond_f H1 h5
        refine cw_exit (kw_nx_exit (kw_lq_exit (kw_bl ?_)))
        have q1 := Option.some.inj H1
        subst q1
        exact kw_joinS (js := [0]) v4 rfl ⟨rfl, rfl, rfl, rfl, trivial⟩ ⟨0, [], rfl, rfl, trivial⟩ (by decide)
    · rintro v4 rfl
      refine KW.sub (s' := [(1, .pointer (some ⟨b1, 0, none⟩)), (11, .slice p0_0 ((a0.l).length) c0_0), (12, .int .i64 ((a0.l).length : Int)), (13, .int .i64 v4)]) (h' := [(0, [(b1, .cells #[.slice p0_0 ((a0.l).length) c0_0, .int .i64 a0.h] 42 (0, 0))])]) ?_ ⟨rfl, rfl, rfl, rfl, trivial⟩ ⟨rfl, trivial⟩
      obtain ⟨o0_1, eo0_1, H0⟩ := bind_some H0
      refine kw_nx (sr (oD (fA 1 Tryz.underlying42 rfl ts3 rfl rfl rfl) rfl (oD (lB 0 ts3 rfl rfl rfl) rfl (oD (sg rfl) rfl (nn (cw_seq (cw_join (ι := Int) (fun | v10 => o0_1 = .out v10) (fun | v10 => [(1, .pointer (some ⟨b1, 0, none⟩)), (6, .int .i64 v10)]) (fun | v10 => [(0, [(b1, .cells #[.slice p0_0 ((a0.l).length) c0_0, .int .i64 a0.h] 42 (0, 0))])]) ?_ ?_)))))))
      · refine cw_block (cw_loopS (ι := Nat × Int) (js := [0]) (fun x => x.1) (fun | (fuel, v10) => i_VictimOf_L1 fl a0 fuel v10 = some o0_1) (fun | (_, v10) => [(1, .pointer (some ⟨b1, 0, none⟩)), (6, .int .i64 v10)]) (fun | (_, v10) => [(0, [(b1, .cells #[.slice p0_0 ((a0.l).length) c0_0, .int .i64 a0.h] 42 (0, 0))])]) (fl, a0.h) eo0_1 ⟨rfl, rfl, trivial⟩ ⟨0, [], rfl, rfl, trivial⟩ (by decide) ?_)
        rintro ⟨fuel, v10⟩ H1
        have H1 : i_VictimOf_L1 fl a0 fuel v10 = some o0_1 := H1
        rcases fuel with _ | fuel
        · rw [i_VictimOf_L1.eq_1] at H1; cases H1
        rw [i_VictimOf_L1.eq_2] at H1
        refine CW.sub (s' := [(1, .pointer (some ⟨b1, 0, none⟩)), (6, .int .i64 v10)]) (h' := [(0, [(b1, .cells #[.slice p0_0 ((a0.l).length) c0_0, .int .i64 a0.h] 42 (0, 0))])]) ?_ ⟨rfl, rfl, trivial⟩ ⟨rfl, trivial⟩
        obtain ⟨x11, e11, H1⟩ := bind_some H1
        refine cw_seq (sr (oD (fA 0 Tryz.underlying42 rfl ts40 rfl rfl rfl) rfl (oD (lB 0 ts40 rfl rfl rfl) rfl (oD (mv rfl) rfl (oD (stp_indexAddr Tryz.underlying40 ts112 (by decide) rfl rfl rfl (Rdb.ro hr0_0) e11) rfl (oD (fA 5 Tryz.underlying112 rfl ts4 rfl rfl rfl) rfl (oD (stp_load1 ts4 rfl (Cells.el (Rdb.ro hr0_0) (by decide) e11 5 1 rfl)) rfl (nn (cw_cond rfl (fun h12 => ?_) (fun h12 => ?_))))))))))
        · have H1 := cond_t H1 h12
          obtain ⟨x13, e13, H1⟩ := bind_some H1
          obtain ⟨x14, e14, H1⟩ := bind_some H1
          exact cw_skip (kw_nx (cw_block (cw_region (oD (mv rfl) rfl (oD (stp_add rfl rfl e13) rfl (oD (fA 0 Tryz.underlying42 rfl ts40 rfl rfl rfl) rfl (oD (lB 0 ts40 rfl rfl rfl) rfl (oD (stp_len Tryz.underlying40 rfl) rfl (oD (stp_rem rfl rfl e14) rfl (oD (sg rfl) rfl (ow_nil (kw_bl_normal (kw_lqS (js := [0]) (fuel, x14) H1 (Nat.lt_succ_self _) ⟨rfl, rfl, trivial⟩ ⟨0, [], rfl, rfl, trivial⟩ (by decide))))))))))))))
        · have H1 := cond_f H1 h12
          refine cw_exit (kw_nx_exit (kw_lq_exit (kw_bl ?_)))
          have q1 := Option.some.inj H1
          subst q1
          exact kw_joinS (js := [0]) v10 rfl ⟨rfl, rfl, trivial⟩ ⟨0, [], rfl, rfl, trivial⟩ (by decide)
      · rintro v10 rfl
        refine KW.sub (s' := [(1, .pointer (some ⟨b1, 0, none⟩)), (6, .int .i64 v10)]) (h' := [(0, [(b1, .cells #[.slice p0_0 ((a0.l).length) c0_0, .int .i64 a0.h] 42 (0, 0))])]) ?_ ⟨rfl, rfl, trivial⟩ ⟨rfl, trivial⟩
        refine kw_nx (sr (oD (mv rfl) rfl (oD (sg rfl) rfl (oD (sg rfl) rfl (nn (cw_ret ?_))))))
        have q0 := Option.some.inj H0
        subst q0
        exact kw_ret Tryz.results176 (.cons (.tmp rfl) (.cons (.tmp rfl) .nil)) [] [] trivial (by decide) ⟨rfl, rfl⟩

set_option maxHeartbeats 4000000 in
set_option maxRecDepth 20000 in
theorem c_i_Cache_with (fl : Nat) (w : World) (a0 : Ca) (p0_0 : Option Addr) (n0_0 c0_0 : Nat) (a1 : Int) (a2 : Ln) (hn0_0 : n0_0 = (a0.l).length) (hr0_0 : RO w (hkeys []) (RdL p0_0 c0_0 a0.l)) (r : Ca) (H0 : i_Cache_with fl a0 a1 a2 = some r) :
    Ct Tryz.prog 178 [.agg #[.slice p0_0 n0_0 c0_0, .int .i64 a0.h], .int .i64 a1, .agg #[.bool a2.va, .int .i64 a2.tg, .int .i64 a2.pg, .int .i64 a2.fr, .int .i64 a2.ri, .bool a2.wi]] w [] (fun rv h' => ∃ (x0 : Option Addr) (y0 z0 : Nat) (C0 : Res), rv = .agg #[.slice x0 y0 z0, .int .i64 r.h] ∧ h' = [(0, C0)] ∧ y0 = (r.l).length ∧ OwnC 112 x0 z0 r.l C0) := by
  obtain rfl := hn0_0
  unfold i_Cache_with at H0
  refine ct_of_cw Tryz.func178 rfl Tryz.ntmps178 rfl (Sat.refl _ _) ?_
  refine sr (oE (stpU_box 0 rfl rfl) rfl ?_)
  rintro _ _ ⟨b1, rfl, rfl⟩
  refine oE (stpU_box 1 rfl rfl) rfl ?_
  rintro _ _ ⟨b2, rfl, rfl⟩
  refine oE (stpU_alloc 2 tz42 rfl) rfl ?_
  rintro _ _ ⟨b3, rfl, rfl⟩
  obtain ⟨x4, e4, H0⟩ := bind_some H0
  refine nn (cw_seq (rdr g_mixed [3] [0] { dst := dS [9, 10, 11, 12, 13, 14, 15, 8, 0], pre := gA [] [[], [0], [0, 1], [0, 1, 2], [], [4], rn 0 6, [], rn 0 8], ids := gA [] [[], [], [3], [], [], [], [], [4], [4]], rs := rL [[(3, 0)], [(8, 1)], [(9, 2)], [(10, 3)], [(3, 0)], [(12, 5)], [(11, 4), (13, 6)], [], [(7, 8), (14, 7)]], rh := rL [[], [(0, 0)], [], [], [], [(0, 0)], [], [], [(4, 8)]], V := fun i g => gA undef [.pointer (some ⟨b1, 0, none⟩), .slice p0_0 ((a0.l).length) c0_0, .slice ((g 2).A 0) ((x4).length) ((g 2).C 0), .slice ((g 2).A 0) ((x4).length) ((x4).length), .pointer (some ⟨b1, 1, none⟩), .int .i64 a0.h, .agg #[.slice ((g 2).A 0) ((x4).length) ((x4).length), .int .i64 a0.h], .pointer (some ⟨((g 7).C 0), 0, none⟩)] i, U := fun i g => gA [] [[], [], [(3, ((g 2).R 0))], [], [], [], [], [(4, [(((g 7).C 0), .cells #[.slice none 0 0, .int .i64 0] 42 (0, 0))])], [(4, [(((g 7).C 0), .cells #[.slice ((g 2).A 0) ((x4).length) ((x4).length), .int .i64 a0.h] 42 (0, 0))])]] i, Φ := fun i x => gA True [True, True, OwnC (α := Ln) 112 (x.A 0) (x.C 0) x4 (x.R 0)] i } ?_ ?_))
  · refine ⟨⟨⟨⟨⟨⟨⟨⟨⟨trivial, lc rfl rfl fun hs hh => stp_fieldAddr (j := 0) Tryz.underlying42 rfl ts40 rfl (sv hs 3 rfl) rfl⟩, lc rfl rfl fun hs hh => stp_load1 ts40 (sv hs 8 rfl) (Cells.box (id := 0) (hh.get 0 _ rfl) 1 rfl)⟩, ?_⟩, ?_⟩, lc rfl rfl fun hs hh => stp_fieldAddr (j := 1) Tryz.underlying42 rfl ts3 rfl (sv hs 3 rfl) rfl⟩, lc rfl rfl fun hs hh => stp_load1 ts3 (sv hs 12 rfl) (Cells.box (id := 0) (hh.get 0 _ rfl) 1 rfl)⟩, ld rfl rfl fun g hΦ s h hs hh => stp_build (cs := #[.slice ((g 2).A 0) ((x4).length) ((x4).length), .int .i64 a0.h]) (sevp_cons (sv hs 11 rfl) (sevp_cons (sv hs 13 rfl) sevp_nil)) bt42_7⟩, ?_⟩, ?_⟩
    · refine le rfl rfl (fun g hΦ s h hs hh => (stpU_call (fun i => 3 + i) cf147 (fun w hw => c_slices_Clone_Line fl w a0.l p0_0 ((a0.l).length) c0_0 rfl (RO.pass hr0_0 hw) x4 e4) (sevs_cons (sv hs 9 rfl) sevs_nil))) ?_
      rintro g _ _ ⟨_, ⟨p5, n6, c7, C8, rfl, rfl, hnn6, o8⟩, rfl⟩
      obtain rfl := hnn6
      exact ⟨⟨[p5], [c7], [C8]⟩, o8, .inr rfl, rfl⟩
    · refine le rfl rfl (fun g hΦ s h hs hh => (stpU_call (fun i => i) cf146 (fun w hw => c_clip146 w ((g 2).A 0) ((x4).length) ((g 2).C 0) (OwnC.len (hΦ 2 rfl)).1) (sevs_cons (sv hs 10 rfl) sevs_nil))) ?_
      rintro g _ _ ⟨_, ⟨rfl, rfl⟩, rfl⟩
      exact ⟨⟨[], [], []⟩, trivial, .inr rfl, rfl⟩
    · refine le rfl rfl (fun g hΦ s h hs hh => (stpU_alloc 4 tz42 rfl)) ?_
      rintro g _ _ ⟨b9, rfl, rfl⟩
      exact ⟨⟨[], [b9], []⟩, trivial, .inr rfl, rfl⟩
    · refine le rfl rfl (fun g hΦ s h hs hh => (stpU_store (id := 4) (cs' := [.slice ((g 2).A 0) ((x4).length) ((x4).length), .int .i64 a0.h]) ts42 (sv hs 7 rfl) (sv hs 14 rfl) (hh.get 4 _ rfl) rfl rfl rfl rfl)) ?_
      rintro g _ _ rfl
      exact ⟨⟨[], [], []⟩, trivial, .inl rfl, rfl⟩
  · intro g hΦ
    refine kw_gen (ι := Option Addr × Nat × Res × Nat) (((g 2).A 0), ((g 2).C 0), ((g 2).R 0), ((g 7).C 0)) (fun | (p5, c7, C8, b9) => OwnC (α := Ln) 112 p5 c7 x4 C8) (fun | (p5, c7, C8, b9) => [(1, .int .i64 a1), (5, .pointer (some ⟨b2, 0, none⟩)), (6, .pointer (some ⟨b3, 0, none⟩)), (7, .pointer (some ⟨b9, 0, none⟩))]) (fun | (p5, c7, C8, b9) => [(1, [(b2, .cells #[.bool a2.va, .int .i64 a2.tg, .int .i64 a2.pg, .int .i64 a2.fr, .int .i64 a2.ri, .bool a2.wi] 112 (0, 0))]), (2, [(b3, .cells #[.slice none 0 0, .int .i64 0] 42 (0, 0))]), (3, C8), (4, [(b9, .cells #[.slice p5 ((x4).length) ((x4).length), .int .i64 a0.h] 42 (0, 0))])]) (hΦ 2 (by decide)) ⟨rfl, rfl, rfl, rfl, trivial⟩ ⟨rfl, rfl, rfl, rfl, trivial⟩ ?_
    rintro ⟨p5, c7, C8, b9⟩ o8
    have o8 : OwnC (α := Ln) 112 p5 c7 x4 C8 := o8
    refine KW.sub (s' := [(1, .int .i64 a1), (5, .pointer (some ⟨b2, 0, none⟩)), (6, .pointer (some ⟨b3, 0, none⟩)), (7, .pointer (some ⟨b9, 0, none⟩))]) (h' := [(1, [(b2, .cells #[.bool a2.va, .int .i64 a2.tg, .int .i64 a2.pg, .int .i64 a2.fr, .int .i64 a2.ri, .bool a2.wi] 112 (0, 0))]), (2, [(b3, .cells #[.slice none 0 0, .int .i64 0] 42 (0, 0))]), (3, C8), (4, [(b9, .cells #[.slice p5 ((x4).length) ((x4).length), .int .i64 a0.h] 42 (0, 0))])]) ?_ ⟨rfl, rfl, rfl, rfl, trivial⟩ ⟨rfl, rfl, rfl, rfl, trivial⟩
    obtain ⟨x10, e10, H0⟩ := bind_some H0
    refine kw_nx (sr (oD (fA 0 Tryz.underlying42 rfl ts40 rfl rfl rfl) rfl (oD (lB 4 ts40 rfl rfl rfl) rfl (oD (mv rfl) rfl (oD (stp_loadN (us := [_, _, _, _, _, _]) ts112 rfl (Cells.box (id := 1) rfl 6 rfl)) rfl (oD (stp_indexAddr Tryz.underlying40 ts112 (by decide) rfl rfl rfl (Rdb.own (id := 3) rfl (OwnC.clip o8)) e10) rfl (oF (stpU_storeEl (id := 3) (i := 0) a2 (by decide) ts112 rfl rfl rfl (OwnC.clip o8) e10 rfl rfl rfl rfl) ?_)))))))
    rintro _ _ ⟨C11, rfl, o11⟩
    refine nn (sr (oD (stp_loadN (us := [_, _]) ts42 rfl (Cells.box (id := 4) rfl 2 rfl)) rfl (oF (stpU_store (id := 2) (cs' := [.slice p5 ((x4).length) ((x4).length), .int .i64 a0.h]) ts42 rfl rfl rfl rfl rfl rfl rfl) ?_)))
    rintro _ _ rfl
    refine nn (cw_ret ?_)
    have q0 := Option.some.inj H0
    subst q0
    exact kw_ret Tryz.results178 (.cons (.cellN (us := [_, _]) ts42 rfl (Cells.box (id := 2) rfl 2 rfl)) .nil) [(0, C11)] [3] ⟨3, [], rfl, rfl, trivial⟩ (by decide) ⟨p5, ((x4).length), ((x4).length), C11, rfl, rfl, (by simp), o11⟩

set_option maxHeartbeats 4000000 in
set_option maxRecDepth 20000 in
theorem c_i_FillLine (fl : Nat) (w : World) (a0 : Ca) (p0_0 : Option Addr) (n0_0 c0_0 : Nat) (a1 : Ln) (hn0_0 : n0_0 = (a0.l).length) (hr0_0 : RO w (hkeys []) (RdL p0_0 c0_0 a0.l)) (r : Ca × Int × Bool) (H0 : i_FillLine fl a0 a1 = some r) :
    Ct Tryz.prog 95 [.agg #[.slice p0_0 n0_0 c0_0, .int .i64 a0.h], .agg #[.bool a1.va, .int .i64 a1.tg, .int .i64 a1.pg, .int .i64 a1.fr, .int .i64 a1.ri, .bool a1.wi]] w [] (fun rv h' => ∃ (x0 : Option Addr) (y0 z0 : Nat) (C0 : Res), rv = .tuple #[.agg #[.slice x0 y0 z0, .int .i64 r.1.h], .int .i64 r.2.1, .bool r.2.2] ∧ h' = [(0, C0)] ∧ y0 = (r.1.l).length ∧ OwnC 112 x0 z0 r.1.l C0) := by
  obtain rfl := hn0_0
  unfold i_FillLine at H0
  refine ct_of_cw Tryz.func95 rfl Tryz.ntmps95 rfl (Sat.refl _ _) ?_
  refine sr (oE (stpU_box 0 rfl rfl) rfl ?_)
  rintro _ _ ⟨b1, rfl, rfl⟩
  refine oE (stpU_box 1 rfl rfl) rfl ?_
  rintro _ _ ⟨b2, rfl, rfl⟩
  refine oE (stpU_alloc 2 tz42 rfl) rfl ?_
  rintro _ _ ⟨b3, rfl, rfl⟩
  obtain ⟨x4, e4, H0⟩ := bind_some H0
  refine oD (sg rfl) rfl (oD (sg rfl) rfl (nn (sr (oD (stp_loadN (us := [_, _]) ts42 rfl (Cells.box (id := 0) rfl 2 rfl)) rfl (oE (stpU_call (fun i => 3 + i) cf176 (fun w hw => c_i_VictimOf fl w a0 p0_0 ((a0.l).length) c0_0 rfl (RO.pass hr0_0 hw) x4 e4) (sevs_cons rfl sevs_nil)) rfl ?_)))))
  rintro _ _ ⟨_, ⟨rfl, rfl⟩, rfl⟩
  obtain ⟨y5, ey5, H0⟩ := bind_some H0
  refine oD (mv rfl) rfl (oD (stp_extract rfl rfl) rfl (oD (stp_extract rfl rfl) rfl (oD (sg rfl) rfl (oD (sg rfl) rfl (nn (cw_seq (sr (oD (mv rfl) rfl (oD (stp_not rfl) rfl (oD (mv rfl) rfl (ow_cutY 4 21 y5 ?_ ?_)))))))))))
  · rcases Bool.eq_false_or_eq_true (!x4.2) with hy5 | hy5
    · have ey5 := cond_t ey5 hy5
      refine oO rfl hy5 rfl (oO rfl hy5 rfl (oO rfl hy5 rfl (oD (stp_pick_t rfl hy5 rfl) rfl ?_)))
      obtain rfl := Option.some.inj ey5
      exact ow_nil (jy 4 0)
    · have ey5 := cond_f ey5 hy5
      refine oG rfl hy5 (fA 0 Tryz.underlying112 rfl ts4 rfl rfl rfl) rfl (oG rfl hy5 (lB 1 ts4 rfl rfl rfl) rfl (oG rfl hy5 (stp_not rfl) rfl (oD (stp_pick_f rfl hy5 rfl) rfl ?_)))
      obtain rfl := Option.some.inj ey5
      exact ow_nil (jy 4 0)
  · obtain ⟨y6, ey6, H0⟩ := bind_some H0
    refine oD (mv rfl) rfl (ow_cutY 4 26 y6 ?_ ?_)
    · rcases Bool.eq_false_or_eq_true y5 with hy6 | hy6
      · have ey6 := cond_t ey6 hy6
        refine oO rfl hy6 rfl (oO rfl hy6 rfl (oO rfl hy6 rfl (oD (stp_pick_t rfl hy6 rfl) rfl ?_)))
        obtain rfl := Option.some.inj ey6
        exact ow_nil (jy 4 0)
      · have ey6 := cond_f ey6 hy6
        obtain ⟨x7, e7, ey6⟩ := bind_some ey6
        refine oG rfl hy6 (stp_loadN (us := [_, _, _, _, _, _]) ts112 rfl (Cells.box (id := 1) rfl 6 rfl)) rfl (ow_eff (.some rfl hy6) (stpU_call (fun i => 3 + i) cf177 (fun w hw => c_i_lineValid fl w a1 x7 e7) (sevs_cons rfl sevs_nil)) rfl ?_)
        rintro _ _ ⟨_, ⟨rfl, rfl⟩, rfl⟩
        refine oG rfl hy6 (stp_not rfl) rfl (oD (stp_pick_f rfl hy6 rfl) rfl ?_)
        obtain rfl := Option.some.inj ey6
        exact ow_nil (jy 4 0)
    · obtain ⟨y8, ey8, H0⟩ := bind_some H0
      refine oD (mv rfl) rfl (ow_cutY 8 35 y8 ?_ ?_)
      · rcases Bool.eq_false_or_eq_true y6 with hy8 | hy8
        · have ey8 := cond_t ey8 hy8
          refine oO rfl hy8 rfl (oO rfl hy8 rfl (oO rfl hy8 rfl (oO rfl hy8 rfl (oO rfl hy8 rfl (oO rfl hy8 rfl (oO rfl hy8 rfl (oD (stp_pick_t rfl hy8 rfl) rfl ?_)))))))
          obtain rfl := Option.some.inj ey8
          exact ow_nil (jy 8 0)
        · have ey8 := cond_f ey8 hy8
          obtain ⟨x9, e9, ey8⟩ := bind_some ey8
          refine oG rfl hy8 (stp_loadN (us := [_, _]) ts42 rfl (Cells.box (id := 0) rfl 2 rfl)) rfl (oG rfl hy8 (fA 1 Tryz.underlying112 rfl ts3 rfl rfl rfl) rfl (oG rfl hy8 (lB 1 ts3 rfl rfl rfl) rfl (oG rfl hy8 (fA 2 Tryz.underlying112 rfl ts3 rfl rfl rfl) rfl (oG rfl hy8 (lB 1 ts3 rfl rfl rfl) rfl (ow_eff (.some rfl hy8) (stpU_call (fun i => 3 + i) cf93 (fun w hw => c_i_Cache_place fl w a0 p0_0 ((a0.l).length) c0_0 a1.tg a1.pg rfl (RO.pass hr0_0 hw) x9 e9) (sevs_cons rfl (sevs_cons rfl (sevs_cons rfl sevs_nil)))) rfl ?_)))))
          rintro _ _ ⟨_, ⟨rfl, rfl⟩, rfl⟩
          refine oG rfl hy8 (stp_geq rfl rfl) rfl (oD (stp_pick_f rfl hy8 rfl) rfl ?_)
          obtain rfl := Option.some.inj ey8
          exact ow_nil (jy 8 0)
      · refine ow_nil (kw_nx (cw_cond rfl (fun h10 => ?_) (fun h10 => ?_)))
        · have H0 := cond_t H0 h10
          refine sr (oD (stp_build (cs := #[.slice none 0 0, .int .i64 0]) sevp_nil bt42_14) rfl (oF (stpU_store (id := 2) (cs' := [.slice none 0 0, .int .i64 0]) ts42 rfl rfl rfl rfl rfl rfl rfl) ?_))
          rintro _ _ rfl
          refine oD (sg rfl) rfl (oD (sg rfl) rfl (nn (cw_ret (kw_nx_ret (kw_addNil 3 ?_)))))
          have q0 := Option.some.inj H0
          subst q0
          exact kw_ret Tryz.results95 (.cons (.cellN (us := [_, _]) ts42 rfl (Cells.box (id := 2) rfl 2 rfl)) (.cons (.tmp rfl) (.cons (.tmp rfl) .nil))) [(0, [])] [3] ⟨3, [], rfl, rfl, trivial⟩ (by decide) ⟨none, 0, 0, [], rfl, rfl, rfl, (OwnC.nil _ _)⟩
        · have H0 := cond_f H0 h10
          obtain ⟨x11, e11, H0⟩ := bind_some H0
          refine cw_skip (kw_nx (sr (oD (stp_loadN (us := [_, _]) ts42 rfl (Cells.box (id := 0) rfl 2 rfl)) rfl (oD (mv rfl) rfl (oD (stp_loadN (us := [_, _, _, _, _, _]) ts112 rfl (Cells.box (id := 1) rfl 6 rfl)) rfl (oE (stpU_call (fun i => 4 + i) cf178 (fun w hw => c_i_Cache_with fl w a0 p0_0 ((a0.l).length) c0_0 x4.1 a1 rfl (RO.pass hr0_0 hw) x11 e11) (sevs_cons rfl (sevs_cons rfl (sevs_cons rfl sevs_nil)))) rfl ?_))))))
          rintro _ _ ⟨_, ⟨p12, n13, c14, C15, rfl, rfl, hnn13, o15⟩, rfl⟩
          obtain rfl := hnn13
          refine oE (stpU_alloc 5 tz42 rfl) rfl ?_
          rintro _ _ ⟨b16, rfl, rfl⟩
          refine oF (stpU_store (id := 5) (cs' := [.slice p12 ((x11.l).length) c14, .int .i64 x11.h]) ts42 rfl rfl rfl rfl rfl rfl rfl) ?_
          rintro _ _ rfl
          obtain ⟨x17, e17, H0⟩ := bind_some H0
          refine nn (cw_seq (sr (oD (fA 0 Tryz.underlying42 rfl ts40 rfl rfl rfl) rfl (oD (lB 0 ts40 rfl rfl rfl) rfl (oD (mv rfl) rfl (oD (stp_indexAddr Tryz.underlying40 ts112 (by decide) rfl rfl rfl (Rdb.ro hr0_0) e17) rfl (oD (fA 0 Tryz.underlying112 rfl ts4 rfl rfl rfl) rfl (oD (stp_load1 ts4 rfl (Cells.el (Rdb.ro hr0_0) (by decide) e17 0 1 rfl)) rfl (nn (cw_cond rfl (fun h18 => ?_) (fun h18 => ?_)))))))))))
          · have H0 := cond_t H0 h18
            obtain ⟨x19, e19, H0⟩ := bind_some H0
            obtain ⟨x20, e20, H0⟩ := bind_some H0
            refine cw_region (oD (mv rfl) rfl (oD (stp_add rfl rfl e19) rfl (oD (fA 0 Tryz.underlying42 rfl ts40 rfl rfl rfl) rfl (oD (lB 0 ts40 rfl rfl rfl) rfl (oD (stp_len Tryz.underlying40 rfl) rfl (oD (stp_rem rfl rfl e20) rfl (oD (fA 1 Tryz.underlying42 rfl ts3 rfl rfl rfl) rfl (oF (stpU_store (id := 5) (cs' := [.slice p12 ((x11.l).length) c14, .int .i64 x20]) ts3 rfl rfl rfl rfl rfl rfl rfl) ?_))))))))
            rintro _ _ rfl
            obtain ⟨x21, e21, H0⟩ := bind_some H0
            refine nn (cw_seq (sr (oD (stp_loadN (us := [_, _]) ts42 rfl (Cells.box (id := 5) rfl 2 rfl)) rfl (oE (stpU_call (fun i => 6 + i) cf139 (fun w hw => c_i_CacheValid fl w (⟨x11.l, x20⟩ : Ca) p12 ((x11.l).length) c14 rfl (OwnC.pass (id := 4) rfl o15 hw) x21 e21) (sevs_cons rfl sevs_nil)) rfl ?_))))
            rintro _ _ ⟨_, ⟨rfl, rfl⟩, rfl⟩
            refine oD (stp_not rfl) rfl (nn (cw_cond rfl (fun h22 => ?_) (fun h22 => ?_)))
            · have H0 := cond_t H0 h22
              refine sr (oD (stp_build (cs := #[.slice none 0 0, .int .i64 0]) sevp_nil bt42_14) rfl (oF (stpU_store (id := 2) (cs' := [.slice none 0 0, .int .i64 0]) ts42 rfl rfl rfl rfl rfl rfl rfl) ?_))
              rintro _ _ rfl
              refine oD (sg rfl) rfl (oD (sg rfl) rfl (nn (cw_ret (kw_nx_ret (kw_addNil 6 ?_)))))
              have q0 := Option.some.inj H0
              subst q0
              exact kw_ret Tryz.results95 (.cons (.cellN (us := [_, _]) ts42 rfl (Cells.box (id := 2) rfl 2 rfl)) (.cons (.tmp rfl) (.cons (.tmp rfl) .nil))) [(0, [])] [6] ⟨6, [], rfl, rfl, trivial⟩ (by decide) ⟨none, 0, 0, [], rfl, rfl, rfl, (OwnC.nil _ _)⟩
            · have H0 := cond_f H0 h22
              refine cw_skip (kw_nx (sr (oD (stp_loadN (us := [_, _]) ts42 rfl (Cells.box (id := 5) rfl 2 rfl)) rfl (oD (mv rfl) rfl (oF (stpU_store (id := 2) (cs' := [.slice p12 ((x11.l).length) c14, .int .i64 x20]) ts42 rfl rfl rfl rfl rfl rfl rfl) ?_)))))
              rintro _ _ rfl
              refine oD (sg rfl) rfl (oD (sg rfl) rfl (nn (cw_ret ?_)))
              have q0 := Option.some.inj H0
              subst q0
              exact kw_ret Tryz.results95 (.cons (.cellN (us := [_, _]) ts42 rfl (Cells.box (id := 2) rfl 2 rfl)) (.cons (.tmp rfl) (.cons (.tmp rfl) .nil))) [(0, C15)] [4] ⟨4, [], rfl, rfl, trivial⟩ (by decide) ⟨p12, ((x11.l).length), c14, C15, rfl, rfl, rfl, o15⟩
          · have H0 := cond_f H0 h18
            obtain ⟨x23, e23, H0⟩ := bind_some H0
            refine cw_skip (kw_nx (cw_seq (sr (oD (stp_loadN (us := [_, _]) ts42 rfl (Cells.box (id := 5) rfl 2 rfl)) rfl (oE (stpU_call (fun i => 7 + i) cf139 (fun w hw => c_i_CacheValid fl w x11 p12 ((x11.l).length) c14 rfl (OwnC.pass (id := 4) rfl o15 hw) x23 e23) (sevs_cons rfl sevs_nil)) rfl ?_)))))
            rintro _ _ ⟨_, ⟨rfl, rfl⟩, rfl⟩
            refine oD (stp_not rfl) rfl (nn (cw_cond rfl (fun h24 => ?_) (fun h24 => ?_)))
            · have H0 := cond_t H0 h24
              refine sr (oD (stp_build (cs := #[.slice none 0 0, .int .i64 0]) sevp_nil bt42_14) rfl (oF (stpU_store (id := 2) (cs' := [.slice none 0 0, .int .i64 0]) ts42 rfl rfl rfl rfl rfl rfl rfl) ?_))
              rintro _ _ rfl
              refine oD (sg rfl) rfl (oD (sg rfl) rfl (nn (cw_ret (kw_nx_ret (kw_addNil 7 ?_)))))
              have q0 := Option.some.inj H0
              subst q0
              exact kw_ret Tryz.results95 (.cons (.cellN (us := [_, _]) ts42 rfl (Cells.box (id := 2) rfl 2 rfl)) (.cons (.tmp rfl) (.cons (.tmp rfl) .nil))) [(0, [])] [7] ⟨7, [], rfl, rfl, trivial⟩ (by decide) ⟨none, 0, 0, [], rfl, rfl, rfl, (OwnC.nil _ _)⟩
            · have H0 := cond_f H0 h24
              refine cw_skip (kw_nx (sr (oD (stp_loadN (us := [_, _]) ts42 rfl (Cells.box (id := 5) rfl 2 rfl)) rfl (oD (mv rfl) rfl (oF (stpU_store (id := 2) (cs' := [.slice p12 ((x11.l).length) c14, .int .i64 x11.h]) ts42 rfl rfl rfl rfl rfl rfl rfl) ?_)))))
              rintro _ _ rfl
              refine oD (sg rfl) rfl (oD (sg rfl) rfl (nn (cw_ret ?_)))
              have q0 := Option.some.inj H0
              subst q0
              exact kw_ret Tryz.results95 (.cons (.cellN (us := [_, _]) ts42 rfl (Cells.box (id := 2) rfl 2 rfl)) (.cons (.tmp rfl) (.cons (.tmp rfl) .nil))) [(0, C15)] [4] ⟨4, [], rfl, rfl, trivial⟩ (by decide) ⟨p12, ((x11.l).length), c14, C15, rfl, rfl, rfl, o15⟩

set_option maxHeartbeats 4000000 in
set_option maxRecDepth 20000 in
theorem c_i_TouchPage (fl : Nat) (w : World) (a0 : Mc) (p0_0 : Option Addr) (n0_0 c0_0 : Nat) (p0_1 : Option Addr) (n0_1 c0_1 : Nat) (p0_2 : Option Addr) (n0_2 c0_2 : Nat) (p0_3 : Option Addr) (n0_3 c0_3 : Nat) (a1 : Int) (a2 : Int) (hn0_0 : n0_0 = (a0.t.b).length) (hr0_0 : RO w (hkeys []) (RdL p0_0 c0_0 a0.t.b)) (hn0_1 : n0_1 = (a0.t.f).length) (hr0_1 : RO w (hkeys []) (RdL p0_1 c0_1 a0.t.f)) (hn0_2 : n0_2 = (a0.c.l).length) (hr0_2 : RO w (hkeys []) (RdL p0_2 c0_2 a0.c.l)) (hn0_3 : n0_3 = (a0.g.o).length) (hr0_3 : RO w (hkeys []) (RdL p0_3 c0_3 a0.g.o)) (hg : RO w (hkeys []) (fun w' => w'.rangeAt 0 0 [.bool false, .int .i64 0, .int .i64 0, .int .i64 0, .int .i64 (-1)])) (r : Mc × Int × Int × Bool) (H0 : i_TouchPage fl a0 a1 a2 = some r) :
    Ct Tryz.prog 29 [.agg #[.slice p0_0 n0_0 c0_0, .slice p0_1 n0_1 c0_1, .slice p0_2 n0_2 c0_2, .int .i64 a0.c.h, .int .i64 a0.g.c, .int .i64 a0.g.n, .int .i64 a0.g.r, .slice p0_3 n0_3 c0_3, .int .i64 a0.s], .int .i64 a1, .int .i64 a2] w [] (fun rv h' => ∃ (x0 : Option Addr) (y0 z0 : Nat) (C0 : Res) (x1 : Option Addr) (y1 z1 : Nat) (C1 : Res) (x2 : Option Addr) (y2 z2 : Nat) (C2 : Res) (x3 : Option Addr) (y3 z3 : Nat) (C3 : Res), rv = .tuple #[.agg #[.slice x0 y0 z0, .slice x1 y1 z1, .slice x2 y2 z2, .int .i64 r.1.c.h, .int .i64 r.1.g.c, .int .i64 r.1.g.n, .int .i64 r.1.g.r, .slice x3 y3 z3, .int .i64 r.1.s], .int .i64 r.2.1, .int .i64 r.2.2.1, .bool r.2.2.2] ∧ h' = [(0, C0), (1, C1), (2, C2), (3, C3)] ∧ y0 = (r.1.t.b).length ∧ OwnC 3 x0 z0 r.1.t.b C0 ∧ y1 = (r.1.t.f).length ∧ OwnC 127 x1 z1 r.1.t.f C1 ∧ y2 = (r.1.c.l).length ∧ OwnC 112 x2 z2 r.1.c.l C2 ∧ y3 = (r.1.g.o).length ∧ OwnC 148 x3 z3 r.1.g.o C3) := by
  obtain rfl := hn0_0
  obtain rfl := hn0_1
  obtain rfl := hn0_2
  obtain rfl := hn0_3
  unfold i_TouchPage at H0
  refine ct_of_cw Tryz.func29 rfl Tryz.ntmps29 rfl (Sat.refl _ _) ?_
  refine sr (oE (stpU_box 0 rfl rfl) rfl ?_)
  rintro _ _ ⟨b1, rfl, rfl⟩
  refine oE (stpU_alloc 1 tz47 rfl) rfl ?_
  rintro _ _ ⟨b2, rfl, rfl⟩
  obtain ⟨x3, e3, H0⟩ := bind_some H0
  refine oD (sg rfl) rfl (oD (sg rfl) rfl (oD (sg rfl) rfl (nn (cw_seq (sr (oD (stp_loadN (us := [_, _, _, _, _, _, _, _, _]) ts47 rfl (Cells.box (id := 0) rfl 9 rfl)) rfl (oE (stpU_call (fun i => 2 + i) cf60 (fun w hw => c_i_MachineValid fl w a0 p0_0 ((a0.t.b).length) c0_0 p0_1 ((a0.t.f).length) c0_1 p0_2 ((a0.c.l).length) c0_2 p0_3 ((a0.g.o).length) c0_3 rfl (RO.pass hr0_0 hw) rfl (RO.pass hr0_1 hw) rfl (RO.pass hr0_2 hw) rfl (RO.pass hr0_3 hw) (RO.pass hg hw) x3 e3) (sevs_cons rfl sevs_nil)) rfl ?_)))))))
  rintro _ _ ⟨_, ⟨rfl, rfl⟩, rfl⟩
  obtain ⟨y4, ey4, H0⟩ := bind_some H0
  refine oD (stp_not rfl) rfl (oD (mv rfl) rfl (ow_cutY 4 27 y4 ?_ ?_))
  · rcases Bool.eq_false_or_eq_true (!x3) with hy4 | hy4
    · have ey4 := cond_t ey4 hy4
      refine oO rfl hy4 rfl (oO rfl hy4 rfl (oO rfl hy4 rfl (oD (stp_pick_t rfl hy4 rfl) rfl ?_)))
      obtain rfl := Option.some.inj ey4
      exact ow_nil (jy 4 0)
    · have ey4 := cond_f ey4 hy4
      obtain ⟨x5, e5, ey4⟩ := bind_some ey4
      refine oG rfl hy4 (mv rfl) rfl (ow_eff (.some rfl hy4) (stpU_call (fun i => 2 + i) cf90 (fun w hw => c_i_within fl w a1 256 x5 e5) (sevs_cons rfl (sevs_cons rfl sevs_nil))) rfl ?_)
      rintro _ _ ⟨_, ⟨rfl, rfl⟩, rfl⟩
      refine oG rfl hy4 (stp_not rfl) rfl (oD (stp_pick_f rfl hy4 rfl) rfl ?_)
      obtain rfl := Option.some.inj ey4
      exact ow_nil (jy 4 0)
  · obtain ⟨y6, ey6, H0⟩ := bind_some H0
    refine oD (mv rfl) rfl (ow_cutY 4 32 y6 ?_ ?_)
    · rcases Bool.eq_false_or_eq_true y4 with hy6 | hy6
      · have ey6 := cond_t ey6 hy6
        refine oO rfl hy6 rfl (oO rfl hy6 rfl (oO rfl hy6 rfl (oD (stp_pick_t rfl hy6 rfl) rfl ?_)))
        obtain rfl := Option.some.inj ey6
        exact ow_nil (jy 4 0)
      · have ey6 := cond_f ey6 hy6
        obtain ⟨x7, e7, ey6⟩ := bind_some ey6
        refine oG rfl hy6 (mv rfl) rfl (ow_eff (.some rfl hy6) (stpU_call (fun i => 2 + i) cf91 (fun w hw => c_i_RightsValid fl w a2 x7 e7) (sevs_cons rfl sevs_nil)) rfl ?_)
        rintro _ _ ⟨_, ⟨rfl, rfl⟩, rfl⟩
        refine oG rfl hy6 (stp_not rfl) rfl (oD (stp_pick_f rfl hy6 rfl) rfl ?_)
        obtain rfl := Option.some.inj ey6
        exact ow_nil (jy 4 0)
    · refine ow_nil (kw_nx (cw_cond rfl (fun h8 => ?_) (fun h8 => ?_)))
      · have H0 := cond_t H0 h8
        refine sr (oD (stp_build (cs := #[.slice none 0 0, .slice none 0 0, .slice none 0 0, .int .i64 0, .int .i64 0, .int .i64 0, .int .i64 0, .slice none 0 0, .int .i64 0]) sevp_nil bt47_3) rfl (oF (stpU_store (id := 1) (cs' := [.slice none 0 0, .slice none 0 0, .slice none 0 0, .int .i64 0, .int .i64 0, .int .i64 0, .int .i64 0, .slice none 0 0, .int .i64 0]) ts47 rfl rfl rfl rfl rfl rfl rfl) ?_))
        rintro _ _ rfl
        refine oD (sg rfl) rfl (oD (sg rfl) rfl (oD (sg rfl) rfl (nn (cw_ret (kw_nx_ret (kw_addNil 2 (kw_addNil 3 (kw_addNil 4 (kw_addNil 5 ?_)))))))))
        have q0 := Option.some.inj H0
        subst q0
        exact kw_ret Tryz.results29 (.cons (.cellN (us := [_, _, _, _, _, _, _, _, _]) ts47 rfl (Cells.box (id := 1) rfl 9 rfl)) (.cons (.tmp rfl) (.cons (.tmp rfl) (.cons (.tmp rfl) .nil)))) [(0, []), (1, []), (2, []), (3, [])] [2, 3, 4, 5] ⟨2, [3, 4, 5], rfl, rfl, 3, [4, 5], rfl, rfl, 4, [5], rfl, rfl, 5, [], rfl, rfl, trivial⟩ (by decide) ⟨none, 0, 0, [], none, 0, 0, [], none, 0, 0, [], none, 0, 0, [], rfl, rfl, rfl, (OwnC.nil _ _), rfl, (OwnC.nil _ _), rfl, (OwnC.nil _ _), rfl, (OwnC.nil _ _)⟩
      · have H0 := cond_f H0 h8
        obtain ⟨x9, e9, H0⟩ := bind_some H0
        refine cw_skip (kw_nx (sr (oD (stp_loadN (us := [_, _, _, _, _, _, _, _, _]) ts47 rfl (Cells.box (id := 0) rfl 9 rfl)) rfl (oE (stpU_call (fun i => 6 + i) cf63 (fun w hw => c_i_Machine_clone fl w a0 p0_0 ((a0.t.b).length) c0_0 p0_1 ((a0.t.f).length) c0_1 p0_2 ((a0.c.l).length) c0_2 p0_3 ((a0.g.o).length) c0_3 rfl (RO.pass hr0_0 hw) rfl (RO.pass hr0_1 hw) rfl (RO.pass hr0_2 hw) rfl (RO.pass hr0_3 hw) x9 e9) (sevs_cons rfl sevs_nil)) rfl ?_))))
        rintro _ _ ⟨_, ⟨p10, n11, c12, C13, p14, n15, c16, C17, p18, n19, c20, C21, p22, n23, c24, C25, rfl, rfl, hnn11, o13, hnn15, o17, hnn19, o21, hnn23, o25⟩, rfl⟩
        obtain rfl := hnn11
        obtain rfl := hnn15
        obtain rfl := hnn19
        obtain rfl := hnn23
        refine oE (stpU_alloc 10 tz47 rfl) rfl ?_
        rintro _ _ ⟨b26, rfl, rfl⟩
        refine oF (stpU_store (id := 10) (cs' := [.slice p10 ((x9.t.b).length) c12, .slice p14 ((x9.t.f).length) c16, .slice p18 ((x9.c.l).length) c20, .int .i64 x9.c.h, .int .i64 x9.g.c, .int .i64 x9.g.n, .int .i64 x9.g.r, .slice p22 ((x9.g.o).length) c24, .int .i64 x9.s]) ts47 rfl rfl rfl rfl rfl rfl rfl) ?_
        rintro _ _ rfl
        obtain ⟨x27, e27, H0⟩ := bind_some H0
        refine nn (sr (oD (stp_loadN (us := [_, _, _, _, _, _, _, _, _]) ts47 rfl (Cells.box (id := 0) rfl 9 rfl)) rfl (oD (fA 8 Tryz.underlying47 rfl ts3 rfl rfl rfl) rfl (oD (lB 0 ts3 rfl rfl rfl) rfl (oD (mv rfl) rfl (oE (stpU_call (fun i => 11 + i) cf92 (fun w hw => c_i_Machine_tagFor fl w a0 p0_0 ((a0.t.b).length) c0_0 p0_1 ((a0.t.f).length) c0_1 p0_2 ((a0.c.l).length) c0_2 p0_3 ((a0.g.o).length) c0_3 a0.s a1 rfl (RO.pass hr0_0 hw) rfl (RO.pass hr0_1 hw) rfl (RO.pass hr0_2 hw) rfl (RO.pass hr0_3 hw) x27 e27) (sevs_cons rfl (sevs_cons rfl (sevs_cons rfl sevs_nil)))) rfl ?_))))))
        rintro _ _ ⟨_, ⟨rfl, rfl⟩, rfl⟩
        refine oD (mv rfl) rfl (oD (stp_extract rfl rfl) rfl (oD (stp_extract rfl rfl) rfl (oD (sg rfl) rfl (oD (sg rfl) rfl (nn (sr (oD (sg rfl) rfl (oD (sg rfl) rfl (oD (sg rfl) rfl (nn (cw_seq (sr (oD (fA 2 Tryz.underlying47 rfl ts42 rfl rfl rfl) rfl ?_)))))))))))))
        obtain ⟨x28, e28, H0⟩ := bind_some H0
        refine oD (stp_loadN (us := [_, _]) ts42 rfl (Cells.box (id := 0) rfl 2 rfl)) rfl (oD (mv rfl) rfl (oD (mv rfl) rfl (oE (stpU_call (fun i => 11 + i) cf93 (fun w hw => c_i_Cache_place fl w a0.c p0_2 ((a0.c.l).length) c0_2 x27.1 a1 rfl (RO.pass hr0_2 hw) x28 e28) (sevs_cons rfl (sevs_cons rfl (sevs_cons rfl sevs_nil)))) rfl ?_)))
        rintro _ _ ⟨_, ⟨rfl, rfl⟩, rfl⟩
        refine oD (sg rfl) rfl (nn (sr (oD (mv rfl) rfl (oD (stp_geq rfl rfl) rfl (nn (cw_cond rfl (fun h29 => ?_) (fun h29 => ?_)))))))
        · have H0 := cond_t H0 h29
          obtain ⟨x30, e30, H0⟩ := bind_some H0
          refine rdr g_mixed [3, 16] [0] { dst := dS [52, 53, 54, 55, 56, 57, 58, 59, 60, 61, 62, 63, 64, 65, 15, 16], pre := gA [] [[], [0], [0, 1], [], rn 0 4, rn 0 5, rn 0 6, [], [7], [7, 8], [], rn 7 4, rn 7 5, rn 7 6, rn 0 7, rn 0 15], ids := fun _ => [], rs := rL [[(3, 0)], [(51, 1)], [(52, 2)], [(16, 0)], [(53, 3), (54, 4)], [(55, 5)], [(56, 6)], [(3, 0)], [(58, 8)], [(59, 9)], [(16, 0)], [(60, 10), (61, 11)], [(62, 12)], [(63, 13)], [(57, 7)], [(64, 14)]], rh := rL [[], [], [(0, 0)], [], [], [], [], [], [], [(0, 0)]], V := fun i g => gA undef [.pointer (some ⟨b1, 2, none⟩), .pointer (some ⟨b1, 2, none⟩), .slice p0_2 ((a0.c.l).length) c0_2, .int .i64 x28, .pointer (some ⟨eB p0_2, eO p0_2 + Int.toNat x28 * Enc.sz Ln + 0, none⟩), .pointer (some ⟨eB p0_2, eO p0_2 + Int.toNat x28 * Enc.sz Ln + 3, none⟩), .int .i64 x30.fr, .pointer (some ⟨b1, 2, none⟩), .pointer (some ⟨b1, 2, none⟩), .slice p0_2 ((a0.c.l).length) c0_2, .int .i64 x28, .pointer (some ⟨eB p0_2, eO p0_2 + Int.toNat x28 * Enc.sz Ln + 0, none⟩), .pointer (some ⟨eB p0_2, eO p0_2 + Int.toNat x28 * Enc.sz Ln + 4, none⟩), .int .i64 x30.ri, .int .i64 x30.fr, .int .i64 x30.ri] i, U := fun _ _ => [], Φ := fun _ _ => True } ?_ ?_
          · exact ⟨⟨⟨⟨⟨⟨⟨⟨⟨⟨⟨⟨⟨⟨⟨⟨trivial, lc rfl rfl fun hs hh => stp_fieldAddr (j := 2) Tryz.underlying47 rfl ts42 rfl (sv hs 3 rfl) rfl⟩, lc rfl rfl fun hs hh => stp_fieldAddr (j := 0) Tryz.underlying42 rfl ts40 rfl (sv hs 51 rfl) rfl⟩, lc rfl rfl fun hs hh => stp_load1 ts40 (sv hs 52 rfl) (Cells.box (id := 0) (hh.get 0 _ rfl) 1 rfl)⟩, lc rfl rfl fun hs hh => stp_move (sv hs 16 rfl)⟩, lc rfl rfl fun hs hh => stp_indexAddr Tryz.underlying40 ts112 (by decide) (sv hs 53 rfl) rfl (sv hs 54 rfl) (Rdb.ro hr0_2) e30⟩, lc rfl rfl fun hs hh => stp_fieldAddr (j := 3) Tryz.underlying112 rfl ts3 rfl (sv hs 55 rfl) rfl⟩, lc rfl rfl fun hs hh => stp_load1 ts3 (sv hs 56 rfl) (Cells.el (Rdb.ro hr0_2) (by decide) e30 3 1 rfl)⟩, lc rfl rfl fun hs hh => stp_fieldAddr (j := 2) Tryz.underlying47 rfl ts42 rfl (sv hs 3 rfl) rfl⟩, lc rfl rfl fun hs hh => stp_fieldAddr (j := 0) Tryz.underlying42 rfl ts40 rfl (sv hs 58 rfl) rfl⟩, lc rfl rfl fun hs hh => stp_load1 ts40 (sv hs 59 rfl) (Cells.box (id := 0) (hh.get 0 _ rfl) 1 rfl)⟩, lc rfl rfl fun hs hh => stp_move (sv hs 16 rfl)⟩, lc rfl rfl fun hs hh => stp_indexAddr Tryz.underlying40 ts112 (by decide) (sv hs 60 rfl) rfl (sv hs 61 rfl) (Rdb.ro hr0_2) e30⟩, lc rfl rfl fun hs hh => stp_fieldAddr (j := 4) Tryz.underlying112 rfl ts3 rfl (sv hs 62 rfl) rfl⟩, lc rfl rfl fun hs hh => stp_load1 ts3 (sv hs 63 rfl) (Cells.el (Rdb.ro hr0_2) (by decide) e30 4 1 rfl)⟩, lc rfl rfl fun hs hh => stp_assign (sv hs 57 rfl)⟩, lc rfl rfl fun hs hh => stp_assign (sv hs 64 rfl)⟩
          · intro g hΦ
            refine KW.sub (s' := [(2, .int .i64 a2), (6, .pointer (some ⟨b2, 0, none⟩)), (10, .pointer (some ⟨b26, 0, none⟩)), (13, .int .i64 1), (14, .int .i64 x30.fr), (15, .int .i64 x30.ri)]) (h' := [(1, [(b2, .cells #[.slice none 0 0, .slice none 0 0, .slice none 0 0, .int .i64 0, .int .i64 0, .int .i64 0, .int .i64 0, .slice none 0 0, .int .i64 0] 47 (0, 0))]), (6, C13), (7, C17), (8, C21), (9, C25), (10, [(b26, .cells #[.slice p10 ((x9.t.b).length) c12, .slice p14 ((x9.t.f).length) c16, .slice p18 ((x9.c.l).length) c20, .int .i64 x9.c.h, .int .i64 x9.g.c, .int .i64 x9.g.n, .int .i64 x9.g.r, .slice p22 ((x9.g.o).length) c24, .int .i64 x9.s] 47 (0, 0))])]) ?_ ⟨rfl, rfl, rfl, rfl, rfl, rfl, trivial⟩ ⟨rfl, rfl, rfl, rfl, rfl, rfl, trivial⟩
            obtain ⟨x31, e31, H0⟩ := bind_some H0
            refine kw_nx (cw_seq (sr (oD (mv rfl) rfl (oD (mv rfl) rfl (oE (stpU_call (fun i => 11 + i) cf96 (fun w hw => c_i_Allows fl w x30.ri a2 x31 e31) (sevs_cons rfl (sevs_cons rfl sevs_nil))) rfl ?_)))))
            rintro _ _ ⟨_, ⟨rfl, rfl⟩, rfl⟩
            refine oD (stp_not rfl) rfl (nn (cw_cond rfl (fun h32 => ?_) (fun h32 => ?_)))
            · have H0 := cond_t H0 h32
              refine cw_region (oD (sg rfl) rfl (nn (sr (oD (stp_loadN (us := [_, _, _, _, _, _, _, _, _]) ts47 rfl (Cells.box (id := 10) rfl 9 rfl)) rfl (oD (mv rfl) rfl (oD (mv rfl) rfl (oF (stpU_store (id := 1) (cs' := [.slice p10 ((x9.t.b).length) c12, .slice p14 ((x9.t.f).length) c16, .slice p18 ((x9.c.l).length) c20, .int .i64 x9.c.h, .int .i64 x9.g.c, .int .i64 x9.g.n, .int .i64 x9.g.r, .slice p22 ((x9.g.o).length) c24, .int .i64 x9.s]) ts47 rfl rfl rfl rfl rfl rfl rfl) ?_)))))))
              rintro _ _ rfl
              refine oD (sg rfl) rfl (oD (sg rfl) rfl (oD (sg rfl) rfl (nn (cw_ret ?_))))
              have q0 := Option.some.inj H0
              subst q0
              exact kw_ret Tryz.results29 (.cons (.cellN (us := [_, _, _, _, _, _, _, _, _]) ts47 rfl (Cells.box (id := 1) rfl 9 rfl)) (.cons (.tmp rfl) (.cons (.tmp rfl) (.cons (.tmp rfl) .nil)))) [(0, C13), (1, C17), (2, C21), (3, C25)] [6, 7, 8, 9] ⟨6, [7, 8, 9], rfl, rfl, 7, [8, 9], rfl, rfl, 8, [9], rfl, rfl, 9, [], rfl, rfl, trivial⟩ (by decide) ⟨p10, ((x9.t.b).length), c12, C13, p14, ((x9.t.f).length), c16, C17, p18, ((x9.c.l).length), c20, C21, p22, ((x9.g.o).length), c24, C25, rfl, rfl, rfl, o13, rfl, o17, rfl, o21, rfl, o25⟩
            · have H0 := cond_f H0 h32
              refine cw_skip (kw_nx (sr (oD (stp_loadN (us := [_, _, _, _, _, _, _, _, _]) ts47 rfl (Cells.box (id := 10) rfl 9 rfl)) rfl (oD (mv rfl) rfl (oD (mv rfl) rfl (oF (stpU_store (id := 1) (cs' := [.slice p10 ((x9.t.b).length) c12, .slice p14 ((x9.t.f).length) c16, .slice p18 ((x9.c.l).length) c20, .int .i64 x9.c.h, .int .i64 x9.g.c, .int .i64 x9.g.n, .int .i64 x9.g.r, .slice p22 ((x9.g.o).length) c24, .int .i64 x9.s]) ts47 rfl rfl rfl rfl rfl rfl rfl) ?_))))))
              rintro _ _ rfl
              refine oD (sg rfl) rfl (oD (sg rfl) rfl (oD (sg rfl) rfl (nn (cw_ret ?_))))
              have q0 := Option.some.inj H0
              subst q0
              exact kw_ret Tryz.results29 (.cons (.cellN (us := [_, _, _, _, _, _, _, _, _]) ts47 rfl (Cells.box (id := 1) rfl 9 rfl)) (.cons (.tmp rfl) (.cons (.tmp rfl) (.cons (.tmp rfl) .nil)))) [(0, C13), (1, C17), (2, C21), (3, C25)] [6, 7, 8, 9] ⟨6, [7, 8, 9], rfl, rfl, 7, [8, 9], rfl, rfl, 8, [9], rfl, rfl, 9, [], rfl, rfl, trivial⟩ (by decide) ⟨p10, ((x9.t.b).length), c12, C13, p14, ((x9.t.f).length), c16, C17, p18, ((x9.c.l).length), c20, C21, p22, ((x9.g.o).length), c24, C25, rfl, rfl, rfl, o13, rfl, o17, rfl, o21, rfl, o25⟩
        · have H0 := cond_f H0 h29
          obtain ⟨x33, e33, H0⟩ := bind_some H0
          obtain ⟨x34, e34, H0⟩ := bind_some H0
          refine cw_seq (rdr g_mixed [1, 3] [0] { dst := dS [66, 67, 68, 69, 70, 71, 72, 15], pre := gA [] [[], [0], [], [2], [], [2, 3, 4], rn 0 6, rn 0 7], ids := fun _ => [], rs := rL [[(3, 0)], [(65, 1)], [(3, 0)], [(67, 3)], [(1, 0)], [(68, 4), (69, 5)], [(66, 2), (70, 6)], [(71, 7)]], rh := rL [[], [(0, 0)], [], [(0, 0)]], V := fun i g => gA undef [.pointer (some ⟨b1, 0, none⟩), .agg #[.slice p0_0 ((a0.t.b).length) c0_0, .slice p0_1 ((a0.t.f).length) c0_1], .pointer (some ⟨b1, 8, none⟩), .int .i64 a0.s, .int .i64 a1, .agg #[.int .i64 x33.s, .int .i64 x33.p], .int .i64 x34, .int .i64 x34] i, U := fun _ _ => [], Φ := fun _ _ => True } ?_ ?_)
          · refine ⟨⟨⟨⟨⟨⟨⟨⟨trivial, lc rfl rfl fun hs hh => stp_fieldAddr (j := 0) Tryz.underlying47 rfl ts39 rfl (sv hs 3 rfl) rfl⟩, lc rfl rfl fun hs hh => stp_loadN (us := [_, _]) ts39 (sv hs 65 rfl) (Cells.box (id := 0) (hh.get 0 _ rfl) 2 rfl)⟩, lc rfl rfl fun hs hh => stp_fieldAddr (j := 8) Tryz.underlying47 rfl ts3 rfl (sv hs 3 rfl) rfl⟩, lc rfl rfl fun hs hh => stp_load1 ts3 (sv hs 67 rfl) (Cells.box (id := 0) (hh.get 0 _ rfl) 1 rfl)⟩, lc rfl rfl fun hs hh => stp_move (sv hs 1 rfl)⟩, ?_⟩, ?_⟩, lc rfl rfl fun hs hh => stp_assign (sv hs 71 rfl)⟩
            · refine le rfl rfl (fun g hΦ s h hs hh => (stpU_call (fun i => 11 + i) cf61 (fun w hw => c_i_KeyFor fl w a0.s a1 x33 e33) (sevs_cons (sv hs 68 rfl) (sevs_cons (sv hs 69 rfl) sevs_nil)))) ?_
              rintro g _ _ ⟨_, ⟨rfl, rfl⟩, rfl⟩
              exact ⟨⟨[], [], []⟩, trivial, .inr rfl, rfl⟩
            · refine le rfl rfl (fun g hΦ s h hs hh => (stpU_call (fun i => 11 + i) cf94 (fun w hw => c_i_Table_find fl w a0.t p0_0 ((a0.t.b).length) c0_0 p0_1 ((a0.t.f).length) c0_1 x33 rfl (RO.pass hr0_0 hw) rfl (RO.pass hr0_1 hw) x34 e34) (sevs_cons (sv hs 66 rfl) (sevs_cons (sv hs 70 rfl) sevs_nil)))) ?_
              rintro g _ _ ⟨_, ⟨rfl, rfl⟩, rfl⟩
              exact ⟨⟨[], [], []⟩, trivial, .inr rfl, rfl⟩
          · intro g hΦ
            refine KW.sub (s' := [(1, .int .i64 a1), (2, .int .i64 a2), (3, .pointer (some ⟨b1, 0, none⟩)), (6, .pointer (some ⟨b2, 0, none⟩)), (10, .pointer (some ⟨b26, 0, none⟩)), (11, .int .i64 x27.1), (14, .int .i64 x34)]) (h' := [(0, [(b1, .cells #[.slice p0_0 ((a0.t.b).length) c0_0, .slice p0_1 ((a0.t.f).length) c0_1, .slice p0_2 ((a0.c.l).length) c0_2, .int .i64 a0.c.h, .int .i64 a0.g.c, .int .i64 a0.g.n, .int .i64 a0.g.r, .slice p0_3 ((a0.g.o).length) c0_3, .int .i64 a0.s] 47 (0, 0))]), (1, [(b2, .cells #[.slice none 0 0, .slice none 0 0, .slice none 0 0, .int .i64 0, .int .i64 0, .int .i64 0, .int .i64 0, .slice none 0 0, .int .i64 0] 47 (0, 0))]), (6, C13), (7, C17), (8, C21), (9, C25), (10, [(b26, .cells #[.slice p10 ((x9.t.b).length) c12, .slice p14 ((x9.t.f).length) c16, .slice p18 ((x9.c.l).length) c20, .int .i64 x9.c.h, .int .i64 x9.g.c, .int .i64 x9.g.n, .int .i64 x9.g.r, .slice p22 ((x9.g.o).length) c24, .int .i64 x9.s] 47 (0, 0))])]) ?_ ⟨rfl, rfl, rfl, rfl, rfl, rfl, rfl, trivial⟩ ⟨rfl, rfl, rfl, rfl, rfl, rfl, rfl, trivial⟩
            refine kw_nx (cw_seq (sr (oD (mv rfl) rfl (oD (stp_lss rfl rfl) rfl (nn (cw_cond rfl (fun h35 => ?_) (fun h35 => ?_)))))))
            · have H0 := cond_t H0 h35
              refine sr (oD (stp_loadN (us := [_, _, _, _, _, _, _, _, _]) ts47 rfl (Cells.box (id := 10) rfl 9 rfl)) rfl (oF (stpU_store (id := 1) (cs' := [.slice p10 ((x9.t.b).length) c12, .slice p14 ((x9.t.f).length) c16, .slice p18 ((x9.c.l).length) c20, .int .i64 x9.c.h, .int .i64 x9.g.c, .int .i64 x9.g.n, .int .i64 x9.g.r, .slice p22 ((x9.g.o).length) c24, .int .i64 x9.s]) ts47 rfl rfl rfl rfl rfl rfl rfl) ?_))
              rintro _ _ rfl
              refine oD (sg rfl) rfl (oD (sg rfl) rfl (oD (sg rfl) rfl (nn (cw_ret (kw_nx_ret (kw_nx_ret ?_))))))
              have q0 := Option.some.inj H0
              subst q0
              exact kw_ret Tryz.results29 (.cons (.cellN (us := [_, _, _, _, _, _, _, _, _]) ts47 rfl (Cells.box (id := 1) rfl 9 rfl)) (.cons (.tmp rfl) (.cons (.tmp rfl) (.cons (.tmp rfl) .nil)))) [(0, C13), (1, C17), (2, C21), (3, C25)] [6, 7, 8, 9] ⟨6, [7, 8, 9], rfl, rfl, 7, [8, 9], rfl, rfl, 8, [9], rfl, rfl, 9, [], rfl, rfl, trivial⟩ (by decide) ⟨p10, ((x9.t.b).length), c12, C13, p14, ((x9.t.f).length), c16, C17, p18, ((x9.c.l).length), c20, C21, p22, ((x9.g.o).length), c24, C25, rfl, rfl, rfl, o13, rfl, o17, rfl, o21, rfl, o25⟩
            · have H0 := cond_f H0 h35
              obtain ⟨x36, e36, H0⟩ := bind_some H0
              refine cw_skip (kw_nx (cw_seq (rdr g_mixed [3, 14] [0] { dst := dS [76, 77, 78, 79, 80, 81, 82, 14, 16], pre := gA [] [[], [0], [0, 1], [], rn 0 4, rn 0 5, rn 0 6, [], rn 0 8], ids := fun _ => [], rs := rL [[(3, 0)], [(75, 1)], [(76, 2)], [(14, 0)], [(77, 3), (78, 4)], [(79, 5)], [(80, 6)], [], [(81, 7)]], rh := rL [[], [], [(0, 0)]], V := fun i g => gA undef [.pointer (some ⟨b1, 0, none⟩), .pointer (some ⟨b1, 1, none⟩), .slice p0_1 ((a0.t.f).length) c0_1, .int .i64 x34, .pointer (some ⟨eB p0_1, eO p0_1 + Int.toNat x34 * Enc.sz F + 0, none⟩), .pointer (some ⟨eB p0_1, eO p0_1 + Int.toNat x34 * Enc.sz F + 3, none⟩), .int .i64 x36.r, .int .i64 2, .int .i64 x36.r] i, U := fun _ _ => [], Φ := fun _ _ => True } ?_ ?_)))
              · exact ⟨⟨⟨⟨⟨⟨⟨⟨⟨trivial, lc rfl rfl fun hs hh => stp_fieldAddr (j := 0) Tryz.underlying47 rfl ts39 rfl (sv hs 3 rfl) rfl⟩, lc rfl rfl fun hs hh => stp_fieldAddr (j := 1) Tryz.underlying39 rfl ts37 rfl (sv hs 75 rfl) rfl⟩, lc rfl rfl fun hs hh => stp_load1 ts37 (sv hs 76 rfl) (Cells.box (id := 0) (hh.get 0 _ rfl) 1 rfl)⟩, lc rfl rfl fun hs hh => stp_move (sv hs 14 rfl)⟩, lc rfl rfl fun hs hh => stp_indexAddr Tryz.underlying37 ts127 (by decide) (sv hs 77 rfl) rfl (sv hs 78 rfl) (Rdb.ro hr0_1) e36⟩, lc rfl rfl fun hs hh => stp_fieldAddr (j := 3) Tryz.underlying127 rfl ts3 rfl (sv hs 79 rfl) rfl⟩, lc rfl rfl fun hs hh => stp_load1 ts3 (sv hs 80 rfl) (Cells.el (Rdb.ro hr0_1) (by decide) e36 3 1 rfl)⟩, lc rfl rfl fun hs hh => stp_assign rfl⟩, lc rfl rfl fun hs hh => stp_assign (sv hs 81 rfl)⟩
              · intro g hΦ
                refine KW.sub (s' := [(1, .int .i64 a1), (2, .int .i64 a2), (6, .pointer (some ⟨b2, 0, none⟩)), (10, .pointer (some ⟨b26, 0, none⟩)), (11, .int .i64 x27.1), (13, .int .i64 2), (14, .int .i64 x34), (15, .int .i64 x36.r)]) (h' := [(1, [(b2, .cells #[.slice none 0 0, .slice none 0 0, .slice none 0 0, .int .i64 0, .int .i64 0, .int .i64 0, .int .i64 0, .slice none 0 0, .int .i64 0] 47 (0, 0))]), (6, C13), (7, C17), (8, C21), (9, C25), (10, [(b26, .cells #[.slice p10 ((x9.t.b).length) c12, .slice p14 ((x9.t.f).length) c16, .slice p18 ((x9.c.l).length) c20, .int .i64 x9.c.h, .int .i64 x9.g.c, .int .i64 x9.g.n, .int .i64 x9.g.r, .slice p22 ((x9.g.o).length) c24, .int .i64 x9.s] 47 (0, 0))])]) ?_ ⟨rfl, rfl, rfl, rfl, rfl, rfl, rfl, rfl, trivial⟩ ⟨rfl, rfl, rfl, rfl, rfl, rfl, trivial⟩
                obtain ⟨x37, e37, H0⟩ := bind_some H0
                refine kw_nx (sr (oD (fA 2 Tryz.underlying47 rfl ts42 rfl rfl rfl) rfl (oD (stp_loadN (us := [_, _]) ts42 rfl (Cells.box (id := 10) rfl 2 rfl)) rfl (oD (mv rfl) rfl (oD (mv rfl) rfl (oD (mv rfl) rfl (oD (mv rfl) rfl (oD (stp_build (cs := #[.bool true, .int .i64 x27.1, .int .i64 a1, .int .i64 x34, .int .i64 x36.r, .bool false]) (sevp_cons rfl (sevp_cons rfl (sevp_cons rfl (sevp_cons rfl (sevp_cons rfl (sevp_cons rfl sevp_nil)))))) bt112_17) rfl (oE (stpU_call (fun i => 11 + i) cf95 (fun w hw => c_i_FillLine fl w x9.c p18 ((x9.c.l).length) c20 (⟨true, x27.1, a1, x34, x36.r, false⟩ : Ln) rfl (OwnC.pass (id := 8) rfl o21 hw) x37 e37) (sevs_cons rfl (sevs_cons rfl sevs_nil))) rfl ?_)))))))))
                rintro _ _ ⟨_, ⟨p38, n39, c40, C41, rfl, rfl, hnn39, o41⟩, rfl⟩
                obtain rfl := hnn39
                refine oD (mv rfl) rfl (oD (stp_extract rfl rfl) rfl (oD (stp_extract rfl rfl) rfl (oD (stp_extract rfl rfl) rfl (oE (stpU_alloc 12 tz42 rfl) rfl ?_))))
                rintro _ _ ⟨b42, rfl, rfl⟩
                refine oF (stpU_store (id := 12) (cs' := [.slice p38 ((x37.1.l).length) c40, .int .i64 x37.1.h]) ts42 rfl rfl rfl rfl rfl rfl rfl) ?_
                rintro _ _ rfl
                refine oD (sg rfl) rfl (oD (sg rfl) rfl (nn (cw_seq (sr (oD (mv rfl) rfl (oD (stp_not rfl) rfl (nn (cw_cond rfl (fun h43 => ?_) (fun h43 => ?_)))))))))
                · have H0 := cond_t H0 h43
                  refine sr (oD (stp_build (cs := #[.slice none 0 0, .slice none 0 0, .slice none 0 0, .int .i64 0, .int .i64 0, .int .i64 0, .int .i64 0, .slice none 0 0, .int .i64 0]) sevp_nil bt47_3) rfl (oF (stpU_store (id := 1) (cs' := [.slice none 0 0, .slice none 0 0, .slice none 0 0, .int .i64 0, .int .i64 0, .int .i64 0, .int .i64 0, .slice none 0 0, .int .i64 0]) ts47 rfl rfl rfl rfl rfl rfl rfl) ?_))
                  rintro _ _ rfl
                  refine oD (sg rfl) rfl (oD (sg rfl) rfl (oD (sg rfl) rfl (nn (cw_ret (kw_nx_ret (kw_nx_ret (kw_addNil 13 (kw_addNil 14 (kw_addNil 15 (kw_addNil 16 ?_))))))))))
                  have q0 := Option.some.inj H0
                  subst q0
                  exact kw_ret Tryz.results29 (.cons (.cellN (us := [_, _, _, _, _, _, _, _, _]) ts47 rfl (Cells.box (id := 1) rfl 9 rfl)) (.cons (.tmp rfl) (.cons (.tmp rfl) (.cons (.tmp rfl) .nil)))) [(0, []), (1, []), (2, []), (3, [])] [13, 14, 15, 16] ⟨13, [14, 15, 16], rfl, rfl, 14, [15, 16], rfl, rfl, 15, [16], rfl, rfl, 16, [], rfl, rfl, trivial⟩ (by decide) ⟨none, 0, 0, [], none, 0, 0, [], none, 0, 0, [], none, 0, 0, [], rfl, rfl, rfl, (OwnC.nil _ _), rfl, (OwnC.nil _ _), rfl, (OwnC.nil _ _), rfl, (OwnC.nil _ _)⟩
                · have H0 := cond_f H0 h43
                  refine cw_skip (kw_nx (cw_region (oD (stp_loadN (us := [_, _]) ts42 rfl (Cells.box (id := 12) rfl 2 rfl)) rfl (oD (fA 2 Tryz.underlying47 rfl ts42 rfl rfl rfl) rfl (oF (stpU_store (id := 10) (cs' := [.slice p10 ((x9.t.b).length) c12, .slice p14 ((x9.t.f).length) c16, .slice p38 ((x37.1.l).length) c40, .int .i64 x37.1.h, .int .i64 x9.g.c, .int .i64 x9.g.n, .int .i64 x9.g.r, .slice p22 ((x9.g.o).length) c24, .int .i64 x9.s]) ts42 rfl rfl rfl rfl rfl rfl rfl) ?_)))))
                  rintro _ _ rfl
                  obtain ⟨x44, e44, H0⟩ := bind_some H0
                  refine nn (cw_seq (sr (oD (mv rfl) rfl (oD (mv rfl) rfl (oE (stpU_call (fun i => 17 + i) cf96 (fun w hw => c_i_Allows fl w x36.r a2 x44 e44) (sevs_cons rfl (sevs_cons rfl sevs_nil))) rfl ?_)))))
                  rintro _ _ ⟨_, ⟨rfl, rfl⟩, rfl⟩
                  refine oD (stp_not rfl) rfl (nn (cw_cond rfl (fun h45 => ?_) (fun h45 => ?_)))
                  · have H0 := cond_t H0 h45
                    refine cw_region (oD (sg rfl) rfl (nn (sr (oD (stp_loadN (us := [_, _, _, _, _, _, _, _, _]) ts47 rfl (Cells.box (id := 10) rfl 9 rfl)) rfl (oD (mv rfl) rfl (oD (mv rfl) rfl (oF (stpU_store (id := 1) (cs' := [.slice p10 ((x9.t.b).length) c12, .slice p14 ((x9.t.f).length) c16, .slice p38 ((x37.1.l).length) c40, .int .i64 x37.1.h, .int .i64 x9.g.c, .int .i64 x9.g.n, .int .i64 x9.g.r, .slice p22 ((x9.g.o).length) c24, .int .i64 x9.s]) ts47 rfl rfl rfl rfl rfl rfl rfl) ?_)))))))
                    rintro _ _ rfl
                    refine oD (sg rfl) rfl (oD (sg rfl) rfl (oD (sg rfl) rfl (nn (cw_ret ?_))))
                    have q0 := Option.some.inj H0
                    subst q0
                    exact kw_ret Tryz.results29 (.cons (.cellN (us := [_, _, _, _, _, _, _, _, _]) ts47 rfl (Cells.box (id := 1) rfl 9 rfl)) (.cons (.tmp rfl) (.cons (.tmp rfl) (.cons (.tmp rfl) .nil)))) [(0, C13), (1, C17), (2, C41), (3, C25)] [6, 7, 11, 9] ⟨6, [7, 11, 9], rfl, rfl, 7, [11, 9], rfl, rfl, 11, [9], rfl, rfl, 9, [], rfl, rfl, trivial⟩ (by decide) ⟨p10, ((x9.t.b).length), c12, C13, p14, ((x9.t.f).length), c16, C17, p38, ((x37.1.l).length), c40, C41, p22, ((x9.g.o).length), c24, C25, rfl, rfl, rfl, o13, rfl, o17, rfl, o41, rfl, o25⟩
                  · have H0 := cond_f H0 h45
                    refine cw_skip (kw_nx (sr (oD (stp_loadN (us := [_, _, _, _, _, _, _, _, _]) ts47 rfl (Cells.box (id := 10) rfl 9 rfl)) rfl (oD (mv rfl) rfl (oD (mv rfl) rfl (oF (stpU_store (id := 1) (cs' := [.slice p10 ((x9.t.b).length) c12, .slice p14 ((x9.t.f).length) c16, .slice p38 ((x37.1.l).length) c40, .int .i64 x37.1.h, .int .i64 x9.g.c, .int .i64 x9.g.n, .int .i64 x9.g.r, .slice p22 ((x9.g.o).length) c24, .int .i64 x9.s]) ts47 rfl rfl rfl rfl rfl rfl rfl) ?_))))))
                    rintro _ _ rfl
                    refine oD (sg rfl) rfl (oD (sg rfl) rfl (oD (sg rfl) rfl (nn (cw_ret ?_))))
                    have q0 := Option.some.inj H0
                    subst q0
                    exact kw_ret Tryz.results29 (.cons (.cellN (us := [_, _, _, _, _, _, _, _, _]) ts47 rfl (Cells.box (id := 1) rfl 9 rfl)) (.cons (.tmp rfl) (.cons (.tmp rfl) (.cons (.tmp rfl) .nil)))) [(0, C13), (1, C17), (2, C41), (3, C25)] [6, 7, 11, 9] ⟨6, [7, 11, 9], rfl, rfl, 7, [11, 9], rfl, rfl, 11, [9], rfl, rfl, 9, [], rfl, rfl, trivial⟩ (by decide) ⟨p10, ((x9.t.b).length), c12, C13, p14, ((x9.t.f).length), c16, C17, p38, ((x37.1.l).length), c40, C41, p22, ((x9.g.o).length), c24, C25, rfl, rfl, rfl, o13, rfl, o17, rfl, o41, rfl, o25⟩
end Go.Proofs.YtbgodaeccgjdgaaGreatDoor
