/- The walks: functions of the program return what their pure functions say. Printed by a program (gen.py). -/
import Derived.Test.YtbgodaeccgjdgaaGreatDoorGp
import Derived.Test.YtbgodaeccgjdgaaGreatDoorGt
import Derived.Test.YtbgodaeccgjdgaaGreatDoorMan
import Derived.Test.YtbgodaeccgjdgaaGreatDoorMap
import Derived.Test.YtbgodaeccgjdgaaGreatDoorGwaa
import Derived.Test.YtbgodaeccgjdgaaGreatDoorGwab
set_option linter.unusedSimpArgs false
set_option linter.unusedVariables false
set_option linter.unusedSectionVars false
namespace Go.Proofs.YtbgodaeccgjdgaaGreatDoor
open Go.RowKit
set_option maxHeartbeats 4000000 in
set_option maxRecDepth 20000 in
theorem c_s_l6Tag (fl : Nat) (w : World) (a0 : Mc) (p0_0 : Option Addr) (n0_0 c0_0 : Nat) (p0_1 : Option Addr) (n0_1 c0_1 : Nat) (p0_2 : Option Addr) (n0_2 c0_2 : Nat) (p0_3 : Option Addr) (n0_3 c0_3 : Nat) (a1 : Int) (a2 : Int) (hn0_0 : n0_0 = (a0.t.b).length) (hr0_0 : RO w (hkeys []) (RdL p0_0 c0_0 a0.t.b)) (hn0_1 : n0_1 = (a0.t.f).length) (hr0_1 : RO w (hkeys []) (RdL p0_1 c0_1 a0.t.f)) (hn0_2 : n0_2 = (a0.c.l).length) (hr0_2 : RO w (hkeys []) (RdL p0_2 c0_2 a0.c.l)) (hn0_3 : n0_3 = (a0.g.o).length) (hr0_3 : RO w (hkeys []) (RdL p0_3 c0_3 a0.g.o)) (r : Int × Bool) (H0 : s_l6Tag fl a0 a1 a2 = some r) :
    Ct Tryz.prog 84 [.agg #[.slice p0_0 n0_0 c0_0, .slice p0_1 n0_1 c0_1, .slice p0_2 n0_2 c0_2, .int .i64 a0.c.h, .int .i64 a0.g.c, .int .i64 a0.g.n, .int .i64 a0.g.r, .slice p0_3 n0_3 c0_3, .int .i64 a0.s], .int .i64 a1, .int .i64 a2] w [] (fun rv h' => rv = .tuple #[.int .i64 r.1, .bool r.2] ∧ h' = []) := by
  obtain rfl := hn0_0
  obtain rfl := hn0_1
  obtain rfl := hn0_2
  obtain rfl := hn0_3
  unfold s_l6Tag at H0
  refine ct_of_cw Tryz.func84 rfl Tryz.ntmps84 rfl (Sat.refl _ _) ?_
  refine sr (oE (stpU_box 0 rfl rfl) rfl ?_)
  rintro _ _ ⟨b1, rfl, rfl⟩
  refine oD (sg rfl) rfl (oD (sg rfl) rfl (nn (cw_seq (sr (oD (mv rfl) rfl (oD (stp_geq rfl rfl) rfl (nn (cw_cond rfl (fun h2 => ?_) (fun h2 => ?_)))))))))
  · have H0 := cond_t H0 h2
    refine sr (oD (sg rfl) rfl (oD (sg rfl) rfl (nn (cw_ret (kw_nx_ret ?_)))))
    have q0 := Option.some.inj H0
    subst q0
    exact kw_ret Tryz.results84 (.cons (.tmp rfl) (.cons (.tmp rfl) .nil)) [] [] trivial (by decide) ⟨rfl, rfl⟩
  · have H0 := cond_f H0 h2
    obtain ⟨x3, e3, H0⟩ := bind_some H0
    refine cw_skip (kw_nx (sr (oD (fA 4 Tryz.underlying47 rfl ts45 rfl rfl rfl) rfl (oD (stp_loadN (us := [_, _, _, _]) ts45 rfl (Cells.box (id := 0) rfl 4 rfl)) rfl (oD (mv rfl) rfl (oE (stpU_call (fun i => 1 + i) cf127 (fun w hw => c_s_l5Find fl w a0.g p0_3 ((a0.g.o).length) c0_3 a1 rfl (RO.pass hr0_3 hw) x3 e3) (sevs_cons rfl (sevs_cons rfl sevs_nil))) rfl ?_))))))
    rintro _ _ ⟨_, ⟨rfl, rfl⟩, rfl⟩
    refine oD (sg rfl) rfl (nn (cw_seq (sr (oD (mv rfl) rfl (oD (stp_lss rfl rfl) rfl (nn (cw_cond rfl (fun h4 => ?_) (fun h4 => ?_))))))))
    · have H0 := cond_t H0 h4
      refine sr (oD (sg rfl) rfl (oD (sg rfl) rfl (nn (cw_ret (kw_nx_ret ?_)))))
      have q0 := Option.some.inj H0
      subst q0
      exact kw_ret Tryz.results84 (.cons (.tmp rfl) (.cons (.tmp rfl) .nil)) [] [] trivial (by decide) ⟨rfl, rfl⟩
    · have H0 := cond_f H0 h4
      obtain ⟨x5, e5, H0⟩ := bind_some H0
      refine cw_skip (kw_nx (sr (oD (fA 4 Tryz.underlying47 rfl ts45 rfl rfl rfl) rfl (oD (fA 3 Tryz.underlying45 rfl ts43 rfl rfl rfl) rfl (oD (lB 0 ts43 rfl rfl rfl) rfl (oD (mv rfl) rfl (oD (stp_indexAddr Tryz.underlying43 ts148 (by decide) rfl rfl rfl (Rdb.ro hr0_3) e5) rfl (oD (fA 1 Tryz.underlying148 rfl ts3 rfl rfl rfl) rfl (oD (stp_load1 ts3 rfl (Cells.el (Rdb.ro hr0_3) (by decide) e5 1 1 rfl)) rfl (oD (sg rfl) rfl (oD (sg rfl) rfl (nn (cw_ret ?_)))))))))))))
      have q0 := Option.some.inj H0
      subst q0
      exact kw_ret Tryz.results84 (.cons (.tmp rfl) (.cons (.tmp rfl) .nil)) [] [] trivial (by decide) ⟨rfl, rfl⟩

set_option maxHeartbeats 4000000 in
set_option maxRecDepth 20000 in
theorem c_s_l4Fits (fl : Nat) (w : World) (a0 : Ln) (a1 : Int) (a2 : Int) (r : Bool) (H0 : s_l4Fits fl a0 a1 a2 = some r) :
    Ct Tryz.prog 167 [.agg #[.bool a0.va, .int .i64 a0.tg, .int .i64 a0.pg, .int .i64 a0.fr, .int .i64 a0.ri, .bool a0.wi], .int .i64 a1, .int .i64 a2] w [] (fun rv h' => rv = .bool r ∧ h' = []) := by
  unfold s_l4Fits at H0
  refine ct_of_cw Tryz.func167 rfl Tryz.ntmps167 rfl (Sat.refl _ _) ?_
  refine sr (oE (stpU_box 0 rfl rfl) rfl ?_)
  rintro _ _ ⟨b1, rfl, rfl⟩
  obtain ⟨y2, ey2, H0⟩ := bind_some H0
  refine oD (sg rfl) rfl (nn (sr (oD (fA 0 Tryz.underlying112 rfl ts4 rfl rfl rfl) rfl (oD (lB 0 ts4 rfl rfl rfl) rfl (oD (mv rfl) rfl (ow_cutY 5 14 y2 ?_ ?_))))))
  · rcases Bool.eq_false_or_eq_true a0.va with hy2 | hy2
    · have ey2 := cond_t ey2 hy2
      refine oG rfl hy2 (fA 2 Tryz.underlying112 rfl ts3 rfl rfl rfl) rfl (oG rfl hy2 (lB 0 ts3 rfl rfl rfl) rfl (oG rfl hy2 (mv rfl) rfl (oG rfl hy2 (stp_eql rfl rfl) rfl (oD (stp_pick_t rfl hy2 rfl) rfl ?_))))
      obtain rfl := Option.some.inj ey2
      exact ow_nil (jy 5 0)
    · have ey2 := cond_f ey2 hy2
      refine oO rfl hy2 rfl (oO rfl hy2 rfl (oO rfl hy2 rfl (oO rfl hy2 rfl (oD (stp_pick_f rfl hy2 rfl) rfl ?_))))
      obtain rfl := Option.some.inj ey2
      exact ow_nil (jy 5 0)
  · obtain ⟨y3, ey3, H0⟩ := bind_some H0
    refine oD (mv rfl) rfl (ow_cutY 10 25 y3 ?_ ?_)
    · rcases Bool.eq_false_or_eq_true y2 with hy3 | hy3
      · have ey3 := cond_t ey3 hy3
        obtain ⟨y4, ey4, ey3⟩ := bind_some ey3
        refine oG rfl hy3 (fA 1 Tryz.underlying112 rfl ts3 rfl rfl rfl) rfl (oG rfl hy3 (lB 0 ts3 rfl rfl rfl) rfl (oG rfl hy3 (mv rfl) rfl (oG rfl hy3 (stp_eql rfl rfl) rfl (oG rfl hy3 (mv rfl) rfl (ow_cutY 4 24 y4 ?_ ?_)))))
        · rcases Bool.eq_false_or_eq_true (a0.tg == a1) with hy4 | hy4
          · have ey4 := cond_t ey4 hy4
            refine oO rfl hy4 rfl (oO rfl hy4 rfl (oO rfl hy4 rfl (oG rfl hy3 (stp_pick_t rfl hy4 rfl) rfl ?_)))
            obtain rfl := Option.some.inj ey4
            exact ow_nil (jy 4 0)
          · have ey4 := cond_f ey4 hy4
            refine oG rfl hy4 (fA 1 Tryz.underlying112 rfl ts3 rfl rfl rfl) rfl (oG rfl hy4 (lB 0 ts3 rfl rfl rfl) rfl (oG rfl hy4 (stp_eql rfl rfl) rfl (oG rfl hy3 (stp_pick_f rfl hy4 rfl) rfl ?_)))
            obtain rfl := Option.some.inj ey4
            exact ow_nil (jy 4 0)
        · refine oD (stp_pick_t rfl hy3 rfl) rfl ?_
          obtain rfl := Option.some.inj ey3
          exact ow_nil (jy 7 0)
      · have ey3 := cond_f ey3 hy3
        refine oO rfl hy3 rfl (oO rfl hy3 rfl (oO rfl hy3 rfl (oO rfl hy3 rfl (oO rfl hy3 rfl (oX rfl rfl rfl (oX rfl rfl rfl (oX rfl rfl rfl (oO rfl hy3 rfl (oD (stp_pick_f rfl hy3 rfl) rfl ?_)))))))))
        obtain rfl := Option.some.inj ey3
        exact ow_nil (jy 10 0)
    · refine oD (sg rfl) rfl (nn (cw_ret ?_))
      have q0 := Option.some.inj H0
      subst q0
      exact kw_ret Tryz.results167 (.cons (.tmp rfl) .nil) [] [] trivial (by decide) ⟨rfl, rfl⟩

set_option maxHeartbeats 4000000 in
set_option maxRecDepth 20000 in
theorem c_s_l4Find (fl : Nat) (w : World) (a0 : Ca) (p0_0 : Option Addr) (n0_0 c0_0 : Nat) (a1 : Int) (a2 : Int) (hn0_0 : n0_0 = (a0.l).length) (hr0_0 : RO w (hkeys []) (RdL p0_0 c0_0 a0.l)) (r : Int) (H0 : s_l4Find fl a0 a1 a2 = some r) :
    Ct Tryz.prog 85 [.agg #[.slice p0_0 n0_0 c0_0, .int .i64 a0.h], .int .i64 a1, .int .i64 a2] w [] (fun rv h' => rv = .int .i64 r ∧ h' = []) := by
  obtain rfl := hn0_0
  unfold s_l4Find at H0
  refine ct_of_cw Tryz.func85 rfl Tryz.ntmps85 rfl (Sat.refl _ _) ?_
  refine sr (oE (stpU_box 0 rfl rfl) rfl ?_)
  rintro _ _ ⟨b1, rfl, rfl⟩
  obtain ⟨o0_0, eo0_0, H0⟩ := bind_some H0
  refine oD (sg rfl) rfl (nn (cw_seq (sr (oD (sg rfl) rfl (nn (cw_join (ι := Int) (fun | v2 => o0_0 = .out v2) (fun | v2 => [(1, .int .i64 a1), (2, .int .i64 a2), (3, .pointer (some ⟨b1, 0, none⟩)), (7, .int .i64 v2)]) (fun | v2 => [(0, [(b1, .cells #[.slice p0_0 ((a0.l).length) c0_0, .int .i64 a0.h] 42 (0, 0))])]) ?_ ?_))))))
  · refine cw_block (cw_loopS (ι := Nat × Int) (js := [0]) (fun x => x.1) (fun | (fuel, v2) => s_l4Find_L0 fl a0 a1 a2 fuel v2 = some o0_0) (fun | (_, v2) => [(1, .int .i64 a1), (2, .int .i64 a2), (3, .pointer (some ⟨b1, 0, none⟩)), (7, .int .i64 v2)]) (fun | (_, v2) => [(0, [(b1, .cells #[.slice p0_0 ((a0.l).length) c0_0, .int .i64 a0.h] 42 (0, 0))])]) (fl, 0) eo0_0 ⟨rfl, rfl, rfl, rfl, trivial⟩ ⟨0, [], rfl, rfl, trivial⟩ (by decide) ?_)
    rintro ⟨fuel, v2⟩ H1
    have H1 : s_l4Find_L0 fl a0 a1 a2 fuel v2 = some o0_0 := H1
    rcases fuel with _ | fuel
    · rw [s_l4Find_L0.eq_1] at H1; cases H1
    rw [s_l4Find_L0.eq_2] at H1
    refine CW.sub (s' := [(1, .int .i64 a1), (2, .int .i64 a2), (3, .pointer (some ⟨b1, 0, none⟩)), (7, .int .i64 v2)]) (h' := [(0, [(b1, .cells #[.slice p0_0 ((a0.l).length) c0_0, .int .i64 a0.h] 42 (0, 0))])]) ?_ ⟨rfl, rfl, rfl, rfl, trivial⟩ ⟨rfl, trivial⟩
    refine cw_seq (sr (oD (mv rfl) rfl (oD (fA 0 Tryz.underlying42 rfl ts40 rfl rfl rfl) rfl (oD (lB 0 ts40 rfl rfl rfl) rfl (oD (stp_len Tryz.underlying40 rfl) rfl (oD (stp_lss rfl rfl) rfl (nn (cw_cond rfl (fun h3 => ?_) (fun h3 => ?_)))))))))
    · have H1 := cond_t H1 h3
      obtain ⟨x4, e4, H1⟩ := bind_some H1
      obtain ⟨x5, e5, H1⟩ := bind_some H1
      refine cw_skip (kw_nx (cw_seq (cw_block (sr (oD (fA 0 Tryz.underlying42 rfl ts40 rfl rfl rfl) rfl (oD (lB 0 ts40 rfl rfl rfl) rfl (oD (mv rfl) rfl (oD (stp_indexAddr Tryz.underlying40 ts112 (by decide) rfl rfl rfl (Rdb.ro hr0_0) e4) rfl (oD (stp_loadN (us := [_, _, _, _, _, _]) ts112 rfl (Cells.el (Rdb.ro hr0_0) (by decide) e4 0 6 rfl)) rfl (oD (mv rfl) rfl (oD (mv rfl) rfl (oE (stpU_call (fun i => 1 + i) cf167 (fun w hw => c_s_l4Fits fl w x4 a1 a2 x5 e5) (sevs_cons rfl (sevs_cons rfl (sevs_cons rfl sevs_nil)))) rfl ?_))))))))))))
      rintro _ _ ⟨_, ⟨rfl, rfl⟩, rfl⟩
      refine nn (cw_cond rfl (fun h6 => ?_) (fun h6 => ?_))
      · have H1 := cond_t H1 h6
        refine sr (oD (mv rfl) rfl (oD (sg rfl) rfl (nn (cw_ret (kw_bl_ret (kw_nx_ret (kw_lq_ret (kw_bl_ret (kw_join_ret (kw_nx_ret ?_))))))))))
        have q1 := Option.some.inj H1
        subst q1
        have q0 := Option.some.inj H0
        subst q0
        exact kw_ret Tryz.results85 (.cons (.tmp rfl) .nil) [] [] trivial (by decide) ⟨rfl, rfl⟩
      · have H1 := cond_f H1 h6
        obtain ⟨x7, e7, H1⟩ := bind_some H1
        exact cw_skip (kw_bl_normal (kw_nx (cw_region (oD (mv rfl) rfl (oD (stp_add rfl rfl e7) rfl (oD (sg rfl) rfl (ow_nil (kw_lqS (js := [0]) (fuel, x7) H1 (Nat.lt_succ_self _) ⟨rfl, rfl, rfl, rfl, trivial⟩ ⟨0, [], rfl, rfl, trivial⟩ (by decide)))))))))
    · have H1 := cond_f H1 h3
      refine cw_exit (kw_nx_exit (kw_lq_exit (kw_bl ?_)))
      have q1 := Option.some.inj H1
      subst q1
      exact kw_joinS (js := [0]) v2 rfl ⟨rfl, rfl, rfl, rfl, trivial⟩ ⟨0, [], rfl, rfl, trivial⟩ (by decide)
  · rintro v2 rfl
    refine KW.sub (s' := [(1, .int .i64 a1), (2, .int .i64 a2), (3, .pointer (some ⟨b1, 0, none⟩)), (7, .int .i64 v2)]) (h' := [(0, [(b1, .cells #[.slice p0_0 ((a0.l).length) c0_0, .int .i64 a0.h] 42 (0, 0))])]) ?_ ⟨rfl, rfl, rfl, rfl, trivial⟩ ⟨rfl, trivial⟩
    refine kw_nx (sr (oD (sg rfl) rfl (nn (cw_ret ?_))))
    have q0 := Option.some.inj H0
    subst q0
    exact kw_ret Tryz.results85 (.cons (.tmp rfl) .nil) [] [] trivial (by decide) ⟨rfl, rfl⟩

set_option maxHeartbeats 4000000 in
set_option maxRecDepth 20000 in
theorem c_i_TagOf (fl : Nat) (w : World) (a0 : Tg) (p0_0 : Option Addr) (n0_0 c0_0 : Nat) (a1 : Int) (hn0_0 : n0_0 = (a0.o).length) (hr0_0 : RO w (hkeys []) (RdL p0_0 c0_0 a0.o)) (r : Int × Bool) (H0 : i_TagOf fl a0 a1 = some r) :
    Ct Tryz.prog 171 [.agg #[.int .i64 a0.c, .int .i64 a0.n, .int .i64 a0.r, .slice p0_0 n0_0 c0_0], .int .i64 a1] w [] (fun rv h' => rv = .tuple #[.int .i64 r.1, .bool r.2] ∧ h' = []) := by
  obtain rfl := hn0_0
  unfold i_TagOf at H0
  refine ct_of_cw Tryz.func171 rfl Tryz.ntmps171 rfl (Sat.refl _ _) ?_
  refine sr (oE (stpU_box 0 rfl rfl) rfl ?_)
  rintro _ _ ⟨b1, rfl, rfl⟩
  obtain ⟨x2, e2, H0⟩ := bind_some H0
  refine oD (sg rfl) rfl (oD (sg rfl) rfl (nn (cw_seq (sr (oD (stp_loadN (us := [_, _, _, _]) ts45 rfl (Cells.box (id := 0) rfl 4 rfl)) rfl (oE (stpU_call (fun i => 1 + i) cf140 (fun w hw => c_i_TagsValid fl w a0 p0_0 ((a0.o).length) c0_0 rfl (RO.pass hr0_0 hw) x2 e2) (sevs_cons rfl sevs_nil)) rfl ?_))))))
  rintro _ _ ⟨_, ⟨rfl, rfl⟩, rfl⟩
  obtain ⟨y3, ey3, H0⟩ := bind_some H0
  refine oD (stp_not rfl) rfl (oD (mv rfl) rfl (ow_cutY 5 14 y3 ?_ ?_))
  · rcases Bool.eq_false_or_eq_true (!x2) with hy3 | hy3
    · have ey3 := cond_t ey3 hy3
      refine oO rfl hy3 rfl (oO rfl hy3 rfl (oO rfl hy3 rfl (oO rfl hy3 rfl (oD (stp_pick_t rfl hy3 rfl) rfl ?_))))
      obtain rfl := Option.some.inj ey3
      exact ow_nil (jy 5 0)
    · have ey3 := cond_f ey3 hy3
      obtain ⟨x4, e4, ey3⟩ := bind_some ey3
      refine oG rfl hy3 (stp_loadN (us := [_, _, _, _]) ts45 rfl (Cells.box (id := 0) rfl 4 rfl)) rfl (oG rfl hy3 (mv rfl) rfl (ow_eff (.some rfl hy3) (stpU_call (fun i => 1 + i) cf141 (fun w hw => c_i_Tags_own fl w a0 p0_0 ((a0.o).length) c0_0 a1 rfl (RO.pass hr0_0 hw) x4 e4) (sevs_cons rfl (sevs_cons rfl sevs_nil))) rfl ?_))
      rintro _ _ ⟨_, ⟨rfl, rfl⟩, rfl⟩
      refine oG rfl hy3 (stp_lss rfl rfl) rfl (oD (stp_pick_f rfl hy3 rfl) rfl ?_)
      obtain rfl := Option.some.inj ey3
      exact ow_nil (jy 5 0)
  · refine ow_nil (kw_nx (cw_cond rfl (fun h5 => ?_) (fun h5 => ?_)))
    · have H0 := cond_t H0 h5
      refine sr (oD (sg rfl) rfl (oD (sg rfl) rfl (nn (cw_ret (kw_nx_ret ?_)))))
      have q0 := Option.some.inj H0
      subst q0
      exact kw_ret Tryz.results171 (.cons (.tmp rfl) (.cons (.tmp rfl) .nil)) [] [] trivial (by decide) ⟨rfl, rfl⟩
    · have H0 := cond_f H0 h5
      obtain ⟨x6, e6, H0⟩ := bind_some H0
      obtain ⟨x7, e7, H0⟩ := bind_some H0
      refine cw_skip (kw_nx (cw_seq (rdr g_mixed [1, 2] [0] { dst := dS [16, 17, 18, 19, 20, 21, 22, 23, 5, 6], pre := gA [] [[], [0], [], [], [2, 3], rn 0 5, rn 0 6, rn 0 7, rn 0 8, rn 0 9], ids := fun _ => [], rs := rL [[(2, 0)], [(15, 1)], [(2, 0)], [(1, 0)], [(17, 3), (18, 4)], [(16, 2), (19, 5)], [(20, 6)], [(21, 7)], [(22, 8)], []], rh := rL [[], [(0, 0)], [(0, 0)]], V := fun i g => gA undef [.pointer (some ⟨b1, 3, none⟩), .slice p0_0 ((a0.o).length) c0_0, .agg #[.int .i64 a0.c, .int .i64 a0.n, .int .i64 a0.r, .slice p0_0 ((a0.o).length) c0_0], .int .i64 a1, .int .i64 x6, .pointer (some ⟨eB p0_0, eO p0_0 + Int.toNat x6 * Enc.sz Ow + 0, none⟩), .pointer (some ⟨eB p0_0, eO p0_0 + Int.toNat x6 * Enc.sz Ow + 1, none⟩), .int .i64 x7.tg, .int .i64 x7.tg, .bool true] i, U := fun _ _ => [], Φ := fun _ _ => True } ?_ ?_)))
      · refine ⟨⟨⟨⟨⟨⟨⟨⟨⟨⟨trivial, lc rfl rfl fun hs hh => stp_fieldAddr (j := 3) Tryz.underlying45 rfl ts43 rfl (sv hs 2 rfl) rfl⟩, lc rfl rfl fun hs hh => stp_load1 ts43 (sv hs 15 rfl) (Cells.box (id := 0) (hh.get 0 _ rfl) 1 rfl)⟩, lc rfl rfl fun hs hh => stp_loadN (us := [_, _, _, _]) ts45 (sv hs 2 rfl) (Cells.box (id := 0) (hh.get 0 _ rfl) 4 rfl)⟩, lc rfl rfl fun hs hh => stp_move (sv hs 1 rfl)⟩, ?_⟩, lc rfl rfl fun hs hh => stp_indexAddr Tryz.underlying43 ts148 (by decide) (sv hs 16 rfl) rfl (sv hs 19 rfl) (Rdb.ro hr0_0) e7⟩, lc rfl rfl fun hs hh => stp_fieldAddr (j := 1) Tryz.underlying148 rfl ts3 rfl (sv hs 20 rfl) rfl⟩, lc rfl rfl fun hs hh => stp_load1 ts3 (sv hs 21 rfl) (Cells.el (Rdb.ro hr0_0) (by decide) e7 1 1 rfl)⟩, lc rfl rfl fun hs hh => stp_assign (sv hs 22 rfl)⟩, lc rfl rfl fun hs hh => stp_assign rfl⟩
        · refine le rfl rfl (fun g hΦ s h hs hh => (stpU_call (fun i => 1 + i) cf141 (fun w hw => c_i_Tags_own fl w a0 p0_0 ((a0.o).length) c0_0 a1 rfl (RO.pass hr0_0 hw) x6 e6) (sevs_cons (sv hs 17 rfl) (sevs_cons (sv hs 18 rfl) sevs_nil)))) ?_
          rintro g _ _ ⟨_, ⟨rfl, rfl⟩, rfl⟩
          exact ⟨⟨[], [], []⟩, trivial, .inr rfl, rfl⟩
      · intro g hΦ
        refine KW.sub (s' := [(4, .int .i64 x7.tg), (5, .bool true)]) (h' := []) ?_ ⟨rfl, rfl, trivial⟩ trivial
        refine kw_nx (cw_ret ?_)
        have q0 := Option.some.inj H0
        subst q0
        exact kw_ret Tryz.results171 (.cons (.tmp rfl) (.cons (.tmp rfl) .nil)) [] [] trivial (by decide) ⟨rfl, rfl⟩

set_option maxHeartbeats 4000000 in
set_option maxRecDepth 20000 in
theorem c_i_Machine_tagFor (fl : Nat) (w : World) (a0 : Mc) (p0_0 : Option Addr) (n0_0 c0_0 : Nat) (p0_1 : Option Addr) (n0_1 c0_1 : Nat) (p0_2 : Option Addr) (n0_2 c0_2 : Nat) (p0_3 : Option Addr) (n0_3 c0_3 : Nat) (a1 : Int) (a2 : Int) (hn0_0 : n0_0 = (a0.t.b).length) (hr0_0 : RO w (hkeys []) (RdL p0_0 c0_0 a0.t.b)) (hn0_1 : n0_1 = (a0.t.f).length) (hr0_1 : RO w (hkeys []) (RdL p0_1 c0_1 a0.t.f)) (hn0_2 : n0_2 = (a0.c.l).length) (hr0_2 : RO w (hkeys []) (RdL p0_2 c0_2 a0.c.l)) (hn0_3 : n0_3 = (a0.g.o).length) (hr0_3 : RO w (hkeys []) (RdL p0_3 c0_3 a0.g.o)) (r : Int × Bool) (H0 : i_Machine_tagFor fl a0 a1 a2 = some r) :
    Ct Tryz.prog 92 [.agg #[.slice p0_0 n0_0 c0_0, .slice p0_1 n0_1 c0_1, .slice p0_2 n0_2 c0_2, .int .i64 a0.c.h, .int .i64 a0.g.c, .int .i64 a0.g.n, .int .i64 a0.g.r, .slice p0_3 n0_3 c0_3, .int .i64 a0.s], .int .i64 a1, .int .i64 a2] w [] (fun rv h' => rv = .tuple #[.int .i64 r.1, .bool r.2] ∧ h' = []) := by
  obtain rfl := hn0_0
  obtain rfl := hn0_1
  obtain rfl := hn0_2
  obtain rfl := hn0_3
  unfold i_Machine_tagFor at H0
  refine ct_of_cw Tryz.func92 rfl Tryz.ntmps92 rfl (Sat.refl _ _) ?_
  refine sr (oE (stpU_box 0 rfl rfl) rfl ?_)
  rintro _ _ ⟨b1, rfl, rfl⟩
  refine oD (sg rfl) rfl (oD (sg rfl) rfl (nn (cw_seq (sr (oD (mv rfl) rfl (oD (stp_geq rfl rfl) rfl (nn (cw_cond rfl (fun h2 => ?_) (fun h2 => ?_)))))))))
  · have H0 := cond_t H0 h2
    refine sr (oD (sg rfl) rfl (oD (sg rfl) rfl (nn (cw_ret (kw_nx_ret ?_)))))
    have q0 := Option.some.inj H0
    subst q0
    exact kw_ret Tryz.results92 (.cons (.tmp rfl) (.cons (.tmp rfl) .nil)) [] [] trivial (by decide) ⟨rfl, rfl⟩
  · have H0 := cond_f H0 h2
    obtain ⟨x3, e3, H0⟩ := bind_some H0
    refine cw_skip (kw_nx (sr (oD (fA 4 Tryz.underlying47 rfl ts45 rfl rfl rfl) rfl (oD (stp_loadN (us := [_, _, _, _]) ts45 rfl (Cells.box (id := 0) rfl 4 rfl)) rfl (oD (mv rfl) rfl (oE (stpU_call (fun i => 1 + i) cf171 (fun w hw => c_i_TagOf fl w a0.g p0_3 ((a0.g.o).length) c0_3 a1 rfl (RO.pass hr0_3 hw) x3 e3) (sevs_cons rfl (sevs_cons rfl sevs_nil))) rfl ?_))))))
    rintro _ _ ⟨_, ⟨rfl, rfl⟩, rfl⟩
    refine oD (stp_extract rfl rfl) rfl (oD (stp_extract rfl rfl) rfl (oD (sg rfl) rfl (oD (sg rfl) rfl (nn (cw_ret ?_)))))
    have q0 := Option.some.inj H0
    subst q0
    exact kw_ret Tryz.results92 (.cons (.tmp rfl) (.cons (.tmp rfl) .nil)) [] [] trivial (by decide) ⟨rfl, rfl⟩

set_option maxHeartbeats 4000000 in
set_option maxRecDepth 20000 in
theorem c_i_Cache_place_1 (fl : Nat) (w : World) (a0 : Ln) (qc0 : Nat) (ac0 : Int) (qc1 : Nat) (ac1 : Int) (hbac0 : RO w (hkeys []) (fun w' => w'.rangeAt qc0 0 [.int .i64 ac0])) (hbac1 : RO w (hkeys []) (fun w' => w'.rangeAt qc1 0 [.int .i64 ac1])) (r : Bool) (H0 : i_Cache_place_1 fl a0 ac0 ac1 = some r) :
    Ct Tryz.prog 173 [.agg #[.bool a0.va, .int .i64 a0.tg, .int .i64 a0.pg, .int .i64 a0.fr, .int .i64 a0.ri, .bool a0.wi], .pointer (some ⟨qc0, 0, none⟩), .pointer (some ⟨qc1, 0, none⟩)] w [] (fun rv h' => rv = .bool r ∧ h' = []) := by
  unfold i_Cache_place_1 at H0
  refine ct_of_cw Tryz.func173 rfl Tryz.ntmps173 rfl (Sat.refl _ _) ?_
  refine sr (oE (stpU_box 0 rfl rfl) rfl ?_)
  rintro _ _ ⟨b1, rfl, rfl⟩
  obtain ⟨y2, ey2, H0⟩ := bind_some H0
  refine oD (sg rfl) rfl (nn (sr (oD (fA 0 Tryz.underlying112 rfl ts4 rfl rfl rfl) rfl (oD (lB 0 ts4 rfl rfl rfl) rfl (oD (mv rfl) rfl (ow_cutY 5 12 y2 ?_ ?_))))))
  · rcases Bool.eq_false_or_eq_true a0.va with hy2 | hy2
    · have ey2 := cond_t ey2 hy2
      refine oG rfl hy2 (fA 2 Tryz.underlying112 rfl ts3 rfl rfl rfl) rfl (oG rfl hy2 (lB 0 ts3 rfl rfl rfl) rfl (oG rfl hy2 (stp_load1 ts3 rfl (Cells.ofRO hbac0 1 rfl)) rfl (oG rfl hy2 (stp_eql rfl rfl) rfl (oD (stp_pick_t rfl hy2 rfl) rfl ?_))))
      obtain rfl := Option.some.inj ey2
      exact ow_nil (jy 5 0)
    · have ey2 := cond_f ey2 hy2
      refine oO rfl hy2 rfl (oO rfl hy2 rfl (oO rfl hy2 rfl (oO rfl hy2 rfl (oD (stp_pick_f rfl hy2 rfl) rfl ?_))))
      obtain rfl := Option.some.inj ey2
      exact ow_nil (jy 5 0)
  · obtain ⟨y3, ey3, H0⟩ := bind_some H0
    refine oD (mv rfl) rfl (ow_cutY 10 23 y3 ?_ ?_)
    · rcases Bool.eq_false_or_eq_true y2 with hy3 | hy3
      · have ey3 := cond_t ey3 hy3
        obtain ⟨y4, ey4, ey3⟩ := bind_some ey3
        refine oG rfl hy3 (fA 1 Tryz.underlying112 rfl ts3 rfl rfl rfl) rfl (oG rfl hy3 (lB 0 ts3 rfl rfl rfl) rfl (oG rfl hy3 (stp_load1 ts3 rfl (Cells.ofRO hbac1 1 rfl)) rfl (oG rfl hy3 (stp_eql rfl rfl) rfl (oG rfl hy3 (mv rfl) rfl (ow_cutY 4 22 y4 ?_ ?_)))))
        · rcases Bool.eq_false_or_eq_true (a0.tg == ac1) with hy4 | hy4
          · have ey4 := cond_t ey4 hy4
            refine oO rfl hy4 rfl (oO rfl hy4 rfl (oO rfl hy4 rfl (oG rfl hy3 (stp_pick_t rfl hy4 rfl) rfl ?_)))
            obtain rfl := Option.some.inj ey4
            exact ow_nil (jy 4 0)
          · have ey4 := cond_f ey4 hy4
            refine oG rfl hy4 (fA 1 Tryz.underlying112 rfl ts3 rfl rfl rfl) rfl (oG rfl hy4 (lB 0 ts3 rfl rfl rfl) rfl (oG rfl hy4 (stp_eql rfl rfl) rfl (oG rfl hy3 (stp_pick_f rfl hy4 rfl) rfl ?_)))
            obtain rfl := Option.some.inj ey4
            exact ow_nil (jy 4 0)
        · refine oD (stp_pick_t rfl hy3 rfl) rfl ?_
          obtain rfl := Option.some.inj ey3
          exact ow_nil (jy 7 0)
      · have ey3 := cond_f ey3 hy3
        refine oO rfl hy3 rfl (oO rfl hy3 rfl (oO rfl hy3 rfl (oO rfl hy3 rfl (oO rfl hy3 rfl (oX rfl rfl rfl (oX rfl rfl rfl (oX rfl rfl rfl (oO rfl hy3 rfl (oD (stp_pick_f rfl hy3 rfl) rfl ?_)))))))))
        obtain rfl := Option.some.inj ey3
        exact ow_nil (jy 10 0)
    · refine oD (sg rfl) rfl (nn (cw_ret ?_))
      have q0 := Option.some.inj H0
      subst q0
      exact kw_ret Tryz.results173 (.cons (.tmp rfl) .nil) [] [] trivial (by decide) ⟨rfl, rfl⟩

set_option maxHeartbeats 4000000 in
set_option maxRecDepth 20000 in
theorem c_slices_IndexFunc_Line_of_i_Cache_place_1 (fl : Nat) (w : World) (a0 : (List Ln)) (p0_0 : Option Addr) (n0_0 c0_0 : Nat) (q1_0 : Nat) (a1_0 : Int) (q1_1 : Nat) (a1_1 : Int) (hn0_0 : n0_0 = (a0).length) (hr0_0 : RO w (hkeys []) (RdL p0_0 c0_0 a0)) (hba1_0 : RO w (hkeys []) (fun w' => w'.rangeAt q1_0 0 [.int .i64 a1_0])) (hba1_1 : RO w (hkeys []) (fun w' => w'.rangeAt q1_1 0 [.int .i64 a1_1])) (r : Int) (H0 : slices_IndexFunc_Line_of_i_Cache_place_1 fl a0 a1_0 a1_1 = some r) :
    Ct Tryz.prog 172 [.slice p0_0 n0_0 c0_0, .func (.func 173) #[] #[.pointer (some ⟨q1_0, 0, none⟩), .pointer (some ⟨q1_1, 0, none⟩)]] w [] (fun rv h' => rv = .int .i64 r ∧ h' = []) := by
  obtain rfl := hn0_0
  unfold slices_IndexFunc_Line_of_i_Cache_place_1 at H0
  refine ct_of_cw Tryz.func172 rfl Tryz.ntmps172 rfl (Sat.refl _ _) ?_
  obtain ⟨o0_0, eo0_0, H0⟩ := bind_some H0
  refine sr (oD (sg rfl) rfl (nn (cw_seq (sr (oD (mv rfl) rfl (oD (stp_len Tryz.underlying40 rfl) rfl (oD (mv rfl) rfl (nn (cw_join (ι := Int) (fun | v1 => o0_0 = .out v1) (fun | v1 => [(0, .slice p0_0 ((a0).length) c0_0), (1, .func (.func 173) #[] #[.pointer (some ⟨q1_0, 0, none⟩), .pointer (some ⟨q1_1, 0, none⟩)]), (7, .int .i64 ((a0).length : Int)), (8, .int .i64 v1)]) (fun | v1 => []) ?_ ?_)))))))))
  · refine cw_block (cw_loopS (ι := Nat × Int) (js := []) (fun x => x.1) (fun | (fuel, v1) => slices_IndexFunc_Line_of_i_Cache_place_1_L0 fl a0 a1_0 a1_1 fuel v1 = some o0_0) (fun | (_, v1) => [(0, .slice p0_0 ((a0).length) c0_0), (1, .func (.func 173) #[] #[.pointer (some ⟨q1_0, 0, none⟩), .pointer (some ⟨q1_1, 0, none⟩)]), (7, .int .i64 ((a0).length : Int)), (8, .int .i64 v1)]) (fun | (_, v1) => []) (fl, 0) eo0_0 ⟨rfl, rfl, rfl, rfl, trivial⟩ trivial (by decide) ?_)
    rintro ⟨fuel, v1⟩ H1
    have H1 : slices_IndexFunc_Line_of_i_Cache_place_1_L0 fl a0 a1_0 a1_1 fuel v1 = some o0_0 := H1
    rcases fuel with _ | fuel
    · rw [slices_IndexFunc_Line_of_i_Cache_place_1_L0.eq_1] at H1; cases H1
    rw [slices_IndexFunc_Line_of_i_Cache_place_1_L0.eq_2] at H1
    refine CW.sub (s' := [(0, .slice p0_0 ((a0).length) c0_0), (1, .func (.func 173) #[] #[.pointer (some ⟨q1_0, 0, none⟩), .pointer (some ⟨q1_1, 0, none⟩)]), (7, .int .i64 ((a0).length : Int)), (8, .int .i64 v1)]) (h' := []) ?_ ⟨rfl, rfl, rfl, rfl, trivial⟩ trivial
    refine sr (oD (stp_lss rfl rfl) rfl (nn (cw_seq (cw_cond rfl (fun h2 => ?_) (fun h2 => ?_)))))
    · have H1 := cond_t H1 h2
      obtain ⟨x3, e3, H1⟩ := bind_some H1
      refine cw_skip (kw_nx (cw_seq (cw_block (sr (oD (mv rfl) rfl (oD (sg rfl) rfl (nn (sr (oD (mv rfl) rfl (oD (mv rfl) rfl (oD (mv rfl) rfl (oD (stp_indexAddr Tryz.underlying40 ts112 (by decide) rfl rfl rfl (Rdb.ro hr0_0) e3) rfl (oD (stp_loadN (us := [_, _, _, _, _, _]) ts112 rfl (Cells.el (Rdb.ro hr0_0) (by decide) e3 0 6 rfl)) rfl ?_)))))))))))))
      obtain ⟨x4, e4, H1⟩ := bind_some H1
      refine oE (stpU_callF (vals := [_]) (ca := [_, _]) (fun i => 0 + i) cf173 (fun w hw => c_i_Cache_place_1 fl w x3 q1_0 a1_0 q1_1 a1_1 (RO.pass hba1_0 hw) (RO.pass hba1_1 hw) x4 e4) rfl (sevs_cons rfl sevs_nil)) rfl ?_
      rintro _ _ ⟨_, ⟨rfl, rfl⟩, rfl⟩
      refine nn (cw_cond rfl (fun h5 => ?_) (fun h5 => ?_))
      · have H1 := cond_t H1 h5
        refine sr (oD (mv rfl) rfl (oD (sg rfl) rfl (nn (cw_ret (kw_bl_ret (kw_nx_ret (kw_lq_ret (kw_bl_ret (kw_join_ret (kw_nx_ret ?_))))))))))
        have q1 := Option.some.inj H1
        subst q1
        have q0 := Option.some.inj H0
        subst q0
        exact kw_ret Tryz.results172 (.cons (.tmp rfl) .nil) [] [] trivial (by decide) ⟨rfl, rfl⟩
      · have H1 := cond_f H1 h5
        obtain ⟨x6, e6, H1⟩ := bind_some H1
        exact cw_skip (kw_bl_normal (kw_nx (cw_region (oD (stp_add rfl rfl e6) rfl (oD (mv rfl) rfl (ow_nil (kw_lqS (js := []) (fuel, x6) H1 (Nat.lt_succ_self _) ⟨rfl, rfl, rfl, rfl, trivial⟩ trivial (by decide))))))))
    · have H1 := cond_f H1 h2
      refine cw_exit (kw_nx_exit (kw_lq_exit (kw_bl ?_)))
      have q1 := Option.some.inj H1
      subst q1
      exact kw_joinS (js := []) v1 rfl ⟨rfl, rfl, rfl, rfl, trivial⟩ trivial (by decide)
  · rintro v1 rfl
    refine KW.sub (s' := [(0, .slice p0_0 ((a0).length) c0_0), (1, .func (.func 173) #[] #[.pointer (some ⟨q1_0, 0, none⟩), .pointer (some ⟨q1_1, 0, none⟩)]), (7, .int .i64 ((a0).length : Int)), (8, .int .i64 v1)]) (h' := []) ?_ ⟨rfl, rfl, rfl, rfl, trivial⟩ trivial
    refine kw_nx (sr (oD (sg rfl) rfl (nn (cw_ret ?_))))
    have q0 := Option.some.inj H0
    subst q0
    exact kw_ret Tryz.results172 (.cons (.tmp rfl) .nil) [] [] trivial (by decide) ⟨rfl, rfl⟩

set_option maxHeartbeats 4000000 in
set_option maxRecDepth 20000 in
theorem c_i_Cache_place (fl : Nat) (w : World) (a0 : Ca) (p0_0 : Option Addr) (n0_0 c0_0 : Nat) (a1 : Int) (a2 : Int) (hn0_0 : n0_0 = (a0.l).length) (hr0_0 : RO w (hkeys []) (RdL p0_0 c0_0 a0.l)) (r : Int) (H0 : i_Cache_place fl a0 a1 a2 = some r) :
    Ct Tryz.prog 93 [.agg #[.slice p0_0 n0_0 c0_0, .int .i64 a0.h], .int .i64 a1, .int .i64 a2] w [] (fun rv h' => rv = .int .i64 r ∧ h' = []) := by
  obtain rfl := hn0_0
  unfold i_Cache_place at H0
  refine ct_of_cw Tryz.func93 rfl Tryz.ntmps93 rfl (Sat.refl _ _) ?_
  refine sr (oE (stpU_box 0 rfl rfl) rfl ?_)
  rintro _ _ ⟨b1, rfl, rfl⟩
  refine oE (stpU_box 1 rfl rfl) rfl ?_
  rintro _ _ ⟨b2, rfl, rfl⟩
  refine oE (stpU_box 2 rfl rfl) rfl ?_
  rintro _ _ ⟨b3, rfl, rfl⟩
  obtain ⟨x4, e4, H0⟩ := bind_some H0
  refine oD (sg rfl) rfl (nn (sr (oD (fA 0 Tryz.underlying42 rfl ts40 rfl rfl rfl) rfl (oD (lB 0 ts40 rfl rfl rfl) rfl (oD (stp_makeFunc (sevs_cons rfl (sevs_cons rfl sevs_nil))) rfl (oE (stpU_call (fun i => 3 + i) cf172 (fun w hw => c_slices_IndexFunc_Line_of_i_Cache_place_1 fl w a0.l p0_0 ((a0.l).length) c0_0 b3 a2 b2 a1 rfl (RO.pass hr0_0 hw) (box_pass (id := 2) rfl hw) (box_pass (id := 1) rfl hw) x4 e4) (sevs_cons rfl (sevs_cons rfl sevs_nil))) rfl ?_))))))
  rintro _ _ ⟨_, ⟨rfl, rfl⟩, rfl⟩
  refine oD (sg rfl) rfl (nn (cw_ret ?_))
  have q0 := Option.some.inj H0
  subst q0
  exact kw_ret Tryz.results93 (.cons (.tmp rfl) .nil) [] [] trivial (by decide) ⟨rfl, rfl⟩
end Go.Proofs.YtbgodaeccgjdgaaGreatDoor
