/- The walks: functions of the program return what their pure functions say. Printed by a program (gen.py). -/
import Derived.Test.YtbgodaeccgjdgaaGreatDoorGp
import Derived.Test.YtbgodaeccgjdgaaGreatDoorGt
import Derived.Test.YtbgodaeccgjdgaaGreatDoorMan
import Derived.Test.YtbgodaeccgjdgaaGreatDoorMap
import Derived.Test.YtbgodaeccgjdgaaGreatDoorGwaa
import Derived.Test.YtbgodaeccgjdgaaGreatDoorGwab
import Derived.Test.YtbgodaeccgjdgaaGreatDoorGwac
import Derived.Test.YtbgodaeccgjdgaaGreatDoorGwad
import Derived.Test.YtbgodaeccgjdgaaGreatDoorGwaj
set_option linter.unusedSimpArgs false
set_option linter.unusedVariables false
set_option linter.unusedSectionVars false
namespace Go.Proofs.YtbgodaeccgjdgaaGreatDoor
open Go.RowKit
set_option maxHeartbeats 4000000 in
set_option maxRecDepth 20000 in
theorem c_s_FindPage (fl : Nat) (w : World) (a0 : T) (p0_0 : Option Addr) (n0_0 c0_0 : Nat) (p0_1 : Option Addr) (n0_1 c0_1 : Nat) (a1 : K) (hn0_0 : n0_0 = (a0.b).length) (hr0_0 : RO w (hkeys []) (RdL p0_0 c0_0 a0.b)) (hn0_1 : n0_1 = (a0.f).length) (hr0_1 : RO w (hkeys []) (RdL p0_1 c0_1 a0.f)) (r : Int × Int × Bool) (H0 : s_FindPage fl a0 a1 = some r) :
    Ct Tryz.prog 163 [.agg #[.slice p0_0 n0_0 c0_0, .slice p0_1 n0_1 c0_1], .agg #[.int .i64 a1.s, .int .i64 a1.p]] w [] (fun rv h' => rv = .tuple #[.int .i64 r.1, .int .i64 r.2.1, .bool r.2.2] ∧ h' = []) := by
  obtain rfl := hn0_0
  obtain rfl := hn0_1
  unfold s_FindPage at H0
  refine ct_of_cw Tryz.func163 rfl Tryz.ntmps163 rfl (Sat.refl _ _) ?_
  refine sr (oE (stpU_box 0 rfl rfl) rfl ?_)
  rintro _ _ ⟨b1, rfl, rfl⟩
  refine oE (stpU_box 1 rfl rfl) rfl ?_
  rintro _ _ ⟨b2, rfl, rfl⟩
  obtain ⟨x3, e3, H0⟩ := bind_some H0
  refine oD (sg rfl) rfl (oD (sg rfl) rfl (oD (sg rfl) rfl (nn (cw_seq (sr (oD (stp_loadN (us := [_, _]) ts39 rfl (Cells.box (id := 0) rfl 2 rfl)) rfl (oE (stpU_call (fun i => 2 + i) cf124 (fun w hw => c_s_TableValid fl w a0 p0_0 ((a0.b).length) c0_0 p0_1 ((a0.f).length) c0_1 rfl (RO.pass hr0_0 hw) rfl (RO.pass hr0_1 hw) x3 e3) (sevs_cons rfl sevs_nil)) rfl ?_)))))))
  rintro _ _ ⟨_, ⟨rfl, rfl⟩, rfl⟩
  obtain ⟨y4, ey4, H0⟩ := bind_some H0
  refine oD (stp_not rfl) rfl (oD (mv rfl) rfl (ow_cutY 4 16 y4 ?_ ?_))
  · rcases Bool.eq_false_or_eq_true (!x3) with hy4 | hy4
    · have ey4 := cond_t ey4 hy4
      refine oO rfl hy4 rfl (oO rfl hy4 rfl (oO rfl hy4 rfl (oD (stp_pick_t rfl hy4 rfl) rfl ?_)))
      obtain rfl := Option.some.inj ey4
      exact ow_nil (jy 4 0)
    · have ey4 := cond_f ey4 hy4
      obtain ⟨x5, e5, ey4⟩ := bind_some ey4
      refine oG rfl hy4 (stp_loadN (us := [_, _]) ts51 rfl (Cells.box (id := 1) rfl 2 rfl)) rfl (ow_eff (.some rfl hy4) (stpU_call (fun i => 2 + i) cf129 (fun w hw => c_s_KeyValid fl w a1 x5 e5) (sevs_cons rfl sevs_nil)) rfl ?_)
      rintro _ _ ⟨_, ⟨rfl, rfl⟩, rfl⟩
      refine oG rfl hy4 (stp_not rfl) rfl (oD (stp_pick_f rfl hy4 rfl) rfl ?_)
      obtain rfl := Option.some.inj ey4
      exact ow_nil (jy 4 0)
  · refine ow_nil (kw_nx (cw_cond rfl (fun h6 => ?_) (fun h6 => ?_)))
    · have H0 := cond_t H0 h6
      refine sr (oD (sg rfl) rfl (oD (sg rfl) rfl (oD (sg rfl) rfl (nn (cw_ret (kw_nx_ret ?_))))))
      have q0 := Option.some.inj H0
      subst q0
      exact kw_ret Tryz.results163 (.cons (.tmp rfl) (.cons (.tmp rfl) (.cons (.tmp rfl) .nil))) [] [] trivial (by decide) ⟨rfl, rfl⟩
    · have H0 := cond_f H0 h6
      obtain ⟨x7, e7, H0⟩ := bind_some H0
      refine cw_skip (kw_nx (sr (oD (stp_loadN (us := [_, _]) ts39 rfl (Cells.box (id := 0) rfl 2 rfl)) rfl (oD (stp_loadN (us := [_, _]) ts51 rfl (Cells.box (id := 1) rfl 2 rfl)) rfl (oE (stpU_call (fun i => 2 + i) cf86 (fun w hw => c_s_l3Find fl w a0 p0_0 ((a0.b).length) c0_0 p0_1 ((a0.f).length) c0_1 a1 rfl (RO.pass hr0_0 hw) rfl (RO.pass hr0_1 hw) x7 e7) (sevs_cons rfl (sevs_cons rfl sevs_nil))) rfl ?_)))))
      rintro _ _ ⟨_, ⟨rfl, rfl⟩, rfl⟩
      refine oD (mv rfl) rfl (oD (stp_extract rfl rfl) rfl (oD (stp_extract rfl rfl) rfl (oD (sg rfl) rfl (oD (sg rfl) rfl (nn (cw_seq (sr (oD (mv rfl) rfl (oD (stp_lss rfl rfl) rfl (nn (cw_cond rfl (fun h8 => ?_) (fun h8 => ?_))))))))))))
      · have H0 := cond_t H0 h8
        refine sr (oD (mv rfl) rfl (oD (sg rfl) rfl (oD (sg rfl) rfl (oD (sg rfl) rfl (nn (cw_ret (kw_nx_ret ?_)))))))
        have q0 := Option.some.inj H0
        subst q0
        exact kw_ret Tryz.results163 (.cons (.tmp rfl) (.cons (.tmp rfl) (.cons (.tmp rfl) .nil))) [] [] trivial (by decide) ⟨rfl, rfl⟩
      · have H0 := cond_f H0 h8
        refine cw_skip (kw_nx (sr (oD (mv rfl) rfl (oD (mv rfl) rfl (oD (sg rfl) rfl (oD (sg rfl) rfl (oD (sg rfl) rfl (nn (cw_ret ?_)))))))))
        have q0 := Option.some.inj H0
        subst q0
        exact kw_ret Tryz.results163 (.cons (.tmp rfl) (.cons (.tmp rfl) (.cons (.tmp rfl) .nil))) [] [] trivial (by decide) ⟨rfl, rfl⟩

set_option maxHeartbeats 4000000 in
set_option maxRecDepth 20000 in
theorem c_s_l4Tag (fl : Nat) (w : World) (a0 : Int) (r : Bool) (H0 : s_l4Tag fl a0 = some r) :
    Ct Tryz.prog 216 [.int .i64 a0] w [] (fun rv h' => rv = .bool r ∧ h' = []) := by
  unfold s_l4Tag at H0
  refine ct_of_cw Tryz.func216 rfl Tryz.ntmps216 rfl (Sat.refl _ _) ?_
  obtain ⟨y1, ey1, H0⟩ := bind_some H0
  refine sr (oD (sg rfl) rfl (nn (sr (oD (mv rfl) rfl (oD (stp_geq rfl rfl) rfl (oD (mv rfl) rfl (ow_cutY 3 8 y1 ?_ ?_)))))))
  · rcases Bool.eq_false_or_eq_true (decide ((-1) ≤ a0)) with hy1 | hy1
    · have ey1 := cond_t ey1 hy1
      refine oG rfl hy1 (mv rfl) rfl (oG rfl hy1 (stp_lss rfl rfl) rfl (oD (stp_pick_t rfl hy1 rfl) rfl ?_))
      obtain rfl := Option.some.inj ey1
      exact ow_nil (jy 3 0)
    · have ey1 := cond_f ey1 hy1
      refine oO rfl hy1 rfl (oO rfl hy1 rfl (oD (stp_pick_f rfl hy1 rfl) rfl ?_))
      obtain rfl := Option.some.inj ey1
      exact ow_nil (jy 3 0)
  · refine oD (sg rfl) rfl (nn (cw_ret ?_))
    have q0 := Option.some.inj H0
    subst q0
    exact kw_ret Tryz.results216 (.cons (.tmp rfl) .nil) [] [] trivial (by decide) ⟨rfl, rfl⟩

set_option maxHeartbeats 4000000 in
set_option maxRecDepth 20000 in
theorem c_s_FindLine (fl : Nat) (w : World) (a0 : Ca) (p0_0 : Option Addr) (n0_0 c0_0 : Nat) (a1 : Int) (a2 : Int) (hn0_0 : n0_0 = (a0.l).length) (hr0_0 : RO w (hkeys []) (RdL p0_0 c0_0 a0.l)) (r : Int × Bool) (H0 : s_FindLine fl a0 a1 a2 = some r) :
    Ct Tryz.prog 206 [.agg #[.slice p0_0 n0_0 c0_0, .int .i64 a0.h], .int .i64 a1, .int .i64 a2] w [] (fun rv h' => rv = .tuple #[.int .i64 r.1, .bool r.2] ∧ h' = []) := by
  obtain rfl := hn0_0
  unfold s_FindLine at H0
  refine ct_of_cw Tryz.func206 rfl Tryz.ntmps206 rfl (Sat.refl _ _) ?_
  refine sr (oE (stpU_box 0 rfl rfl) rfl ?_)
  rintro _ _ ⟨b1, rfl, rfl⟩
  obtain ⟨x2, e2, H0⟩ := bind_some H0
  refine oD (sg rfl) rfl (oD (sg rfl) rfl (nn (cw_seq (sr (oD (stp_loadN (us := [_, _]) ts42 rfl (Cells.box (id := 0) rfl 2 rfl)) rfl (oE (stpU_call (fun i => 1 + i) cf125 (fun w hw => c_s_CacheValid fl w a0 p0_0 ((a0.l).length) c0_0 rfl (RO.pass hr0_0 hw) x2 e2) (sevs_cons rfl sevs_nil)) rfl ?_))))))
  rintro _ _ ⟨_, ⟨rfl, rfl⟩, rfl⟩
  obtain ⟨y3, ey3, H0⟩ := bind_some H0
  refine oD (stp_not rfl) rfl (oD (mv rfl) rfl (ow_cutY 4 16 y3 ?_ ?_))
  · rcases Bool.eq_false_or_eq_true (!x2) with hy3 | hy3
    · have ey3 := cond_t ey3 hy3
      refine oO rfl hy3 rfl (oO rfl hy3 rfl (oO rfl hy3 rfl (oD (stp_pick_t rfl hy3 rfl) rfl ?_)))
      obtain rfl := Option.some.inj ey3
      exact ow_nil (jy 4 0)
    · have ey3 := cond_f ey3 hy3
      obtain ⟨x4, e4, ey3⟩ := bind_some ey3
      refine oG rfl hy3 (mv rfl) rfl (ow_eff (.some rfl hy3) (stpU_call (fun i => 1 + i) cf216 (fun w hw => c_s_l4Tag fl w a1 x4 e4) (sevs_cons rfl sevs_nil)) rfl ?_)
      rintro _ _ ⟨_, ⟨rfl, rfl⟩, rfl⟩
      refine oG rfl hy3 (stp_not rfl) rfl (oD (stp_pick_f rfl hy3 rfl) rfl ?_)
      obtain rfl := Option.some.inj ey3
      exact ow_nil (jy 4 0)
  · obtain ⟨y5, ey5, H0⟩ := bind_some H0
    refine oD (mv rfl) rfl (ow_cutY 4 21 y5 ?_ ?_)
    · rcases Bool.eq_false_or_eq_true y3 with hy5 | hy5
      · have ey5 := cond_t ey5 hy5
        refine oO rfl hy5 rfl (oO rfl hy5 rfl (oO rfl hy5 rfl (oD (stp_pick_t rfl hy5 rfl) rfl ?_)))
        obtain rfl := Option.some.inj ey5
        exact ow_nil (jy 4 0)
      · have ey5 := cond_f ey5 hy5
        obtain ⟨x6, e6, ey5⟩ := bind_some ey5
        refine oG rfl hy5 (mv rfl) rfl (ow_eff (.some rfl hy5) (stpU_call (fun i => 1 + i) cf82 (fun w hw => c_s_l1Page fl w a2 x6 e6) (sevs_cons rfl sevs_nil)) rfl ?_)
        rintro _ _ ⟨_, ⟨rfl, rfl⟩, rfl⟩
        refine oG rfl hy5 (stp_not rfl) rfl (oD (stp_pick_f rfl hy5 rfl) rfl ?_)
        obtain rfl := Option.some.inj ey5
        exact ow_nil (jy 4 0)
    · refine ow_nil (kw_nx (cw_cond rfl (fun h7 => ?_) (fun h7 => ?_)))
      · have H0 := cond_t H0 h7
        refine sr (oD (sg rfl) rfl (oD (sg rfl) rfl (nn (cw_ret (kw_nx_ret ?_)))))
        have q0 := Option.some.inj H0
        subst q0
        exact kw_ret Tryz.results206 (.cons (.tmp rfl) (.cons (.tmp rfl) .nil)) [] [] trivial (by decide) ⟨rfl, rfl⟩
      · have H0 := cond_f H0 h7
        obtain ⟨x8, e8, H0⟩ := bind_some H0
        refine cw_skip (kw_nx (sr (oD (stp_loadN (us := [_, _]) ts42 rfl (Cells.box (id := 0) rfl 2 rfl)) rfl (oD (mv rfl) rfl (oD (mv rfl) rfl (oE (stpU_call (fun i => 1 + i) cf85 (fun w hw => c_s_l4Find fl w a0 p0_0 ((a0.l).length) c0_0 a1 a2 rfl (RO.pass hr0_0 hw) x8 e8) (sevs_cons rfl (sevs_cons rfl (sevs_cons rfl sevs_nil)))) rfl ?_))))))
        rintro _ _ ⟨_, ⟨rfl, rfl⟩, rfl⟩
        refine oD (sg rfl) rfl (nn (cw_seq (sr (oD (mv rfl) rfl (oD (stp_lss rfl rfl) rfl (nn (cw_cond rfl (fun h9 => ?_) (fun h9 => ?_))))))))
        · have H0 := cond_t H0 h9
          refine sr (oD (sg rfl) rfl (oD (sg rfl) rfl (nn (cw_ret (kw_nx_ret ?_)))))
          have q0 := Option.some.inj H0
          subst q0
          exact kw_ret Tryz.results206 (.cons (.tmp rfl) (.cons (.tmp rfl) .nil)) [] [] trivial (by decide) ⟨rfl, rfl⟩
        · have H0 := cond_f H0 h9
          refine cw_skip (kw_nx (sr (oD (mv rfl) rfl (oD (sg rfl) rfl (oD (sg rfl) rfl (nn (cw_ret ?_)))))))
          have q0 := Option.some.inj H0
          subst q0
          exact kw_ret Tryz.results206 (.cons (.tmp rfl) (.cons (.tmp rfl) .nil)) [] [] trivial (by decide) ⟨rfl, rfl⟩

set_option maxHeartbeats 4000000 in
set_option maxRecDepth 20000 in
theorem c_s_DropPage (fl : Nat) (w : World) (a0 : Ca) (p0_0 : Option Addr) (n0_0 c0_0 : Nat) (a1 : Int) (a2 : Int) (hn0_0 : n0_0 = (a0.l).length) (hr0_0 : RO w (hkeys []) (RdL p0_0 c0_0 a0.l)) (r : Ca × Bool) (H0 : s_DropPage fl a0 a1 a2 = some r) :
    Ct Tryz.prog 164 [.agg #[.slice p0_0 n0_0 c0_0, .int .i64 a0.h], .int .i64 a1, .int .i64 a2] w [] (fun rv h' => ∃ (x0 : Option Addr) (y0 z0 : Nat) (C0 : Res), rv = .tuple #[.agg #[.slice x0 y0 z0, .int .i64 r.1.h], .bool r.2] ∧ h' = [(0, C0)] ∧ y0 = (r.1.l).length ∧ OwnC 112 x0 z0 r.1.l C0) := by
  obtain rfl := hn0_0
  unfold s_DropPage at H0
  refine ct_of_cw Tryz.func164 rfl Tryz.ntmps164 rfl (Sat.refl _ _) ?_
  refine sr (oE (stpU_box 0 rfl rfl) rfl ?_)
  rintro _ _ ⟨b1, rfl, rfl⟩
  refine oE (stpU_alloc 1 tz42 rfl) rfl ?_
  rintro _ _ ⟨b2, rfl, rfl⟩
  obtain ⟨x3, e3, H0⟩ := bind_some H0
  refine oD (sg rfl) rfl (nn (sr (oD (stp_loadN (us := [_, _]) ts42 rfl (Cells.box (id := 0) rfl 2 rfl)) rfl (oD (mv rfl) rfl (oD (mv rfl) rfl (oE (stpU_call (fun i => 2 + i) cf206 (fun w hw => c_s_FindLine fl w a0 p0_0 ((a0.l).length) c0_0 a1 a2 rfl (RO.pass hr0_0 hw) x3 e3) (sevs_cons rfl (sevs_cons rfl (sevs_cons rfl sevs_nil)))) rfl ?_))))))
  rintro _ _ ⟨_, ⟨rfl, rfl⟩, rfl⟩
  refine oD (mv rfl) rfl (oD (stp_extract rfl rfl) rfl (oD (stp_extract rfl rfl) rfl (oD (sg rfl) rfl (oD (sg rfl) rfl (nn (cw_seq (sr (oD (mv rfl) rfl (oD (stp_not rfl) rfl (nn (cw_cond rfl (fun h4 => ?_) (fun h4 => ?_))))))))))))
  · have H0 := cond_t H0 h4
    refine sr (oD (stp_build (cs := #[.slice none 0 0, .int .i64 0]) sevp_nil bt42_14) rfl (oF (stpU_store (id := 1) (cs' := [.slice none 0 0, .int .i64 0]) ts42 rfl rfl rfl rfl rfl rfl rfl) ?_))
    rintro _ _ rfl
    refine oD (sg rfl) rfl (nn (cw_ret (kw_nx_ret (kw_addNil 2 ?_))))
    have q0 := Option.some.inj H0
    subst q0
    exact kw_ret Tryz.results164 (.cons (.cellN (us := [_, _]) ts42 rfl (Cells.box (id := 1) rfl 2 rfl)) (.cons (.tmp rfl) .nil)) [(0, [])] [2] ⟨2, [], rfl, rfl, trivial⟩ (by decide) ⟨none, 0, 0, [], rfl, rfl, rfl, (OwnC.nil _ _)⟩
  · have H0 := cond_f H0 h4
    obtain ⟨x5, e5, H0⟩ := bind_some H0
    refine cw_skip (kw_nx (sr (oD (stp_loadN (us := [_, _]) ts42 rfl (Cells.box (id := 0) rfl 2 rfl)) rfl (oE (stpU_call (fun i => 3 + i) cf132 (fun w hw => c_s_l4Copy fl w a0 p0_0 ((a0.l).length) c0_0 rfl (RO.pass hr0_0 hw) x5 e5) (sevs_cons rfl sevs_nil)) rfl ?_))))
    rintro _ _ ⟨_, ⟨p6, n7, c8, C9, rfl, rfl, hnn7, o9⟩, rfl⟩
    obtain rfl := hnn7
    refine oE (stpU_alloc 4 tz42 rfl) rfl ?_
    rintro _ _ ⟨b10, rfl, rfl⟩
    refine oF (stpU_store (id := 4) (cs' := [.slice p6 ((x5.l).length) c8, .int .i64 x5.h]) ts42 rfl rfl rfl rfl rfl rfl rfl) ?_
    rintro _ _ rfl
    obtain ⟨x11, e11, H0⟩ := bind_some H0
    refine nn (sr (oD (fA 0 Tryz.underlying42 rfl ts40 rfl rfl rfl) rfl (oD (lB 4 ts40 rfl rfl rfl) rfl (oD (mv rfl) rfl (oD (stp_build (cs := #[.bool false, .int .i64 0, .int .i64 0, .int .i64 0, .int .i64 0, .bool false]) sevp_nil bt112_0) rfl (oD (stp_indexAddr Tryz.underlying40 ts112 (by decide) rfl rfl rfl (Rdb.own (id := 3) rfl o9) e11) rfl (oF (stpU_storeEl (id := 3) (i := 0) (⟨false, 0, 0, 0, 0, false⟩ : Ln) (by decide) ts112 rfl rfl rfl o9 e11 rfl rfl rfl rfl) ?_)))))))
    rintro _ _ ⟨C12, rfl, o12⟩
    refine nn (sr (oD (stp_loadN (us := [_, _]) ts42 rfl (Cells.box (id := 4) rfl 2 rfl)) rfl (oF (stpU_store (id := 1) (cs' := [.slice p6 ((x5.l).length) c8, .int .i64 x5.h]) ts42 rfl rfl rfl rfl rfl rfl rfl) ?_)))
    rintro _ _ rfl
    refine oD (sg rfl) rfl (nn (cw_ret ?_))
    have q0 := Option.some.inj H0
    subst q0
    exact kw_ret Tryz.results164 (.cons (.cellN (us := [_, _]) ts42 rfl (Cells.box (id := 1) rfl 2 rfl)) (.cons (.tmp rfl) .nil)) [(0, C12)] [3] ⟨3, [], rfl, rfl, trivial⟩ (by decide) ⟨p6, ((x5.l).length), c8, C12, rfl, rfl, (by simp), o12⟩

set_option maxHeartbeats 4000000 in
set_option maxRecDepth 20000 in
theorem c_s_l6Forget (fl : Nat) (w : World) (a0 : Mc) (p0_0 : Option Addr) (n0_0 c0_0 : Nat) (p0_1 : Option Addr) (n0_1 c0_1 : Nat) (p0_2 : Option Addr) (n0_2 c0_2 : Nat) (p0_3 : Option Addr) (n0_3 c0_3 : Nat) (a1 : K) (hn0_0 : n0_0 = (a0.t.b).length) (hr0_0 : RO w (hkeys []) (RdL p0_0 c0_0 a0.t.b)) (hn0_1 : n0_1 = (a0.t.f).length) (hr0_1 : RO w (hkeys []) (RdL p0_1 c0_1 a0.t.f)) (hn0_2 : n0_2 = (a0.c.l).length) (hr0_2 : RO w (hkeys []) (RdL p0_2 c0_2 a0.c.l)) (hn0_3 : n0_3 = (a0.g.o).length) (hr0_3 : RO w (hkeys []) (RdL p0_3 c0_3 a0.g.o)) (r : Mc) (H0 : s_l6Forget fl a0 a1 = some r) :
    Ct Tryz.prog 77 [.agg #[.slice p0_0 n0_0 c0_0, .slice p0_1 n0_1 c0_1, .slice p0_2 n0_2 c0_2, .int .i64 a0.c.h, .int .i64 a0.g.c, .int .i64 a0.g.n, .int .i64 a0.g.r, .slice p0_3 n0_3 c0_3, .int .i64 a0.s], .agg #[.int .i64 a1.s, .int .i64 a1.p]] w [] (fun rv h' => ∃ (x0 : Option Addr) (y0 z0 : Nat) (C0 : Res) (x1 : Option Addr) (y1 z1 : Nat) (C1 : Res) (x2 : Option Addr) (y2 z2 : Nat) (C2 : Res) (x3 : Option Addr) (y3 z3 : Nat) (C3 : Res), rv = .agg #[.slice x0 y0 z0, .slice x1 y1 z1, .slice x2 y2 z2, .int .i64 r.c.h, .int .i64 r.g.c, .int .i64 r.g.n, .int .i64 r.g.r, .slice x3 y3 z3, .int .i64 r.s] ∧ h' = [(0, C0), (1, C1), (2, C2), (3, C3)] ∧ y0 = (r.t.b).length ∧ OwnC 3 x0 z0 r.t.b C0 ∧ y1 = (r.t.f).length ∧ OwnC 127 x1 z1 r.t.f C1 ∧ y2 = (r.c.l).length ∧ OwnC 112 x2 z2 r.c.l C2 ∧ y3 = (r.g.o).length ∧ OwnC 148 x3 z3 r.g.o C3) := by
  obtain rfl := hn0_0
  obtain rfl := hn0_1
  obtain rfl := hn0_2
  obtain rfl := hn0_3
  unfold s_l6Forget at H0
  refine ct_of_cw Tryz.func77 rfl Tryz.ntmps77 rfl (Sat.refl _ _) ?_
  refine sr (oE (stpU_box 0 rfl rfl) rfl ?_)
  rintro _ _ ⟨b1, rfl, rfl⟩
  refine oE (stpU_box 1 rfl rfl) rfl ?_
  rintro _ _ ⟨b2, rfl, rfl⟩
  refine oE (stpU_alloc 2 tz47 rfl) rfl ?_
  rintro _ _ ⟨b3, rfl, rfl⟩
  obtain ⟨x4, e4, H0⟩ := bind_some H0
  refine nn (sr (oD (stp_loadN (us := [_, _, _, _, _, _, _, _, _]) ts47 rfl (Cells.box (id := 0) rfl 9 rfl)) rfl (oE (stpU_call (fun i => 3 + i) cf56 (fun w hw => c_s_l6Copy fl w a0 p0_0 ((a0.t.b).length) c0_0 p0_1 ((a0.t.f).length) c0_1 p0_2 ((a0.c.l).length) c0_2 p0_3 ((a0.g.o).length) c0_3 rfl (RO.pass hr0_0 hw) rfl (RO.pass hr0_1 hw) rfl (RO.pass hr0_2 hw) rfl (RO.pass hr0_3 hw) x4 e4) (sevs_cons rfl sevs_nil)) rfl ?_)))
  rintro _ _ ⟨_, ⟨p5, n6, c7, C8, p9, n10, c11, C12, p13, n14, c15, C16, p17, n18, c19, C20, rfl, rfl, hnn6, o8, hnn10, o12, hnn14, o16, hnn18, o20⟩, rfl⟩
  obtain rfl := hnn6
  obtain rfl := hnn10
  obtain rfl := hnn14
  obtain rfl := hnn18
  refine oE (stpU_alloc 7 tz47 rfl) rfl ?_
  rintro _ _ ⟨b21, rfl, rfl⟩
  refine oF (stpU_store (id := 7) (cs' := [.slice p5 ((x4.t.b).length) c7, .slice p9 ((x4.t.f).length) c11, .slice p13 ((x4.c.l).length) c15, .int .i64 x4.c.h, .int .i64 x4.g.c, .int .i64 x4.g.n, .int .i64 x4.g.r, .slice p17 ((x4.g.o).length) c19, .int .i64 x4.s]) ts47 rfl rfl rfl rfl rfl rfl rfl) ?_
  rintro _ _ rfl
  obtain ⟨x22, e22, H0⟩ := bind_some H0
  refine nn (sr (oD (stp_loadN (us := [_, _, _, _, _, _, _, _, _]) ts47 rfl (Cells.box (id := 0) rfl 9 rfl)) rfl (oD (fA 0 Tryz.underlying51 rfl ts3 rfl rfl rfl) rfl (oD (lB 1 ts3 rfl rfl rfl) rfl (oD (fA 1 Tryz.underlying51 rfl ts3 rfl rfl rfl) rfl (oD (lB 1 ts3 rfl rfl rfl) rfl (oE (stpU_call (fun i => 8 + i) cf84 (fun w hw => c_s_l6Tag fl w a0 p0_0 ((a0.t.b).length) c0_0 p0_1 ((a0.t.f).length) c0_1 p0_2 ((a0.c.l).length) c0_2 p0_3 ((a0.g.o).length) c0_3 a1.s a1.p rfl (RO.pass hr0_0 hw) rfl (RO.pass hr0_1 hw) rfl (RO.pass hr0_2 hw) rfl (RO.pass hr0_3 hw) x22 e22) (sevs_cons rfl (sevs_cons rfl (sevs_cons rfl sevs_nil)))) rfl ?_)))))))
  rintro _ _ ⟨_, ⟨rfl, rfl⟩, rfl⟩
  refine oD (mv rfl) rfl (oD (stp_extract rfl rfl) rfl (oD (stp_extract rfl rfl) rfl (oD (sg rfl) rfl (oD (sg rfl) rfl (nn (cw_seq (sr (oD (mv rfl) rfl (oD (stp_not rfl) rfl (nn (cw_cond rfl (fun h23 => ?_) (fun h23 => ?_))))))))))))
  · have H0 := cond_t H0 h23
    refine sr (oD (stp_loadN (us := [_, _, _, _, _, _, _, _, _]) ts47 rfl (Cells.box (id := 7) rfl 9 rfl)) rfl (oF (stpU_store (id := 2) (cs' := [.slice p5 ((x4.t.b).length) c7, .slice p9 ((x4.t.f).length) c11, .slice p13 ((x4.c.l).length) c15, .int .i64 x4.c.h, .int .i64 x4.g.c, .int .i64 x4.g.n, .int .i64 x4.g.r, .slice p17 ((x4.g.o).length) c19, .int .i64 x4.s]) ts47 rfl rfl rfl rfl rfl rfl rfl) ?_))
    rintro _ _ rfl
    refine nn (cw_ret (kw_nx_ret ?_))
    have q0 := Option.some.inj H0
    subst q0
    exact kw_ret Tryz.results77 (.cons (.cellN (us := [_, _, _, _, _, _, _, _, _]) ts47 rfl (Cells.box (id := 2) rfl 9 rfl)) .nil) [(0, C8), (1, C12), (2, C16), (3, C20)] [3, 4, 5, 6] ⟨3, [4, 5, 6], rfl, rfl, 4, [5, 6], rfl, rfl, 5, [6], rfl, rfl, 6, [], rfl, rfl, trivial⟩ (by decide) ⟨p5, ((x4.t.b).length), c7, C8, p9, ((x4.t.f).length), c11, C12, p13, ((x4.c.l).length), c15, C16, p17, ((x4.g.o).length), c19, C20, rfl, rfl, rfl, o8, rfl, o12, rfl, o16, rfl, o20⟩
  · have H0 := cond_f H0 h23
    obtain ⟨x24, e24, H0⟩ := bind_some H0
    refine cw_skip (kw_nx (sr (oD (fA 2 Tryz.underlying47 rfl ts42 rfl rfl rfl) rfl (oD (stp_loadN (us := [_, _]) ts42 rfl (Cells.box (id := 0) rfl 2 rfl)) rfl (oD (mv rfl) rfl (oD (fA 1 Tryz.underlying51 rfl ts3 rfl rfl rfl) rfl (oD (lB 1 ts3 rfl rfl rfl) rfl (oE (stpU_call (fun i => 8 + i) cf164 (fun w hw => c_s_DropPage fl w a0.c p0_2 ((a0.c.l).length) c0_2 x22.1 a1.p rfl (RO.pass hr0_2 hw) x24 e24) (sevs_cons rfl (sevs_cons rfl (sevs_cons rfl sevs_nil)))) rfl ?_))))))))
    rintro _ _ ⟨_, ⟨p25, n26, c27, C28, rfl, rfl, hnn26, o28⟩, rfl⟩
    obtain rfl := hnn26
    refine oD (mv rfl) rfl (oD (stp_extract rfl rfl) rfl (oD (stp_extract rfl rfl) rfl (oE (stpU_alloc 9 tz42 rfl) rfl ?_)))
    rintro _ _ ⟨b29, rfl, rfl⟩
    refine oF (stpU_store (id := 9) (cs' := [.slice p25 ((x24.1.l).length) c27, .int .i64 x24.1.h]) ts42 rfl rfl rfl rfl rfl rfl rfl) ?_
    rintro _ _ rfl
    refine oD (sg rfl) rfl (nn (cw_seq (sr (oD (mv rfl) rfl (nn (cw_cond rfl (fun h30 => ?_) (fun h30 => ?_)))))))
    · have H0 := cond_t H0 h30
      refine cw_region (oD (stp_loadN (us := [_, _]) ts42 rfl (Cells.box (id := 9) rfl 2 rfl)) rfl (oD (fA 2 Tryz.underlying47 rfl ts42 rfl rfl rfl) rfl (oF (stpU_store (id := 7) (cs' := [.slice p5 ((x4.t.b).length) c7, .slice p9 ((x4.t.f).length) c11, .slice p25 ((x24.1.l).length) c27, .int .i64 x24.1.h, .int .i64 x4.g.c, .int .i64 x4.g.n, .int .i64 x4.g.r, .slice p17 ((x4.g.o).length) c19, .int .i64 x4.s]) ts42 rfl rfl rfl rfl rfl rfl rfl) ?_)))
      rintro _ _ rfl
      refine nn (sr (oD (stp_loadN (us := [_, _, _, _, _, _, _, _, _]) ts47 rfl (Cells.box (id := 7) rfl 9 rfl)) rfl (oF (stpU_store (id := 2) (cs' := [.slice p5 ((x4.t.b).length) c7, .slice p9 ((x4.t.f).length) c11, .slice p25 ((x24.1.l).length) c27, .int .i64 x24.1.h, .int .i64 x4.g.c, .int .i64 x4.g.n, .int .i64 x4.g.r, .slice p17 ((x4.g.o).length) c19, .int .i64 x4.s]) ts47 rfl rfl rfl rfl rfl rfl rfl) ?_)))
      rintro _ _ rfl
      refine nn (cw_ret ?_)
      have q0 := Option.some.inj H0
      subst q0
      exact kw_ret Tryz.results77 (.cons (.cellN (us := [_, _, _, _, _, _, _, _, _]) ts47 rfl (Cells.box (id := 2) rfl 9 rfl)) .nil) [(0, C8), (1, C12), (2, C28), (3, C20)] [3, 4, 8, 6] ⟨3, [4, 8, 6], rfl, rfl, 4, [8, 6], rfl, rfl, 8, [6], rfl, rfl, 6, [], rfl, rfl, trivial⟩ (by decide) ⟨p5, ((x4.t.b).length), c7, C8, p9, ((x4.t.f).length), c11, C12, p25, ((x24.1.l).length), c27, C28, p17, ((x4.g.o).length), c19, C20, rfl, rfl, rfl, o8, rfl, o12, rfl, o28, rfl, o20⟩
    · have H0 := cond_f H0 h30
      refine cw_skip (kw_nx (sr (oD (stp_loadN (us := [_, _, _, _, _, _, _, _, _]) ts47 rfl (Cells.box (id := 7) rfl 9 rfl)) rfl (oF (stpU_store (id := 2) (cs' := [.slice p5 ((x4.t.b).length) c7, .slice p9 ((x4.t.f).length) c11, .slice p13 ((x4.c.l).length) c15, .int .i64 x4.c.h, .int .i64 x4.g.c, .int .i64 x4.g.n, .int .i64 x4.g.r, .slice p17 ((x4.g.o).length) c19, .int .i64 x4.s]) ts47 rfl rfl rfl rfl rfl rfl rfl) ?_))))
      rintro _ _ rfl
      refine nn (cw_ret ?_)
      have q0 := Option.some.inj H0
      subst q0
      exact kw_ret Tryz.results77 (.cons (.cellN (us := [_, _, _, _, _, _, _, _, _]) ts47 rfl (Cells.box (id := 2) rfl 9 rfl)) .nil) [(0, C8), (1, C12), (2, C16), (3, C20)] [3, 4, 5, 6] ⟨3, [4, 5, 6], rfl, rfl, 4, [5, 6], rfl, rfl, 5, [6], rfl, rfl, 6, [], rfl, rfl, trivial⟩ (by decide) ⟨p5, ((x4.t.b).length), c7, C8, p9, ((x4.t.f).length), c11, C12, p13, ((x4.c.l).length), c15, C16, p17, ((x4.g.o).length), c19, C20, rfl, rfl, rfl, o8, rfl, o12, rfl, o16, rfl, o20⟩

set_option maxHeartbeats 4000000 in
set_option maxRecDepth 20000 in
theorem c_i_Machine_dropped (fl : Nat) (w : World) (a0 : Mc) (p0_0 : Option Addr) (n0_0 c0_0 : Nat) (p0_1 : Option Addr) (n0_1 c0_1 : Nat) (p0_2 : Option Addr) (n0_2 c0_2 : Nat) (p0_3 : Option Addr) (n0_3 c0_3 : Nat) (a1 : T) (p1_0 : Option Addr) (n1_0 c1_0 : Nat) (C1_0 : Res) (p1_1 : Option Addr) (n1_1 c1_1 : Nat) (C1_1 : Res) (a2 : K) (hn0_0 : n0_0 = (a0.t.b).length) (hr0_0 : RO w (hkeys [(0, C1_0), (1, C1_1)]) (RdL p0_0 c0_0 a0.t.b)) (hn0_1 : n0_1 = (a0.t.f).length) (hr0_1 : RO w (hkeys [(0, C1_0), (1, C1_1)]) (RdL p0_1 c0_1 a0.t.f)) (hn0_2 : n0_2 = (a0.c.l).length) (hr0_2 : RO w (hkeys [(0, C1_0), (1, C1_1)]) (RdL p0_2 c0_2 a0.c.l)) (hn0_3 : n0_3 = (a0.g.o).length) (hr0_3 : RO w (hkeys [(0, C1_0), (1, C1_1)]) (RdL p0_3 c0_3 a0.g.o)) (hn1_0 : n1_0 = (a1.b).length) (ho1_0 : OwnC (α := Int) 3 p1_0 c1_0 a1.b C1_0) (hn1_1 : n1_1 = (a1.f).length) (ho1_1 : OwnC (α := F) 127 p1_1 c1_1 a1.f C1_1) (hM : Sat w (hkeys [(0, C1_0), (1, C1_1)]) w [(0, C1_0), (1, C1_1)]) (r : Mc) (H0 : i_Machine_dropped fl a0 a1 a2 = some r) :
    Ct Tryz.prog 79 [.agg #[.slice p0_0 n0_0 c0_0, .slice p0_1 n0_1 c0_1, .slice p0_2 n0_2 c0_2, .int .i64 a0.c.h, .int .i64 a0.g.c, .int .i64 a0.g.n, .int .i64 a0.g.r, .slice p0_3 n0_3 c0_3, .int .i64 a0.s], .agg #[.slice p1_0 n1_0 c1_0, .slice p1_1 n1_1 c1_1], .agg #[.int .i64 a2.s, .int .i64 a2.p]] w [(0, C1_0), (1, C1_1)] (fun rv h' => ∃ (x2 : Option Addr) (y2 z2 : Nat) (C2 : Res) (x3 : Option Addr) (y3 z3 : Nat) (C3 : Res) (x4 : Option Addr) (y4 z4 : Nat) (C4 : Res) (x5 : Option Addr) (y5 z5 : Nat) (C5 : Res), rv = .agg #[.slice x2 y2 z2, .slice x3 y3 z3, .slice x4 y4 z4, .int .i64 r.c.h, .int .i64 r.g.c, .int .i64 r.g.n, .int .i64 r.g.r, .slice x5 y5 z5, .int .i64 r.s] ∧ h' = [(0, []), (1, []), (2, C2), (3, C3), (4, C4), (5, C5)] ∧ y2 = (r.t.b).length ∧ OwnC 3 x2 z2 r.t.b C2 ∧ y3 = (r.t.f).length ∧ OwnC 127 x3 z3 r.t.f C3 ∧ y4 = (r.c.l).length ∧ OwnC 112 x4 z4 r.c.l C4 ∧ y5 = (r.g.o).length ∧ OwnC 148 x5 z5 r.g.o C5) := by
  obtain rfl := hn0_0
  obtain rfl := hn0_1
  obtain rfl := hn0_2
  obtain rfl := hn0_3
  obtain rfl := hn1_0
  obtain rfl := hn1_1
  unfold i_Machine_dropped at H0
  refine ct_of_cw Tryz.func79 rfl Tryz.ntmps79 rfl hM ?_
  refine sr (oE (stpU_box 2 rfl rfl) rfl ?_)
  rintro _ _ ⟨b1, rfl, rfl⟩
  refine oE (stpU_box 3 rfl rfl) rfl ?_
  rintro _ _ ⟨b2, rfl, rfl⟩
  refine oE (stpU_box 4 rfl rfl) rfl ?_
  rintro _ _ ⟨b3, rfl, rfl⟩
  refine oE (stpU_alloc 5 tz47 rfl) rfl ?_
  rintro _ _ ⟨b4, rfl, rfl⟩
  obtain ⟨x5, e5, H0⟩ := bind_some H0
  refine nn (sr (oD (stp_loadN (us := [_, _, _, _, _, _, _, _, _]) ts47 rfl (Cells.box (id := 2) rfl 9 rfl)) rfl (oE (stpU_call (fun i => 6 + i) cf63 (fun w hw => c_i_Machine_clone fl w a0 p0_0 ((a0.t.b).length) c0_0 p0_1 ((a0.t.f).length) c0_1 p0_2 ((a0.c.l).length) c0_2 p0_3 ((a0.g.o).length) c0_3 rfl (RO.pass hr0_0 hw) rfl (RO.pass hr0_1 hw) rfl (RO.pass hr0_2 hw) rfl (RO.pass hr0_3 hw) x5 e5) (sevs_cons rfl sevs_nil)) rfl ?_)))
  rintro _ _ ⟨_, ⟨p6, n7, c8, C9, p10, n11, c12, C13, p14, n15, c16, C17, p18, n19, c20, C21, rfl, rfl, hnn7, o9, hnn11, o13, hnn15, o17, hnn19, o21⟩, rfl⟩
  obtain rfl := hnn7
  obtain rfl := hnn11
  obtain rfl := hnn15
  obtain rfl := hnn19
  refine oE (stpU_alloc 10 tz47 rfl) rfl ?_
  rintro _ _ ⟨b22, rfl, rfl⟩
  refine oF (stpU_store (id := 10) (cs' := [.slice p6 ((x5.t.b).length) c8, .slice p10 ((x5.t.f).length) c12, .slice p14 ((x5.c.l).length) c16, .int .i64 x5.c.h, .int .i64 x5.g.c, .int .i64 x5.g.n, .int .i64 x5.g.r, .slice p18 ((x5.g.o).length) c20, .int .i64 x5.s]) ts47 rfl rfl rfl rfl rfl rfl rfl) ?_
  rintro _ _ rfl
  refine nn (sr (oD (stp_loadN (us := [_, _]) ts39 rfl (Cells.box (id := 3) rfl 2 rfl)) rfl (oD (fA 0 Tryz.underlying47 rfl ts39 rfl rfl rfl) rfl (oF (stpU_store (id := 10) (cs' := [.slice p1_0 ((a1.b).length) c1_0, .slice p1_1 ((a1.f).length) c1_1, .slice p14 ((x5.c.l).length) c16, .int .i64 x5.c.h, .int .i64 x5.g.c, .int .i64 x5.g.n, .int .i64 x5.g.r, .slice p18 ((x5.g.o).length) c20, .int .i64 x5.s]) ts39 rfl rfl rfl rfl rfl rfl rfl) ?_))))
  rintro _ _ rfl
  obtain ⟨x23, e23, H0⟩ := bind_some H0
  refine nn (cw_seq (sr (oD (stp_loadN (us := [_, _, _, _, _, _, _, _, _]) ts47 rfl (Cells.box (id := 2) rfl 9 rfl)) rfl (oD (fA 0 Tryz.underlying51 rfl ts3 rfl rfl rfl) rfl (oD (lB 4 ts3 rfl rfl rfl) rfl (oD (fA 1 Tryz.underlying51 rfl ts3 rfl rfl rfl) rfl (oD (lB 4 ts3 rfl rfl rfl) rfl (oE (stpU_call (fun i => 11 + i) cf92 (fun w hw => c_i_Machine_tagFor fl w a0 p0_0 ((a0.t.b).length) c0_0 p0_1 ((a0.t.f).length) c0_1 p0_2 ((a0.c.l).length) c0_2 p0_3 ((a0.g.o).length) c0_3 a2.s a2.p rfl (RO.pass hr0_0 hw) rfl (RO.pass hr0_1 hw) rfl (RO.pass hr0_2 hw) rfl (RO.pass hr0_3 hw) x23 e23) (sevs_cons rfl (sevs_cons rfl (sevs_cons rfl sevs_nil)))) rfl ?_))))))))
  rintro _ _ ⟨_, ⟨rfl, rfl⟩, rfl⟩
  refine oD (mv rfl) rfl (oD (stp_extract rfl rfl) rfl (oD (stp_extract rfl rfl) rfl (oD (sg rfl) rfl (oD (sg rfl) rfl (nn (sr (oD (mv rfl) rfl (nn (cw_cond rfl (fun h24 => ?_) (fun h24 => ?_))))))))))
  · have H0 := cond_t H0 h24
    obtain ⟨x25, e25, H0⟩ := bind_some H0
    refine sr (oD (fA 2 Tryz.underlying47 rfl ts42 rfl rfl rfl) rfl (oD (stp_loadN (us := [_, _]) ts42 rfl (Cells.box (id := 2) rfl 2 rfl)) rfl (oD (mv rfl) rfl (oD (fA 1 Tryz.underlying51 rfl ts3 rfl rfl rfl) rfl (oD (lB 4 ts3 rfl rfl rfl) rfl (oE (stpU_call (fun i => 11 + i) cf93 (fun w hw => c_i_Cache_place fl w a0.c p0_2 ((a0.c.l).length) c0_2 x23.1 a2.p rfl (RO.pass hr0_2 hw) x25 e25) (sevs_cons rfl (sevs_cons rfl (sevs_cons rfl sevs_nil)))) rfl ?_))))))
    rintro _ _ ⟨_, ⟨rfl, rfl⟩, rfl⟩
    refine oD (sg rfl) rfl (nn (sr (oD (mv rfl) rfl (oD (stp_geq rfl rfl) rfl (nn (cw_cond rfl (fun h26 => ?_) (fun h26 => ?_)))))))
    · have H0 := cond_t H0 h26
      obtain ⟨x27, e27, H0⟩ := bind_some H0
      refine cw_region (oD (fA 2 Tryz.underlying47 rfl ts42 rfl rfl rfl) rfl (oD (fA 0 Tryz.underlying42 rfl ts40 rfl rfl rfl) rfl (oD (lB 10 ts40 rfl rfl rfl) rfl (oD (mv rfl) rfl (oD (stp_build (cs := #[.bool false, .int .i64 0, .int .i64 0, .int .i64 0, .int .i64 0, .bool false]) sevp_nil bt112_0) rfl (oD (stp_indexAddr Tryz.underlying40 ts112 (by decide) rfl rfl rfl (Rdb.own (id := 8) rfl o17) e27) rfl (oF (stpU_storeEl (id := 8) (i := 0) (⟨false, 0, 0, 0, 0, false⟩ : Ln) (by decide) ts112 rfl rfl rfl o17 e27 rfl rfl rfl rfl) ?_)))))))
      rintro _ _ ⟨C28, rfl, o28⟩
      refine nn (sr (oD (stp_loadN (us := [_, _, _, _, _, _, _, _, _]) ts47 rfl (Cells.box (id := 10) rfl 9 rfl)) rfl (oF (stpU_store (id := 5) (cs' := [.slice p1_0 ((a1.b).length) c1_0, .slice p1_1 ((a1.f).length) c1_1, .slice p14 ((x5.c.l).length) c16, .int .i64 x5.c.h, .int .i64 x5.g.c, .int .i64 x5.g.n, .int .i64 x5.g.r, .slice p18 ((x5.g.o).length) c20, .int .i64 x5.s]) ts47 rfl rfl rfl rfl rfl rfl rfl) ?_)))
      rintro _ _ rfl
      refine nn (cw_ret (kw_addNil 11 (kw_addNil 12 ?_)))
      have q0 := Option.some.inj H0
      subst q0
      exact kw_ret Tryz.results79 (.cons (.cellN (us := [_, _, _, _, _, _, _, _, _]) ts47 rfl (Cells.box (id := 5) rfl 9 rfl)) .nil) [(0, []), (1, []), (2, C1_0), (3, C1_1), (4, C28), (5, C21)] [11, 12, 0, 1, 8, 9] ⟨11, [12, 0, 1, 8, 9], rfl, rfl, 12, [0, 1, 8, 9], rfl, rfl, 0, [1, 8, 9], rfl, rfl, 1, [8, 9], rfl, rfl, 8, [9], rfl, rfl, 9, [], rfl, rfl, trivial⟩ (by decide) ⟨p1_0, ((a1.b).length), c1_0, C1_0, p1_1, ((a1.f).length), c1_1, C1_1, p14, ((x5.c.l).length), c16, C28, p18, ((x5.g.o).length), c20, C21, rfl, rfl, rfl, ho1_0, rfl, ho1_1, (by simp), o28, rfl, o21⟩
    · have H0 := cond_f H0 h26
      refine cw_skip (kw_nx (sr (oD (stp_loadN (us := [_, _, _, _, _, _, _, _, _]) ts47 rfl (Cells.box (id := 10) rfl 9 rfl)) rfl (oF (stpU_store (id := 5) (cs' := [.slice p1_0 ((a1.b).length) c1_0, .slice p1_1 ((a1.f).length) c1_1, .slice p14 ((x5.c.l).length) c16, .int .i64 x5.c.h, .int .i64 x5.g.c, .int .i64 x5.g.n, .int .i64 x5.g.r, .slice p18 ((x5.g.o).length) c20, .int .i64 x5.s]) ts47 rfl rfl rfl rfl rfl rfl rfl) ?_))))
      rintro _ _ rfl
      refine nn (cw_ret (kw_addNil 13 (kw_addNil 14 ?_)))
      have q0 := Option.some.inj H0
      subst q0
      exact kw_ret Tryz.results79 (.cons (.cellN (us := [_, _, _, _, _, _, _, _, _]) ts47 rfl (Cells.box (id := 5) rfl 9 rfl)) .nil) [(0, []), (1, []), (2, C1_0), (3, C1_1), (4, C17), (5, C21)] [13, 14, 0, 1, 8, 9] ⟨13, [14, 0, 1, 8, 9], rfl, rfl, 14, [0, 1, 8, 9], rfl, rfl, 0, [1, 8, 9], rfl, rfl, 1, [8, 9], rfl, rfl, 8, [9], rfl, rfl, 9, [], rfl, rfl, trivial⟩ (by decide) ⟨p1_0, ((a1.b).length), c1_0, C1_0, p1_1, ((a1.f).length), c1_1, C1_1, p14, ((x5.c.l).length), c16, C17, p18, ((x5.g.o).length), c20, C21, rfl, rfl, rfl, ho1_0, rfl, ho1_1, rfl, o17, rfl, o21⟩
  · have H0 := cond_f H0 h24
    refine cw_skip (kw_nx (sr (oD (stp_loadN (us := [_, _, _, _, _, _, _, _, _]) ts47 rfl (Cells.box (id := 10) rfl 9 rfl)) rfl (oF (stpU_store (id := 5) (cs' := [.slice p1_0 ((a1.b).length) c1_0, .slice p1_1 ((a1.f).length) c1_1, .slice p14 ((x5.c.l).length) c16, .int .i64 x5.c.h, .int .i64 x5.g.c, .int .i64 x5.g.n, .int .i64 x5.g.r, .slice p18 ((x5.g.o).length) c20, .int .i64 x5.s]) ts47 rfl rfl rfl rfl rfl rfl rfl) ?_))))
    rintro _ _ rfl
    refine nn (cw_ret (kw_addNil 15 (kw_addNil 16 ?_)))
    have q0 := Option.some.inj H0
    subst q0
    exact kw_ret Tryz.results79 (.cons (.cellN (us := [_, _, _, _, _, _, _, _, _]) ts47 rfl (Cells.box (id := 5) rfl 9 rfl)) .nil) [(0, []), (1, []), (2, C1_0), (3, C1_1), (4, C17), (5, C21)] [15, 16, 0, 1, 8, 9] ⟨15, [16, 0, 1, 8, 9], rfl, rfl, 16, [0, 1, 8, 9], rfl, rfl, 0, [1, 8, 9], rfl, rfl, 1, [8, 9], rfl, rfl, 8, [9], rfl, rfl, 9, [], rfl, rfl, trivial⟩ (by decide) ⟨p1_0, ((a1.b).length), c1_0, C1_0, p1_1, ((a1.f).length), c1_1, C1_1, p14, ((x5.c.l).length), c16, C17, p18, ((x5.g.o).length), c20, C21, rfl, rfl, rfl, ho1_0, rfl, ho1_1, rfl, o17, rfl, o21⟩
end Go.Proofs.YtbgodaeccgjdgaaGreatDoor
