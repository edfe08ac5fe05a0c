/- The walks: functions of the program return what their pure functions say. Printed by a program (gen.py). -/
import Derived.Test.YtbgodaeccgjdgaaGreatDoorGp
import Derived.Test.YtbgodaeccgjdgaaGreatDoorGt
import Derived.Test.YtbgodaeccgjdgaaGreatDoorMan
import Derived.Test.YtbgodaeccgjdgaaGreatDoorMap
import Derived.Test.YtbgodaeccgjdgaaGreatDoorGwac
set_option linter.unusedSimpArgs false
set_option linter.unusedVariables false
set_option linter.unusedSectionVars false
namespace Go.Proofs.YtbgodaeccgjdgaaGreatDoor
open Go.RowKit
set_option maxHeartbeats 4000000 in
set_option maxRecDepth 20000 in
theorem c_l_eqBoolS (fl : Nat) (w : World) (a0 : (List Bool)) (p0_0 : Option Addr) (n0_0 c0_0 : Nat) (a1 : (List Bool)) (p1_0 : Option Addr) (n1_0 c1_0 : Nat) (hn0_0 : n0_0 = (a0).length) (hr0_0 : RO w (hkeys []) (RdL p0_0 c0_0 a0)) (hn1_0 : n1_0 = (a1).length) (hr1_0 : RO w (hkeys []) (RdL p1_0 c1_0 a1)) (r : Bool) (H0 : l_eqBoolS fl a0 a1 = some r) :
    Ct Tryz.prog 112 [.slice p0_0 n0_0 c0_0, .slice p1_0 n1_0 c1_0] w [] (fun rv h' => rv = .bool r ∧ h' = []) := by
  obtain rfl := hn0_0
  obtain rfl := hn1_0
  unfold l_eqBoolS at H0
  refine ct_of_cw Tryz.func112 rfl Tryz.ntmps112 rfl (Sat.refl _ _) ?_
  refine sr (oD (sg rfl) rfl (nn (cw_seq (sr (oD (mv rfl) rfl (oD (stp_len Tryz.underlying66 rfl) rfl (oD (mv rfl) rfl (oD (stp_len Tryz.underlying66 rfl) rfl (oD (stp_neq rfl rfl) rfl (nn (cw_cond rfl (fun h1 => ?_) (fun h1 => ?_))))))))))))
  · have H0 := cond_t H0 h1
    refine sr (oD (sg rfl) rfl (nn (cw_ret (kw_nx_ret ?_))))
    have q0 := Option.some.inj H0
    subst q0
    exact kw_ret Tryz.results112 (.cons (.tmp rfl) .nil) [] [] trivial (by decide) ⟨rfl, rfl⟩
  · have H0 := cond_f H0 h1
    obtain ⟨o0_0, eo0_0, H0⟩ := bind_some H0
    refine cw_skip (kw_nx (cw_seq (sr (oD (sg rfl) rfl (nn (cw_join (ι := Int) (fun | v2 => o0_0 = .out v2) (fun | v2 => [(0, .slice p0_0 ((a0).length) c0_0), (1, .slice p1_0 ((a1).length) c1_0), (5, .int .i64 v2)]) (fun | v2 => []) ?_ ?_))))))
    · refine cw_block (cw_loopS (ι := Nat × Int) (js := []) (fun x => x.1) (fun | (fuel, v2) => l_eqBoolS_L0 fl a0 a1 fuel v2 = some o0_0) (fun | (_, v2) => [(0, .slice p0_0 ((a0).length) c0_0), (1, .slice p1_0 ((a1).length) c1_0), (5, .int .i64 v2)]) (fun | (_, v2) => []) (fl, 0) eo0_0 ⟨rfl, rfl, rfl, trivial⟩ trivial (by decide) ?_)
      rintro ⟨fuel, v2⟩ H1
      have H1 : l_eqBoolS_L0 fl a0 a1 fuel v2 = some o0_0 := H1
      rcases fuel with _ | fuel
      · rw [l_eqBoolS_L0.eq_1] at H1; cases H1
      rw [l_eqBoolS_L0.eq_2] at H1
      refine CW.sub (s' := [(0, .slice p0_0 ((a0).length) c0_0), (1, .slice p1_0 ((a1).length) c1_0), (5, .int .i64 v2)]) (h' := []) ?_ ⟨rfl, rfl, rfl, trivial⟩ trivial
      refine cw_seq (sr (oD (mv rfl) rfl (oD (mv rfl) rfl (oD (stp_len Tryz.underlying66 rfl) rfl (oD (stp_lss rfl rfl) rfl (nn (cw_cond rfl (fun h3 => ?_) (fun h3 => ?_))))))))
      · have H1 := cond_t H1 h3
        obtain ⟨x4, e4, H1⟩ := bind_some H1
        obtain ⟨x5, e5, H1⟩ := bind_some H1
        refine cw_skip (kw_nx (cw_seq (cw_block (cw_seq (rdr g_mixed [0, 1, 5] [] { dst := dS [18, 19, 20, 21, 22, 23, 24, 25, 26], pre := gA [] [[], [], [0, 1], [0, 1, 2], [], [], [4, 5], [4, 5, 6], rn 0 8], ids := fun _ => [], rs := rL [[(0, 0)], [(5, 0)], [(17, 1), (18, 2)], [(19, 3)], [(1, 0)], [(5, 0)], [(21, 5), (22, 6)], [(23, 7)], [(20, 4), (24, 8)]], rh := fun _ => [], V := fun i g => gA undef [.slice p0_0 ((a0).length) c0_0, .int .i64 v2, .pointer (some ⟨eB p0_0, eO p0_0 + Int.toNat v2 * Enc.sz Bool + 0, none⟩), .bool x4, .slice p1_0 ((a1).length) c1_0, .int .i64 v2, .pointer (some ⟨eB p1_0, eO p1_0 + Int.toNat v2 * Enc.sz Bool + 0, none⟩), .bool x5, .bool (x4 != x5)] i, U := fun _ _ => [], Φ := fun _ _ => True } ?_ ?_)))))
        · exact ⟨⟨⟨⟨⟨⟨⟨⟨⟨trivial, lc rfl rfl fun hs hh => stp_move (sv hs 0 rfl)⟩, lc rfl rfl fun hs hh => stp_move (sv hs 5 rfl)⟩, lc rfl rfl fun hs hh => stp_indexAddr Tryz.underlying66 ts4 (by decide) (sv hs 17 rfl) rfl (sv hs 18 rfl) (Rdb.ro hr0_0) e4⟩, lc rfl rfl fun hs hh => stp_load1 ts4 (sv hs 19 rfl) (Cells.el (Rdb.ro hr0_0) (by decide) e4 0 1 rfl)⟩, lc rfl rfl fun hs hh => stp_move (sv hs 1 rfl)⟩, lc rfl rfl fun hs hh => stp_move (sv hs 5 rfl)⟩, lc rfl rfl fun hs hh => stp_indexAddr Tryz.underlying66 ts4 (by decide) (sv hs 21 rfl) rfl (sv hs 22 rfl) (Rdb.ro hr1_0) e5⟩, lc rfl rfl fun hs hh => stp_load1 ts4 (sv hs 23 rfl) (Cells.el (Rdb.ro hr1_0) (by decide) e5 0 1 rfl)⟩, lc rfl rfl fun hs hh => stp_neqB Tryz.underlying4 (sv hs 20 rfl) (sv hs 24 rfl)⟩
        · intro g hΦ
          refine KW.sub (s' := [(0, .slice p0_0 ((a0).length) c0_0), (1, .slice p1_0 ((a1).length) c1_0), (5, .int .i64 v2), (25, .bool (x4 != x5))]) (h' := []) ?_ ⟨rfl, rfl, rfl, rfl, trivial⟩ trivial
          refine kw_nx (cw_cond rfl (fun h6 => ?_) (fun h6 => ?_))
          · have H1 := cond_t H1 h6
            refine sr (oD (sg rfl) rfl (nn (cw_ret (kw_bl_ret (kw_nx_ret (kw_lq_ret (kw_bl_ret (kw_join_ret (kw_nx_ret ?_)))))))))
            have q1 := Option.some.inj H1
            subst q1
            have q0 := Option.some.inj H0
            subst q0
            exact kw_ret Tryz.results112 (.cons (.tmp rfl) .nil) [] [] trivial (by decide) ⟨rfl, rfl⟩
          · have H1 := cond_f H1 h6
            obtain ⟨x7, e7, H1⟩ := bind_some H1
            exact cw_skip (kw_bl_normal (kw_nx (cw_region (oD (mv rfl) rfl (oD (stp_add rfl rfl e7) rfl (oD (sg rfl) rfl (ow_nil (kw_lqS (js := []) (fuel, x7) H1 (Nat.lt_succ_self _) ⟨rfl, rfl, rfl, trivial⟩ trivial (by decide)))))))))
      · have H1 := cond_f H1 h3
        refine cw_exit (kw_nx_exit (kw_lq_exit (kw_bl ?_)))
        have q1 := Option.some.inj H1
        subst q1
        exact kw_joinS (js := []) v2 rfl ⟨rfl, rfl, rfl, trivial⟩ trivial (by decide)
    · rintro v2 rfl
      refine KW.sub (s' := [(0, .slice p0_0 ((a0).length) c0_0), (1, .slice p1_0 ((a1).length) c1_0), (5, .int .i64 v2)]) (h' := []) ?_ ⟨rfl, rfl, rfl, trivial⟩ trivial
      refine kw_nx (sr (oD (sg rfl) rfl (nn (cw_ret ?_))))
      have q0 := Option.some.inj H0
      subst q0
      exact kw_ret Tryz.results112 (.cons (.tmp rfl) .nil) [] [] trivial (by decide) ⟨rfl, rfl⟩

set_option maxHeartbeats 4000000 in
set_option maxRecDepth 20000 in
theorem c_l_eqMemory (fl : Nat) (w : World) (a0 : Mm) (p0_0 : Option Addr) (n0_0 c0_0 : Nat) (p0_1 : Option Addr) (n0_1 c0_1 : Nat) (p0_2 : Option Addr) (n0_2 c0_2 : Nat) (p0_3 : Option Addr) (n0_3 c0_3 : Nat) (p0_4 : Option Addr) (n0_4 c0_4 : Nat) (a1 : Mm) (p1_0 : Option Addr) (n1_0 c1_0 : Nat) (p1_1 : Option Addr) (n1_1 c1_1 : Nat) (p1_2 : Option Addr) (n1_2 c1_2 : Nat) (p1_3 : Option Addr) (n1_3 c1_3 : Nat) (p1_4 : Option Addr) (n1_4 c1_4 : Nat) (hn0_0 : n0_0 = (a0.m.t.b).length) (hr0_0 : RO w (hkeys []) (RdL p0_0 c0_0 a0.m.t.b)) (hn0_1 : n0_1 = (a0.m.t.f).length) (hr0_1 : RO w (hkeys []) (RdL p0_1 c0_1 a0.m.t.f)) (hn0_2 : n0_2 = (a0.m.c.l).length) (hr0_2 : RO w (hkeys []) (RdL p0_2 c0_2 a0.m.c.l)) (hn0_3 : n0_3 = (a0.m.g.o).length) (hr0_3 : RO w (hkeys []) (RdL p0_3 c0_3 a0.m.g.o)) (hn0_4 : n0_4 = (a0.k).length) (hr0_4 : RO w (hkeys []) (RdL p0_4 c0_4 a0.k)) (hn1_0 : n1_0 = (a1.m.t.b).length) (hr1_0 : RO w (hkeys []) (RdL p1_0 c1_0 a1.m.t.b)) (hn1_1 : n1_1 = (a1.m.t.f).length) (hr1_1 : RO w (hkeys []) (RdL p1_1 c1_1 a1.m.t.f)) (hn1_2 : n1_2 = (a1.m.c.l).length) (hr1_2 : RO w (hkeys []) (RdL p1_2 c1_2 a1.m.c.l)) (hn1_3 : n1_3 = (a1.m.g.o).length) (hr1_3 : RO w (hkeys []) (RdL p1_3 c1_3 a1.m.g.o)) (hn1_4 : n1_4 = (a1.k).length) (hr1_4 : RO w (hkeys []) (RdL p1_4 c1_4 a1.k)) (r : Bool) (H0 : l_eqMemory fl a0 a1 = some r) :
    Ct Tryz.prog 41 [.agg #[.slice p0_0 n0_0 c0_0, .slice p0_1 n0_1 c0_1, .slice p0_2 n0_2 c0_2, .int .i64 a0.m.c.h, .int .i64 a0.m.g.c, .int .i64 a0.m.g.n, .int .i64 a0.m.g.r, .slice p0_3 n0_3 c0_3, .int .i64 a0.m.s, .slice p0_4 n0_4 c0_4, .int .i64 a0.h], .agg #[.slice p1_0 n1_0 c1_0, .slice p1_1 n1_1 c1_1, .slice p1_2 n1_2 c1_2, .int .i64 a1.m.c.h, .int .i64 a1.m.g.c, .int .i64 a1.m.g.n, .int .i64 a1.m.g.r, .slice p1_3 n1_3 c1_3, .int .i64 a1.m.s, .slice p1_4 n1_4 c1_4, .int .i64 a1.h]] w [] (fun rv h' => rv = .bool r ∧ h' = []) := by
  obtain rfl := hn0_0
  obtain rfl := hn0_1
  obtain rfl := hn0_2
  obtain rfl := hn0_3
  obtain rfl := hn0_4
  obtain rfl := hn1_0
  obtain rfl := hn1_1
  obtain rfl := hn1_2
  obtain rfl := hn1_3
  obtain rfl := hn1_4
  unfold l_eqMemory at H0
  refine ct_of_cw Tryz.func41 rfl Tryz.ntmps41 rfl (Sat.refl _ _) ?_
  refine sr (oE (stpU_box 0 rfl rfl) rfl ?_)
  rintro _ _ ⟨b1, rfl, rfl⟩
  refine oE (stpU_box 1 rfl rfl) rfl ?_
  rintro _ _ ⟨b2, rfl, rfl⟩
  obtain ⟨x3, e3, H0⟩ := bind_some H0
  refine oD (sg rfl) rfl (nn (cw_seq (sr (oD (fA 0 Tryz.underlying68 rfl ts47 rfl rfl rfl) rfl (oD (stp_loadN (us := [_, _, _, _, _, _, _, _, _]) ts47 rfl (Cells.box (id := 0) rfl 9 rfl)) rfl (oD (fA 0 Tryz.underlying68 rfl ts47 rfl rfl rfl) rfl (oD (stp_loadN (us := [_, _, _, _, _, _, _, _, _]) ts47 rfl (Cells.box (id := 1) rfl 9 rfl)) rfl (oE (stpU_call (fun i => 2 + i) cf19 (fun w hw => c_l_eqMachine fl w a0.m p0_0 ((a0.m.t.b).length) c0_0 p0_1 ((a0.m.t.f).length) c0_1 p0_2 ((a0.m.c.l).length) c0_2 p0_3 ((a0.m.g.o).length) c0_3 a1.m p1_0 ((a1.m.t.b).length) c1_0 p1_1 ((a1.m.t.f).length) c1_1 p1_2 ((a1.m.c.l).length) c1_2 p1_3 ((a1.m.g.o).length) c1_3 rfl (RO.pass hr0_0 hw) rfl (RO.pass hr0_1 hw) rfl (RO.pass hr0_2 hw) rfl (RO.pass hr0_3 hw) rfl (RO.pass hr1_0 hw) rfl (RO.pass hr1_1 hw) rfl (RO.pass hr1_2 hw) rfl (RO.pass hr1_3 hw) x3 e3) (sevs_cons rfl (sevs_cons rfl sevs_nil))) rfl ?_))))))))
  rintro _ _ ⟨_, ⟨rfl, rfl⟩, rfl⟩
  refine oD (stp_not rfl) rfl (nn (cw_cond rfl (fun h4 => ?_) (fun h4 => ?_)))
  · have H0 := cond_t H0 h4
    refine sr (oD (sg rfl) rfl (nn (cw_ret (kw_nx_ret ?_))))
    have q0 := Option.some.inj H0
    subst q0
    exact kw_ret Tryz.results41 (.cons (.tmp rfl) .nil) [] [] trivial (by decide) ⟨rfl, rfl⟩
  · have H0 := cond_f H0 h4
    obtain ⟨x5, e5, H0⟩ := bind_some H0
    refine cw_skip (kw_nx (cw_seq (sr (oD (fA 9 Tryz.underlying68 rfl ts66 rfl rfl rfl) rfl (oD (lB 0 ts66 rfl rfl rfl) rfl (oD (fA 9 Tryz.underlying68 rfl ts66 rfl rfl rfl) rfl (oD (lB 1 ts66 rfl rfl rfl) rfl (oE (stpU_call (fun i => 2 + i) cf112 (fun w hw => c_l_eqBoolS fl w a0.k p0_4 ((a0.k).length) c0_4 a1.k p1_4 ((a1.k).length) c1_4 rfl (RO.pass hr0_4 hw) rfl (RO.pass hr1_4 hw) x5 e5) (sevs_cons rfl (sevs_cons rfl sevs_nil))) rfl ?_))))))))
    rintro _ _ ⟨_, ⟨rfl, rfl⟩, rfl⟩
    refine oD (stp_not rfl) rfl (nn (cw_cond rfl (fun h6 => ?_) (fun h6 => ?_)))
    · have H0 := cond_t H0 h6
      refine sr (oD (sg rfl) rfl (nn (cw_ret (kw_nx_ret ?_))))
      have q0 := Option.some.inj H0
      subst q0
      exact kw_ret Tryz.results41 (.cons (.tmp rfl) .nil) [] [] trivial (by decide) ⟨rfl, rfl⟩
    · have H0 := cond_f H0 h6
      refine cw_skip (kw_nx (cw_seq (sr (oD (fA 10 Tryz.underlying68 rfl ts3 rfl rfl rfl) rfl (oD (lB 0 ts3 rfl rfl rfl) rfl (oD (fA 10 Tryz.underlying68 rfl ts3 rfl rfl rfl) rfl (oD (lB 1 ts3 rfl rfl rfl) rfl (oD (stp_neq rfl rfl) rfl (nn (cw_cond rfl (fun h7 => ?_) (fun h7 => ?_)))))))))))
      · have H0 := cond_t H0 h7
        refine sr (oD (sg rfl) rfl (nn (cw_ret (kw_nx_ret ?_))))
        have q0 := Option.some.inj H0
        subst q0
        exact kw_ret Tryz.results41 (.cons (.tmp rfl) .nil) [] [] trivial (by decide) ⟨rfl, rfl⟩
      · have H0 := cond_f H0 h7
        refine cw_skip (kw_nx (sr (oD (sg rfl) rfl (nn (cw_ret ?_)))))
        have q0 := Option.some.inj H0
        subst q0
        exact kw_ret Tryz.results41 (.cons (.tmp rfl) .nil) [] [] trivial (by decide) ⟨rfl, rfl⟩

set_option maxHeartbeats 4000000 in
set_option maxRecDepth 20000 in
theorem c_l_markBoolS (fl : Nat) (w : World) (a0 : (List Bool)) (p0_0 : Option Addr) (n0_0 c0_0 : Nat) (C0_0 : Res) (a1 : Int) (hn0_0 : n0_0 = (a0).length) (ho0_0 : OwnC (α := Bool) 4 p0_0 c0_0 a0 C0_0) (hM : Sat w (hkeys [(0, C0_0)]) w [(0, C0_0)]) (r : Int × (List Bool)) (H0 : l_markBoolS fl a0 a1 = some r) :
    Ct Tryz.prog 113 [.slice p0_0 n0_0 c0_0, .int .i64 a1] w [(0, C0_0)] (fun rv h' => ∃ (D0 : Res), rv = .int .i64 r.1 ∧ h' = [(0, D0)] ∧ n0_0 = (r.2).length ∧ OwnC (α := Bool) 4 p0_0 c0_0 r.2 D0) := by
  obtain rfl := hn0_0
  unfold l_markBoolS at H0
  refine ct_of_cw Tryz.func113 rfl Tryz.ntmps113 rfl hM ?_
  obtain ⟨o0_0, eo0_0, H0⟩ := bind_some H0
  refine sr (oD (sg rfl) rfl (nn (cw_seq (sr (oD (sg rfl) rfl (nn (cw_join (ι := (List Bool) × Int × Int × Res) (fun | (v1, v3, v4, C2) => o0_0 = .out (v1, v3, v4) ∧ (a0).length = (v1).length ∧ OwnC (α := Bool) 4 p0_0 c0_0 v1 C2) (fun | (v1, v3, v4, C2) => [(0, .slice p0_0 ((a0).length) c0_0), (1, .int .i64 v3), (5, .int .i64 v4)]) (fun | (v1, v3, v4, C2) => [(0, C2)]) ?_ ?_)))))))
  · refine cw_block (cw_loopS (ι := Nat × (List Bool) × Int × Int × Res) (js := [0]) (fun x => x.1) (fun | (fuel, v1, v3, v4, C2) => l_markBoolS_L0 fl a0 fuel v1 v3 v4 = some o0_0 ∧ (a0).length = (v1).length ∧ OwnC (α := Bool) 4 p0_0 c0_0 v1 C2) (fun | (_, v1, v3, v4, C2) => [(0, .slice p0_0 ((a0).length) c0_0), (1, .int .i64 v3), (5, .int .i64 v4)]) (fun | (_, v1, v3, v4, C2) => [(0, C2)]) (fl, a0, a1, 0, C0_0) ⟨eo0_0, rfl, ho0_0⟩ ⟨rfl, rfl, rfl, trivial⟩ ⟨0, [], rfl, rfl, trivial⟩ (by decide) ?_)
    rintro ⟨fuel, v1, v3, v4, C2⟩ ⟨H1, hl2, o2⟩
    have H1 : l_markBoolS_L0 fl a0 fuel v1 v3 v4 = some o0_0 := H1
    rcases fuel with _ | fuel
    · rw [l_markBoolS_L0.eq_1] at H1; cases H1
    rw [l_markBoolS_L0.eq_2] at H1
    refine CW.sub (s' := [(0, .slice p0_0 ((a0).length) c0_0), (1, .int .i64 v3), (5, .int .i64 v4)]) (h' := [(0, C2)]) ?_ ⟨rfl, rfl, rfl, trivial⟩ ⟨rfl, trivial⟩
    refine cw_seq (sr (oD (mv rfl) rfl (oD (mv rfl) rfl (oD (stp_len Tryz.underlying66 rfl) rfl (oD (stp_lss rfl rfl) rfl (nn (cw_cond rfl (fun h5 => ?_) (fun h5 => ?_))))))))
    · have H1 := cond_t H1 h5
      obtain ⟨x6, e6, H1⟩ := bind_some H1
      obtain ⟨x7, e7, H1⟩ := bind_some H1
      refine cw_skip (kw_nx (cw_seq (cw_block (sr (oD (mv rfl) rfl (oD (mv rfl) rfl (oD (mv rfl) rfl (oD (stp_rem rfl rfl e6) rfl (oD (stp_eql rfl rfl) rfl (oD (stp_indexAddr Tryz.underlying66 ts4 (by decide) rfl (by simp [hl2]) rfl (Rdb.own (id := 0) rfl o2) e7) rfl (oF (stpU_storeEl (id := 0) (i := 0) (x6 == 0) (by decide) ts4 rfl rfl rfl o2 e7 rfl rfl rfl rfl) ?_)))))))))))
      rintro _ _ ⟨C8, rfl, o8⟩
      obtain ⟨x9, e9, H1⟩ := bind_some H1
      obtain ⟨x10, e10, H1⟩ := bind_some H1
      exact nn (cw_region (oD (mv rfl) rfl (oD (stp_add rfl rfl e9) rfl (oD (sg rfl) rfl (ow_nil (kw_bl_normal (kw_nx (cw_region (oD (mv rfl) rfl (oD (stp_add rfl rfl e10) rfl (oD (sg rfl) rfl (ow_nil (kw_lqS (js := [0]) (fuel, (v1.set (Int.toNat v4) (x6 == 0)), x9, x10, C8) ⟨H1, (by simp [hl2]), o8⟩ (Nat.lt_succ_self _) ⟨rfl, rfl, rfl, trivial⟩ ⟨0, [], rfl, rfl, trivial⟩ (by decide))))))))))))))
    · have H1 := cond_f H1 h5
      refine cw_exit (kw_nx_exit (kw_lq_exit (kw_bl ?_)))
      have q1 := Option.some.inj H1
      subst q1
      exact kw_joinS (js := [0]) (v1, v3, v4, C2) ⟨rfl, (by simp [hl2]), o2⟩ ⟨rfl, rfl, rfl, trivial⟩ ⟨0, [], rfl, rfl, trivial⟩ (by decide)
  · rintro ⟨v1, v3, v4, C2⟩ ⟨rfl, hl2, o2⟩
    refine KW.sub (s' := [(0, .slice p0_0 ((a0).length) c0_0), (1, .int .i64 v3), (5, .int .i64 v4)]) (h' := [(0, C2)]) ?_ ⟨rfl, rfl, rfl, trivial⟩ ⟨rfl, trivial⟩
    refine kw_nx (sr (oD (mv rfl) rfl (oD (sg rfl) rfl (nn (cw_ret ?_)))))
    have q0 := Option.some.inj H0
    subst q0
    exact kw_ret Tryz.results113 (.cons (.tmp rfl) .nil) [(0, C2)] [0] ⟨0, [], rfl, rfl, trivial⟩ (by decide) ⟨C2, rfl, rfl, (by simp [hl2]), o2⟩

set_option maxHeartbeats 4000000 in
set_option maxRecDepth 20000 in
theorem c_l_markMemory (fl : Nat) (w : World) (a0 : Mm) (p0_0 : Option Addr) (n0_0 c0_0 : Nat) (C0_0 : Res) (p0_1 : Option Addr) (n0_1 c0_1 : Nat) (C0_1 : Res) (p0_2 : Option Addr) (n0_2 c0_2 : Nat) (C0_2 : Res) (p0_3 : Option Addr) (n0_3 c0_3 : Nat) (C0_3 : Res) (p0_4 : Option Addr) (n0_4 c0_4 : Nat) (C0_4 : Res) (a1 : Int) (hn0_0 : n0_0 = (a0.m.t.b).length) (ho0_0 : OwnC (α := Int) 3 p0_0 c0_0 a0.m.t.b C0_0) (hn0_1 : n0_1 = (a0.m.t.f).length) (ho0_1 : OwnC (α := F) 127 p0_1 c0_1 a0.m.t.f C0_1) (hn0_2 : n0_2 = (a0.m.c.l).length) (ho0_2 : OwnC (α := Ln) 112 p0_2 c0_2 a0.m.c.l C0_2) (hn0_3 : n0_3 = (a0.m.g.o).length) (ho0_3 : OwnC (α := Ow) 148 p0_3 c0_3 a0.m.g.o C0_3) (hn0_4 : n0_4 = (a0.k).length) (ho0_4 : OwnC (α := Bool) 4 p0_4 c0_4 a0.k C0_4) (hM : Sat w (hkeys [(0, C0_0), (1, C0_1), (2, C0_2), (3, C0_3), (4, C0_4)]) w [(0, C0_0), (1, C0_1), (2, C0_2), (3, C0_3), (4, C0_4)]) (r : Int × (List Int) × (List F) × (List Ln) × (List Ow) × (List Bool)) (H0 : l_markMemory fl a0 a1 = some r) :
    Ct Tryz.prog 42 [.agg #[.slice p0_0 n0_0 c0_0, .slice p0_1 n0_1 c0_1, .slice p0_2 n0_2 c0_2, .int .i64 a0.m.c.h, .int .i64 a0.m.g.c, .int .i64 a0.m.g.n, .int .i64 a0.m.g.r, .slice p0_3 n0_3 c0_3, .int .i64 a0.m.s, .slice p0_4 n0_4 c0_4, .int .i64 a0.h], .int .i64 a1] w [(0, C0_0), (1, C0_1), (2, C0_2), (3, C0_3), (4, C0_4)] (fun rv h' => ∃ (D0 : Res) (D1 : Res) (D2 : Res) (D3 : Res) (D4 : Res), rv = .int .i64 r.1 ∧ h' = [(0, D0), (1, D1), (2, D2), (3, D3), (4, D4)] ∧ n0_0 = (r.2.1).length ∧ OwnC (α := Int) 3 p0_0 c0_0 r.2.1 D0 ∧ n0_1 = (r.2.2.1).length ∧ OwnC (α := F) 127 p0_1 c0_1 r.2.2.1 D1 ∧ n0_2 = (r.2.2.2.1).length ∧ OwnC (α := Ln) 112 p0_2 c0_2 r.2.2.2.1 D2 ∧ n0_3 = (r.2.2.2.2.1).length ∧ OwnC (α := Ow) 148 p0_3 c0_3 r.2.2.2.2.1 D3 ∧ n0_4 = (r.2.2.2.2.2).length ∧ OwnC (α := Bool) 4 p0_4 c0_4 r.2.2.2.2.2 D4) := by
  obtain rfl := hn0_0
  obtain rfl := hn0_1
  obtain rfl := hn0_2
  obtain rfl := hn0_3
  obtain rfl := hn0_4
  unfold l_markMemory at H0
  refine ct_of_cw Tryz.func42 rfl Tryz.ntmps42 rfl hM ?_
  refine sr (oE (stpU_box 5 rfl rfl) rfl ?_)
  rintro _ _ ⟨b1, rfl, rfl⟩
  obtain ⟨x2, e2, H0⟩ := bind_some H0
  refine oD (sg rfl) rfl (nn (sr (oD (fA 0 Tryz.underlying68 rfl ts47 rfl rfl rfl) rfl (oD (stp_loadN (us := [_, _, _, _, _, _, _, _, _]) ts47 rfl (Cells.box (id := 5) rfl 9 rfl)) rfl (oD (mv rfl) rfl (oE (stpU_callM (fun i => bif Nat.beq i 0 then 0 else bif Nat.beq i 1 then 1 else bif Nat.beq i 2 then 2 else bif Nat.beq i 3 then 3 else 6 + i) cf20 (fun w hw hb => c_l_markMachine fl w a0.m p0_0 ((a0.m.t.b).length) c0_0 C0_0 p0_1 ((a0.m.t.f).length) c0_1 C0_1 p0_2 ((a0.m.c.l).length) c0_2 C0_2 p0_3 ((a0.m.g.o).length) c0_3 C0_3 a1 rfl ho0_0 rfl ho0_1 rfl ho0_2 rfl ho0_3 (hw.pass (js := [0, 1, 2, 3]) ⟨0, [1, 2, 3], rfl, rfl, 1, [2, 3], rfl, rfl, 2, [3], rfl, rfl, 3, [], rfl, rfl, trivial⟩ (by decide)) x2 e2) (sevs_cons rfl (sevs_cons rfl sevs_nil)) ⟨rfl, (fun _ _ hp => by obtain ⟨_, _, _, _, _, rfl, _⟩ := hp; exact ⟨_, rfl⟩), rfl, (fun _ _ hp => by obtain ⟨_, _, _, _, _, rfl, _⟩ := hp; exact ⟨_, rfl⟩), rfl, (fun _ _ hp => by obtain ⟨_, _, _, _, _, rfl, _⟩ := hp; exact ⟨_, rfl⟩), rfl, (fun _ _ hp => by obtain ⟨_, _, _, _, _, rfl, _⟩ := hp; exact ⟨_, rfl⟩), trivial⟩) rfl ?_))))))
  rintro _ _ ⟨_, ⟨C3, C4, C5, C6, rfl, rfl, hl3, o3, hl4, o4, hl5, o5, hl6, o6⟩, rfl⟩
  obtain ⟨x7, e7, H0⟩ := bind_some H0
  refine oD (sg rfl) rfl (nn (sr (oD (fA 9 Tryz.underlying68 rfl ts66 rfl rfl rfl) rfl (oD (lB 5 ts66 rfl rfl rfl) rfl (oD (mv rfl) rfl (oE (stpU_callM (fun i => bif Nat.beq i 0 then 4 else 10 + i) cf113 (fun w hw hb => c_l_markBoolS fl w a0.k p0_4 ((a0.k).length) c0_4 C0_4 x2.1 rfl ho0_4 (hw.pass (js := [4]) ⟨4, [], rfl, rfl, trivial⟩ (by decide)) x7 e7) (sevs_cons rfl (sevs_cons rfl sevs_nil)) ⟨rfl, (fun _ _ hp => by obtain ⟨_, _, rfl, _⟩ := hp; exact ⟨_, rfl⟩), trivial⟩) rfl ?_))))))
  rintro _ _ ⟨_, ⟨C8, rfl, rfl, hl8, o8⟩, rfl⟩
  refine oD (sg rfl) rfl (nn (sr (oD (mv rfl) rfl (oD (sg rfl) rfl (nn (cw_ret ?_))))))
  have q0 := Option.some.inj H0
  subst q0
  exact kw_ret Tryz.results42 (.cons (.tmp rfl) .nil) [(0, C3), (1, C4), (2, C5), (3, C6), (4, C8)] [0, 1, 2, 3, 4] ⟨0, [1, 2, 3, 4], rfl, rfl, 1, [2, 3, 4], rfl, rfl, 2, [3, 4], rfl, rfl, 3, [4], rfl, rfl, 4, [], rfl, rfl, trivial⟩ (by decide) ⟨C3, C4, C5, C6, C8, rfl, rfl, (by simp [hl3]), o3, (by simp [hl4]), o4, (by simp [hl5]), o5, (by simp [hl6]), o6, (by simp [hl8]), o8⟩

set_option maxHeartbeats 4000000 in
set_option maxRecDepth 20000 in
theorem c_l_heldBoolS (fl : Nat) (w : World) (a0 : (List Bool)) (p0_0 : Option Addr) (n0_0 c0_0 : Nat) (a1 : Int) (hn0_0 : n0_0 = (a0).length) (hr0_0 : RO w (hkeys []) (RdL p0_0 c0_0 a0)) (r : Int) (H0 : l_heldBoolS fl a0 a1 = some r) :
    Ct Tryz.prog 114 [.slice p0_0 n0_0 c0_0, .int .i64 a1] w [] (fun rv h' => rv = .int .i64 r ∧ h' = []) := by
  obtain rfl := hn0_0
  unfold l_heldBoolS at H0
  refine ct_of_cw Tryz.func114 rfl Tryz.ntmps114 rfl (Sat.refl _ _) ?_
  obtain ⟨o0_0, eo0_0, H0⟩ := bind_some H0
  refine sr (oD (sg rfl) rfl (nn (cw_seq (sr (oD (sg rfl) rfl (nn (cw_join (ι := Int × Int) (fun | (v1, v2) => o0_0 = .out (v1, v2)) (fun | (v1, v2) => [(0, .slice p0_0 ((a0).length) c0_0), (1, .int .i64 v1), (5, .int .i64 v2)]) (fun | (v1, v2) => []) ?_ ?_)))))))
  · refine cw_block (cw_loopS (ι := Nat × Int × Int) (js := []) (fun x => x.1) (fun | (fuel, v1, v2) => l_heldBoolS_L0 fl a0 fuel v1 v2 = some o0_0) (fun | (_, v1, v2) => [(0, .slice p0_0 ((a0).length) c0_0), (1, .int .i64 v1), (5, .int .i64 v2)]) (fun | (_, v1, v2) => []) (fl, a1, 0) eo0_0 ⟨rfl, rfl, rfl, trivial⟩ trivial (by decide) ?_)
    rintro ⟨fuel, v1, v2⟩ H1
    have H1 : l_heldBoolS_L0 fl a0 fuel v1 v2 = some o0_0 := H1
    rcases fuel with _ | fuel
    · rw [l_heldBoolS_L0.eq_1] at H1; cases H1
    rw [l_heldBoolS_L0.eq_2] at H1
    refine CW.sub (s' := [(0, .slice p0_0 ((a0).length) c0_0), (1, .int .i64 v1), (5, .int .i64 v2)]) (h' := []) ?_ ⟨rfl, rfl, rfl, trivial⟩ trivial
    refine cw_seq (sr (oD (mv rfl) rfl (oD (mv rfl) rfl (oD (stp_len Tryz.underlying66 rfl) rfl (oD (stp_lss rfl rfl) rfl (nn (cw_cond rfl (fun h3 => ?_) (fun h3 => ?_))))))))
    · have H1 := cond_t H1 h3
      obtain ⟨x4, e4, H1⟩ := bind_some H1
      obtain ⟨x5, e5, H1⟩ := bind_some H1
      refine cw_skip (kw_nx (cw_seq (cw_block (cw_seq (sr (oD (mv rfl) rfl (oD (mv rfl) rfl (oD (stp_indexAddr Tryz.underlying66 ts4 (by decide) rfl rfl rfl (Rdb.ro hr0_0) e4) rfl (oD (stp_load1 ts4 rfl (Cells.el (Rdb.ro hr0_0) (by decide) e4 0 1 rfl)) rfl (oD (mv rfl) rfl (oD (stp_rem rfl rfl e5) rfl (oD (stp_eql rfl rfl) rfl (oD (stp_neqB Tryz.underlying4 rfl rfl) rfl ?_)))))))))))))
      refine nn (cw_cond rfl (fun h6 => ?_) (fun h6 => ?_))
      · have H1 := cond_t H1 h6
        refine sr (oD (sg rfl) rfl (nn (cw_ret (kw_nx_ret (kw_bl_ret (kw_nx_ret (kw_lq_ret (kw_bl_ret (kw_join_ret (kw_nx_ret ?_))))))))))
        have q1 := Option.some.inj H1
        subst q1
        have q0 := Option.some.inj H0
        subst q0
        exact kw_ret Tryz.results114 (.cons (.tmp rfl) .nil) [] [] trivial (by decide) ⟨rfl, rfl⟩
      · have H1 := cond_f H1 h6
        obtain ⟨x7, e7, H1⟩ := bind_some H1
        obtain ⟨x8, e8, H1⟩ := bind_some H1
        refine cw_skip (kw_nx (cw_region (oD (mv rfl) rfl (oD (stp_add rfl rfl e7) rfl (oD (sg rfl) rfl (ow_nil (kw_bl_normal (kw_nx (cw_region (oD (mv rfl) rfl (oD (stp_add rfl rfl e8) rfl (oD (sg rfl) rfl (ow_nil ?_)))))))))))))
        exact kw_lqS (js := []) (fuel, x7, x8) H1 (Nat.lt_succ_self _) ⟨rfl, rfl, rfl, trivial⟩ trivial (by decide)
    · have H1 := cond_f H1 h3
      refine cw_exit (kw_nx_exit (kw_lq_exit (kw_bl ?_)))
      have q1 := Option.some.inj H1
      subst q1
      exact kw_joinS (js := []) (v1, v2) rfl ⟨rfl, rfl, rfl, trivial⟩ trivial (by decide)
  · rintro ⟨v1, v2⟩ rfl
    refine KW.sub (s' := [(0, .slice p0_0 ((a0).length) c0_0), (1, .int .i64 v1), (5, .int .i64 v2)]) (h' := []) ?_ ⟨rfl, rfl, rfl, trivial⟩ trivial
    refine kw_nx (sr (oD (mv rfl) rfl (oD (sg rfl) rfl (nn (cw_ret ?_)))))
    have q0 := Option.some.inj H0
    subst q0
    exact kw_ret Tryz.results114 (.cons (.tmp rfl) .nil) [] [] trivial (by decide) ⟨rfl, rfl⟩

set_option maxHeartbeats 4000000 in
set_option maxRecDepth 20000 in
theorem c_l_heldMemory (fl : Nat) (w : World) (a0 : Mm) (p0_0 : Option Addr) (n0_0 c0_0 : Nat) (p0_1 : Option Addr) (n0_1 c0_1 : Nat) (p0_2 : Option Addr) (n0_2 c0_2 : Nat) (p0_3 : Option Addr) (n0_3 c0_3 : Nat) (p0_4 : Option Addr) (n0_4 c0_4 : Nat) (a1 : Int) (hn0_0 : n0_0 = (a0.m.t.b).length) (hr0_0 : RO w (hkeys []) (RdL p0_0 c0_0 a0.m.t.b)) (hn0_1 : n0_1 = (a0.m.t.f).length) (hr0_1 : RO w (hkeys []) (RdL p0_1 c0_1 a0.m.t.f)) (hn0_2 : n0_2 = (a0.m.c.l).length) (hr0_2 : RO w (hkeys []) (RdL p0_2 c0_2 a0.m.c.l)) (hn0_3 : n0_3 = (a0.m.g.o).length) (hr0_3 : RO w (hkeys []) (RdL p0_3 c0_3 a0.m.g.o)) (hn0_4 : n0_4 = (a0.k).length) (hr0_4 : RO w (hkeys []) (RdL p0_4 c0_4 a0.k)) (r : Int) (H0 : l_heldMemory fl a0 a1 = some r) :
    Ct Tryz.prog 43 [.agg #[.slice p0_0 n0_0 c0_0, .slice p0_1 n0_1 c0_1, .slice p0_2 n0_2 c0_2, .int .i64 a0.m.c.h, .int .i64 a0.m.g.c, .int .i64 a0.m.g.n, .int .i64 a0.m.g.r, .slice p0_3 n0_3 c0_3, .int .i64 a0.m.s, .slice p0_4 n0_4 c0_4, .int .i64 a0.h], .int .i64 a1] w [] (fun rv h' => rv = .int .i64 r ∧ h' = []) := by
  obtain rfl := hn0_0
  obtain rfl := hn0_1
  obtain rfl := hn0_2
  obtain rfl := hn0_3
  obtain rfl := hn0_4
  unfold l_heldMemory at H0
  refine ct_of_cw Tryz.func43 rfl Tryz.ntmps43 rfl (Sat.refl _ _) ?_
  refine sr (oE (stpU_box 0 rfl rfl) rfl ?_)
  rintro _ _ ⟨b1, rfl, rfl⟩
  obtain ⟨x2, e2, H0⟩ := bind_some H0
  refine oD (sg rfl) rfl (nn (sr (oD (fA 0 Tryz.underlying68 rfl ts47 rfl rfl rfl) rfl (oD (stp_loadN (us := [_, _, _, _, _, _, _, _, _]) ts47 rfl (Cells.box (id := 0) rfl 9 rfl)) rfl (oD (mv rfl) rfl (oE (stpU_call (fun i => 1 + i) cf21 (fun w hw => c_l_heldMachine fl w a0.m p0_0 ((a0.m.t.b).length) c0_0 p0_1 ((a0.m.t.f).length) c0_1 p0_2 ((a0.m.c.l).length) c0_2 p0_3 ((a0.m.g.o).length) c0_3 a1 rfl (RO.pass hr0_0 hw) rfl (RO.pass hr0_1 hw) rfl (RO.pass hr0_2 hw) rfl (RO.pass hr0_3 hw) x2 e2) (sevs_cons rfl (sevs_cons rfl sevs_nil))) rfl ?_))))))
  rintro _ _ ⟨_, ⟨rfl, rfl⟩, rfl⟩
  refine oD (sg rfl) rfl (nn (cw_seq (sr (oD (mv rfl) rfl (oD (stp_lss rfl rfl) rfl (nn (cw_cond rfl (fun h3 => ?_) (fun h3 => ?_))))))))
  · have H0 := cond_t H0 h3
    refine sr (oD (sg rfl) rfl (nn (cw_ret (kw_nx_ret ?_))))
    have q0 := Option.some.inj H0
    subst q0
    exact kw_ret Tryz.results43 (.cons (.tmp rfl) .nil) [] [] trivial (by decide) ⟨rfl, rfl⟩
  · have H0 := cond_f H0 h3
    obtain ⟨x4, e4, H0⟩ := bind_some H0
    refine cw_skip (kw_nx (sr (oD (fA 9 Tryz.underlying68 rfl ts66 rfl rfl rfl) rfl (oD (lB 0 ts66 rfl rfl rfl) rfl (oD (mv rfl) rfl (oE (stpU_call (fun i => 1 + i) cf114 (fun w hw => c_l_heldBoolS fl w a0.k p0_4 ((a0.k).length) c0_4 x2 rfl (RO.pass hr0_4 hw) x4 e4) (sevs_cons rfl (sevs_cons rfl sevs_nil))) rfl ?_))))))
    rintro _ _ ⟨_, ⟨rfl, rfl⟩, rfl⟩
    refine oD (sg rfl) rfl (nn (cw_seq (sr (oD (mv rfl) rfl (oD (stp_lss rfl rfl) rfl (nn (cw_cond rfl (fun h5 => ?_) (fun h5 => ?_))))))))
    · have H0 := cond_t H0 h5
      refine sr (oD (sg rfl) rfl (nn (cw_ret (kw_nx_ret ?_))))
      have q0 := Option.some.inj H0
      subst q0
      exact kw_ret Tryz.results43 (.cons (.tmp rfl) .nil) [] [] trivial (by decide) ⟨rfl, rfl⟩
    · have H0 := cond_f H0 h5
      refine cw_skip (kw_nx (sr (oD (mv rfl) rfl (oD (sg rfl) rfl (nn (cw_ret ?_))))))
      have q0 := Option.some.inj H0
      subst q0
      exact kw_ret Tryz.results43 (.cons (.tmp rfl) .nil) [] [] trivial (by decide) ⟨rfl, rfl⟩
end Go.Proofs.YtbgodaeccgjdgaaGreatDoor
