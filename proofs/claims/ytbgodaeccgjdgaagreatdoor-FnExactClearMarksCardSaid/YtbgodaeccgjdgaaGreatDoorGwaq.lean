/- The walks: functions of the program return what their pure functions say. Printed by a program (gen.py). -/
import Derived.Test.YtbgodaeccgjdgaaGreatDoorGp
import Derived.Test.YtbgodaeccgjdgaaGreatDoorGt
import Derived.Test.YtbgodaeccgjdgaaGreatDoorMan
import Derived.Test.YtbgodaeccgjdgaaGreatDoorMap
import Derived.Test.YtbgodaeccgjdgaaGreatDoorGwaa
import Derived.Test.YtbgodaeccgjdgaaGreatDoorGwab
import Derived.Test.YtbgodaeccgjdgaaGreatDoorGwac
import Derived.Test.YtbgodaeccgjdgaaGreatDoorGws
set_option linter.unusedSimpArgs false
set_option linter.unusedVariables false
set_option linter.unusedSectionVars false
namespace Go.Proofs.YtbgodaeccgjdgaaGreatDoor
open Go.RowKit
set_option maxHeartbeats 4000000 in
set_option maxRecDepth 20000 in
theorem c_l_szBoolS (fl : Nat) (w : World) (a0 : (List Bool)) (p0_0 : Option Addr) (n0_0 c0_0 : Nat) (a1 : Int) (hn0_0 : n0_0 = (a0).length) (hr0_0 : RO w (hkeys []) (RdL p0_0 c0_0 a0)) (r : Int) (H0 : l_szBoolS fl a0 a1 = some r) :
    Ct Tryz.prog 115 [.slice p0_0 n0_0 c0_0, .int .i64 a1] w [] (fun rv h' => rv = .int .i64 r ∧ h' = []) := by
  obtain rfl := hn0_0
  unfold l_szBoolS at H0
  refine ct_of_cw Tryz.func115 rfl Tryz.ntmps115 rfl (Sat.refl _ _) ?_
  obtain ⟨x1, e1, H0⟩ := bind_some H0
  refine sr (oD (sg rfl) rfl (nn (sr (oD (mv rfl) rfl (oD (mv rfl) rfl (oD (stp_len Tryz.underlying66 rfl) rfl (oD (stp_sub rfl rfl e1) rfl (oD (sg rfl) rfl (nn (cw_seq (sr (oD (mv rfl) rfl (oD (stp_lss rfl rfl) rfl ?_)))))))))))))
  refine nn (cw_cond rfl (fun h2 => ?_) (fun h2 => ?_))
  · have H0 := cond_t H0 h2
    refine sr (oD (sg rfl) rfl (nn (cw_ret (kw_nx_ret ?_))))
    have q0 := Option.some.inj H0
    subst q0
    exact kw_ret Tryz.results115 (.cons (.tmp rfl) .nil) [] [] trivial (by decide) ⟨rfl, rfl⟩
  · have H0 := cond_f H0 h2
    refine cw_skip (kw_nx (sr (oD (mv rfl) rfl (oD (sg rfl) rfl (nn (cw_ret ?_))))))
    have q0 := Option.some.inj H0
    subst q0
    exact kw_ret Tryz.results115 (.cons (.tmp rfl) .nil) [] [] trivial (by decide) ⟨rfl, rfl⟩

set_option maxHeartbeats 4000000 in
set_option maxRecDepth 20000 in
theorem c_l_szMemory (fl : Nat) (w : World) (a0 : Mm) (p0_0 : Option Addr) (n0_0 c0_0 : Nat) (p0_1 : Option Addr) (n0_1 c0_1 : Nat) (p0_2 : Option Addr) (n0_2 c0_2 : Nat) (p0_3 : Option Addr) (n0_3 c0_3 : Nat) (p0_4 : Option Addr) (n0_4 c0_4 : Nat) (a1 : Int) (hn0_0 : n0_0 = (a0.m.t.b).length) (hr0_0 : RO w (hkeys []) (RdL p0_0 c0_0 a0.m.t.b)) (hn0_1 : n0_1 = (a0.m.t.f).length) (hr0_1 : RO w (hkeys []) (RdL p0_1 c0_1 a0.m.t.f)) (hn0_2 : n0_2 = (a0.m.c.l).length) (hr0_2 : RO w (hkeys []) (RdL p0_2 c0_2 a0.m.c.l)) (hn0_3 : n0_3 = (a0.m.g.o).length) (hr0_3 : RO w (hkeys []) (RdL p0_3 c0_3 a0.m.g.o)) (hn0_4 : n0_4 = (a0.k).length) (hr0_4 : RO w (hkeys []) (RdL p0_4 c0_4 a0.k)) (r : Int) (H0 : l_szMemory fl a0 a1 = some r) :
    Ct Tryz.prog 44 [.agg #[.slice p0_0 n0_0 c0_0, .slice p0_1 n0_1 c0_1, .slice p0_2 n0_2 c0_2, .int .i64 a0.m.c.h, .int .i64 a0.m.g.c, .int .i64 a0.m.g.n, .int .i64 a0.m.g.r, .slice p0_3 n0_3 c0_3, .int .i64 a0.m.s, .slice p0_4 n0_4 c0_4, .int .i64 a0.h], .int .i64 a1] w [] (fun rv h' => rv = .int .i64 r ∧ h' = []) := by
  obtain rfl := hn0_0
  obtain rfl := hn0_1
  obtain rfl := hn0_2
  obtain rfl := hn0_3
  obtain rfl := hn0_4
  unfold l_szMemory at H0
  refine ct_of_cw Tryz.func44 rfl Tryz.ntmps44 rfl (Sat.refl _ _) ?_
  refine sr (oE (stpU_box 0 rfl rfl) rfl ?_)
  rintro _ _ ⟨b1, rfl, rfl⟩
  obtain ⟨x2, e2, H0⟩ := bind_some H0
  refine oD (sg rfl) rfl (nn (sr (oD (fA 0 Tryz.underlying83 rfl ts33 rfl rfl rfl) rfl (oD (stp_loadN (us := [_, _, _, _, _, _, _, _, _]) ts33 rfl (Cells.box (id := 0) rfl 9 rfl)) rfl (oD (mv rfl) rfl (oE (stpU_call (fun i => 1 + i) cf14 (fun w hw => c_l_szMachine fl w a0.m p0_0 ((a0.m.t.b).length) c0_0 p0_1 ((a0.m.t.f).length) c0_1 p0_2 ((a0.m.c.l).length) c0_2 p0_3 ((a0.m.g.o).length) c0_3 a1 rfl (RO.pass hr0_0 hw) rfl (RO.pass hr0_1 hw) rfl (RO.pass hr0_2 hw) rfl (RO.pass hr0_3 hw) x2 e2) (sevs_cons rfl (sevs_cons rfl sevs_nil))) rfl ?_))))))
  rintro _ _ ⟨_, ⟨rfl, rfl⟩, rfl⟩
  refine oD (sg rfl) rfl (nn (cw_seq (sr (oD (mv rfl) rfl (oD (stp_lss rfl rfl) rfl (nn (cw_cond rfl (fun h3 => ?_) (fun h3 => ?_))))))))
  · have H0 := cond_t H0 h3
    refine sr (oD (sg rfl) rfl (nn (cw_ret (kw_nx_ret ?_))))
    have q0 := Option.some.inj H0
    subst q0
    exact kw_ret Tryz.results44 (.cons (.tmp rfl) .nil) [] [] trivial (by decide) ⟨rfl, rfl⟩
  · have H0 := cond_f H0 h3
    obtain ⟨x4, e4, H0⟩ := bind_some H0
    refine cw_skip (kw_nx (sr (oD (fA 9 Tryz.underlying83 rfl ts66 rfl rfl rfl) rfl (oD (lB 0 ts66 rfl rfl rfl) rfl (oD (mv rfl) rfl (oE (stpU_call (fun i => 1 + i) cf115 (fun w hw => c_l_szBoolS fl w a0.k p0_4 ((a0.k).length) c0_4 x2 rfl (RO.pass hr0_4 hw) x4 e4) (sevs_cons rfl (sevs_cons rfl sevs_nil))) rfl ?_))))))
    rintro _ _ ⟨_, ⟨rfl, rfl⟩, rfl⟩
    refine oD (sg rfl) rfl (nn (cw_seq (sr (oD (mv rfl) rfl (oD (stp_lss rfl rfl) rfl (nn (cw_cond rfl (fun h5 => ?_) (fun h5 => ?_))))))))
    · have H0 := cond_t H0 h5
      refine sr (oD (sg rfl) rfl (nn (cw_ret (kw_nx_ret ?_))))
      have q0 := Option.some.inj H0
      subst q0
      exact kw_ret Tryz.results44 (.cons (.tmp rfl) .nil) [] [] trivial (by decide) ⟨rfl, rfl⟩
    · have H0 := cond_f H0 h5
      refine cw_skip (kw_nx (sr (oD (mv rfl) rfl (oD (sg rfl) rfl (nn (cw_ret ?_))))))
      have q0 := Option.some.inj H0
      subst q0
      exact kw_ret Tryz.results44 (.cons (.tmp rfl) .nil) [] [] trivial (by decide) ⟨rfl, rfl⟩

set_option maxHeartbeats 4000000 in
set_option maxRecDepth 20000 in
theorem c_l_toBoolS (fl : Nat) (w : World) (a0 : (List Bool)) (p0_0 : Option Addr) (n0_0 c0_0 : Nat) (hn0_0 : n0_0 = (a0).length) (hr0_0 : RO w (hkeys []) (RdL p0_0 c0_0 a0)) (r : (List Bool)) (H0 : l_toBoolS fl a0 = some r) :
    Ct Tryz.prog 116 [.slice p0_0 n0_0 c0_0] w [] (fun rv h' => ∃ (x0 : Option Addr) (y0 z0 : Nat) (C0 : Res), rv = .slice x0 y0 z0 ∧ h' = [(0, C0)] ∧ y0 = (r).length ∧ OwnC 4 x0 z0 r C0) := by
  obtain rfl := hn0_0
  unfold l_toBoolS at H0
  refine ct_of_cw Tryz.func116 rfl Tryz.ntmps116 rfl (Sat.refl _ _) ?_
  obtain ⟨x1, e1, H0⟩ := bind_some H0
  refine sr (oD (sg rfl) rfl (nn (sr (oD (mv rfl) rfl (oD (stp_len Tryz.underlying66 rfl) rfl (oE (stpU_make sl66 rfl 0 rfl rfl e1) rfl ?_))))))
  rintro _ _ ⟨p2, C3, rfl, rfl, o3⟩
  obtain ⟨o0_0, eo0_0, H0⟩ := bind_some H0
  refine oD (sg rfl) rfl (nn (cw_seq (sr (oD (sg rfl) rfl (nn (cw_join (ι := (List Bool) × Int × Res) (fun | (v4, v6, C5) => o0_0 = .out (v4, v6) ∧ x1 = (v4).length ∧ OwnC (α := Bool) 4 p2 x1 v4 C5) (fun | (v4, v6, C5) => [(0, .slice p0_0 ((a0).length) c0_0), (3, .slice p2 x1 x1), (4, .int .i64 v6)]) (fun | (v4, v6, C5) => [(0, C5)]) ?_ ?_))))))
  · refine cw_block (cw_loopS (ι := Nat × (List Bool) × Int × Res) (js := [0]) (fun x => x.1) (fun | (fuel, v4, v6, C5) => l_toBoolS_L0 fl a0 fuel v4 v6 = some o0_0 ∧ x1 = (v4).length ∧ OwnC (α := Bool) 4 p2 x1 v4 C5) (fun | (_, v4, v6, C5) => [(0, .slice p0_0 ((a0).length) c0_0), (3, .slice p2 x1 x1), (4, .int .i64 v6)]) (fun | (_, v4, v6, C5) => [(0, C5)]) (fl, (List.replicate x1 false), 0, C3) ⟨eo0_0, (by simp), o3⟩ ⟨rfl, rfl, rfl, trivial⟩ ⟨0, [], rfl, rfl, trivial⟩ (by decide) ?_)
    rintro ⟨fuel, v4, v6, C5⟩ ⟨H1, hl5, o5⟩
    have H1 : l_toBoolS_L0 fl a0 fuel v4 v6 = some o0_0 := H1
    rcases fuel with _ | fuel
    · rw [l_toBoolS_L0.eq_1] at H1; cases H1
    rw [l_toBoolS_L0.eq_2] at H1
    refine CW.sub (s' := [(0, .slice p0_0 ((a0).length) c0_0), (3, .slice p2 x1 x1), (4, .int .i64 v6)]) (h' := [(0, C5)]) ?_ ⟨rfl, rfl, rfl, trivial⟩ ⟨rfl, trivial⟩
    refine cw_seq (sr (oD (mv rfl) rfl (oD (mv rfl) rfl (oD (stp_len Tryz.underlying66 rfl) rfl (oD (stp_lss rfl rfl) rfl (nn (cw_cond rfl (fun h7 => ?_) (fun h7 => ?_))))))))
    · have H1 := cond_t H1 h7
      obtain ⟨x8, e8, H1⟩ := bind_some H1
      obtain ⟨x9, e9, H1⟩ := bind_some H1
      refine cw_skip (kw_nx (cw_seq (cw_block (cw_region (oD (mv rfl) rfl (oD (mv rfl) rfl (oD (mv rfl) rfl (oD (mv rfl) rfl (oD (stp_indexAddr Tryz.underlying66 ts4 (by decide) rfl rfl rfl (Rdb.ro hr0_0) e8) rfl (oD (stp_load1 ts4 rfl (Cells.el (Rdb.ro hr0_0) (by decide) e8 0 1 rfl)) rfl (oD (stp_indexAddr Tryz.underlying66 ts4 (by decide) rfl (by simp [hl5]) rfl (Rdb.own (id := 0) rfl o5) e9) rfl (oF (stpU_storeEl (id := 0) (i := 0) x8 (by decide) ts4 rfl rfl rfl o5 e9 rfl rfl rfl rfl) ?_))))))))))))
      rintro _ _ ⟨C10, rfl, o10⟩
      obtain ⟨x11, e11, H1⟩ := bind_some H1
      exact ow_nil (kw_bl_normal (kw_nx (cw_region (oD (mv rfl) rfl (oD (stp_add rfl rfl e11) rfl (oD (sg rfl) rfl (ow_nil (kw_lqS (js := [0]) (fuel, (v4.set (Int.toNat v6) x8), x11, C10) ⟨H1, (by simp [hl5]), o10⟩ (Nat.lt_succ_self _) ⟨rfl, rfl, rfl, trivial⟩ ⟨0, [], rfl, rfl, trivial⟩ (by decide)))))))))
    · have H1 := cond_f H1 h7
      refine cw_exit (kw_nx_exit (kw_lq_exit (kw_bl ?_)))
      have q1 := Option.some.inj H1
      subst q1
      exact kw_joinS (js := [0]) (v4, v6, C5) ⟨rfl, (by simp [hl5]), o5⟩ ⟨rfl, rfl, rfl, trivial⟩ ⟨0, [], rfl, rfl, trivial⟩ (by decide)
  · rintro ⟨v4, v6, C5⟩ ⟨rfl, hl5, o5⟩
    refine KW.sub (s' := [(0, .slice p0_0 ((a0).length) c0_0), (3, .slice p2 x1 x1), (4, .int .i64 v6)]) (h' := [(0, C5)]) ?_ ⟨rfl, rfl, rfl, trivial⟩ ⟨rfl, trivial⟩
    refine kw_nx (sr (oD (mv rfl) rfl (oD (sg rfl) rfl (nn (cw_ret ?_)))))
    have q0 := Option.some.inj H0
    subst q0
    exact kw_ret Tryz.results116 (.cons (.tmp rfl) .nil) [(0, C5)] [0] ⟨0, [], rfl, rfl, trivial⟩ (by decide) ⟨p2, x1, x1, C5, rfl, rfl, (by simp [hl5]), o5⟩

set_option maxHeartbeats 4000000 in
set_option maxRecDepth 20000 in
theorem c_l_toMemory (fl : Nat) (w : World) (a0 : Mm) (p0_0 : Option Addr) (n0_0 c0_0 : Nat) (p0_1 : Option Addr) (n0_1 c0_1 : Nat) (p0_2 : Option Addr) (n0_2 c0_2 : Nat) (p0_3 : Option Addr) (n0_3 c0_3 : Nat) (p0_4 : Option Addr) (n0_4 c0_4 : Nat) (hn0_0 : n0_0 = (a0.m.t.b).length) (hr0_0 : RO w (hkeys []) (RdL p0_0 c0_0 a0.m.t.b)) (hn0_1 : n0_1 = (a0.m.t.f).length) (hr0_1 : RO w (hkeys []) (RdL p0_1 c0_1 a0.m.t.f)) (hn0_2 : n0_2 = (a0.m.c.l).length) (hr0_2 : RO w (hkeys []) (RdL p0_2 c0_2 a0.m.c.l)) (hn0_3 : n0_3 = (a0.m.g.o).length) (hr0_3 : RO w (hkeys []) (RdL p0_3 c0_3 a0.m.g.o)) (hn0_4 : n0_4 = (a0.k).length) (hr0_4 : RO w (hkeys []) (RdL p0_4 c0_4 a0.k)) (r : Mm) (H0 : l_toMemory fl a0 = some r) :
    Ct Tryz.prog 46 [.agg #[.slice p0_0 n0_0 c0_0, .slice p0_1 n0_1 c0_1, .slice p0_2 n0_2 c0_2, .int .i64 a0.m.c.h, .int .i64 a0.m.g.c, .int .i64 a0.m.g.n, .int .i64 a0.m.g.r, .slice p0_3 n0_3 c0_3, .int .i64 a0.m.s, .slice p0_4 n0_4 c0_4, .int .i64 a0.h]] w [] (fun rv h' => ∃ (x0 : Option Addr) (y0 z0 : Nat) (C0 : Res) (x1 : Option Addr) (y1 z1 : Nat) (C1 : Res) (x2 : Option Addr) (y2 z2 : Nat) (C2 : Res) (x3 : Option Addr) (y3 z3 : Nat) (C3 : Res) (x4 : Option Addr) (y4 z4 : Nat) (C4 : Res), rv = .agg #[.slice x0 y0 z0, .slice x1 y1 z1, .slice x2 y2 z2, .int .i64 r.m.c.h, .int .i64 r.m.g.c, .int .i64 r.m.g.n, .int .i64 r.m.g.r, .slice x3 y3 z3, .int .i64 r.m.s, .slice x4 y4 z4, .int .i64 r.h] ∧ h' = [(0, C0), (1, C1), (2, C2), (3, C3), (4, C4)] ∧ y0 = (r.m.t.b).length ∧ OwnC 3 x0 z0 r.m.t.b C0 ∧ y1 = (r.m.t.f).length ∧ OwnC 127 x1 z1 r.m.t.f C1 ∧ y2 = (r.m.c.l).length ∧ OwnC 112 x2 z2 r.m.c.l C2 ∧ y3 = (r.m.g.o).length ∧ OwnC 148 x3 z3 r.m.g.o C3 ∧ y4 = (r.k).length ∧ OwnC 4 x4 z4 r.k C4) := by
  obtain rfl := hn0_0
  obtain rfl := hn0_1
  obtain rfl := hn0_2
  obtain rfl := hn0_3
  obtain rfl := hn0_4
  unfold l_toMemory at H0
  refine ct_of_cw Tryz.func46 rfl Tryz.ntmps46 rfl (Sat.refl _ _) ?_
  refine sr (oE (stpU_box 0 rfl rfl) rfl ?_)
  rintro _ _ ⟨b1, rfl, rfl⟩
  refine oE (stpU_alloc 1 tz68 rfl) rfl ?_
  rintro _ _ ⟨b2, rfl, rfl⟩
  refine nn (sr (oE (stpU_alloc 2 tz68 rfl) rfl ?_))
  rintro _ _ ⟨b3, rfl, rfl⟩
  obtain ⟨x4, e4, H0⟩ := bind_some H0
  refine nn (sr (oD (fA 0 Tryz.underlying83 rfl ts33 rfl rfl rfl) rfl (oD (stp_loadN (us := [_, _, _, _, _, _, _, _, _]) ts33 rfl (Cells.box (id := 0) rfl 9 rfl)) rfl (oE (stpU_call (fun i => 3 + i) cf16 (fun w hw => c_l_toMachine fl w a0.m p0_0 ((a0.m.t.b).length) c0_0 p0_1 ((a0.m.t.f).length) c0_1 p0_2 ((a0.m.c.l).length) c0_2 p0_3 ((a0.m.g.o).length) c0_3 rfl (RO.pass hr0_0 hw) rfl (RO.pass hr0_1 hw) rfl (RO.pass hr0_2 hw) rfl (RO.pass hr0_3 hw) x4 e4) (sevs_cons rfl sevs_nil)) rfl ?_))))
  rintro _ _ ⟨_, ⟨p5, n6, c7, C8, p9, n10, c11, C12, p13, n14, c15, C16, p17, n18, c19, C20, rfl, rfl, hnn6, o8, hnn10, o12, hnn14, o16, hnn18, o20⟩, rfl⟩
  obtain rfl := hnn6
  obtain rfl := hnn10
  obtain rfl := hnn14
  obtain rfl := hnn18
  refine oD (fA 0 Tryz.underlying68 rfl ts47 rfl rfl rfl) rfl (oF (stpU_store (id := 2) (cs' := [.slice p5 ((x4.t.b).length) c7, .slice p9 ((x4.t.f).length) c11, .slice p13 ((x4.c.l).length) c15, .int .i64 x4.c.h, .int .i64 x4.g.c, .int .i64 x4.g.n, .int .i64 x4.g.r, .slice p17 ((x4.g.o).length) c19, .int .i64 x4.s, .slice none 0 0, .int .i64 0]) ts47 rfl rfl rfl rfl rfl rfl rfl) ?_)
  rintro _ _ rfl
  obtain ⟨x21, e21, H0⟩ := bind_some H0
  refine nn (sr (oD (fA 9 Tryz.underlying83 rfl ts66 rfl rfl rfl) rfl (oD (lB 0 ts66 rfl rfl rfl) rfl (oE (stpU_call (fun i => 7 + i) cf116 (fun w hw => c_l_toBoolS fl w a0.k p0_4 ((a0.k).length) c0_4 rfl (RO.pass hr0_4 hw) x21 e21) (sevs_cons rfl sevs_nil)) rfl ?_))))
  rintro _ _ ⟨_, ⟨p22, n23, c24, C25, rfl, rfl, hnn23, o25⟩, rfl⟩
  obtain rfl := hnn23
  refine oD (fA 9 Tryz.underlying68 rfl ts66 rfl rfl rfl) rfl (oF (stpU_store (id := 2) (cs' := [.slice p5 ((x4.t.b).length) c7, .slice p9 ((x4.t.f).length) c11, .slice p13 ((x4.c.l).length) c15, .int .i64 x4.c.h, .int .i64 x4.g.c, .int .i64 x4.g.n, .int .i64 x4.g.r, .slice p17 ((x4.g.o).length) c19, .int .i64 x4.s, .slice p22 ((x21).length) c24, .int .i64 0]) ts66 rfl rfl rfl rfl rfl rfl rfl) ?_)
  rintro _ _ rfl
  refine nn (sr (oD (fA 10 Tryz.underlying83 rfl ts3 rfl rfl rfl) rfl (oD (lB 0 ts3 rfl rfl rfl) rfl (oD (fA 10 Tryz.underlying68 rfl ts3 rfl rfl rfl) rfl (oF (stpU_store (id := 2) (cs' := [.slice p5 ((x4.t.b).length) c7, .slice p9 ((x4.t.f).length) c11, .slice p13 ((x4.c.l).length) c15, .int .i64 x4.c.h, .int .i64 x4.g.c, .int .i64 x4.g.n, .int .i64 x4.g.r, .slice p17 ((x4.g.o).length) c19, .int .i64 x4.s, .slice p22 ((x21).length) c24, .int .i64 a0.h]) ts3 rfl rfl rfl rfl rfl rfl rfl) ?_)))))
  rintro _ _ rfl
  refine nn (sr (oD (stp_loadN (us := [_, _, _, _, _, _, _, _, _, _, _]) ts68 rfl (Cells.box (id := 2) rfl 11 rfl)) rfl (oF (stpU_store (id := 1) (cs' := [.slice p5 ((x4.t.b).length) c7, .slice p9 ((x4.t.f).length) c11, .slice p13 ((x4.c.l).length) c15, .int .i64 x4.c.h, .int .i64 x4.g.c, .int .i64 x4.g.n, .int .i64 x4.g.r, .slice p17 ((x4.g.o).length) c19, .int .i64 x4.s, .slice p22 ((x21).length) c24, .int .i64 a0.h]) ts68 rfl rfl rfl rfl rfl rfl rfl) ?_)))
  rintro _ _ rfl
  refine nn (cw_ret ?_)
  have q0 := Option.some.inj H0
  subst q0
  exact kw_ret Tryz.results46 (.cons (.cellN (us := [_, _, _, _, _, _, _, _, _, _, _]) ts68 rfl (Cells.box (id := 1) rfl 11 rfl)) .nil) [(0, C8), (1, C12), (2, C16), (3, C20), (4, C25)] [3, 4, 5, 6, 7] ⟨3, [4, 5, 6, 7], rfl, rfl, 4, [5, 6, 7], rfl, rfl, 5, [6, 7], rfl, rfl, 6, [7], rfl, rfl, 7, [], rfl, rfl, trivial⟩ (by decide) ⟨p5, ((x4.t.b).length), c7, C8, p9, ((x4.t.f).length), c11, C12, p13, ((x4.c.l).length), c15, C16, p17, ((x4.g.o).length), c19, C20, p22, ((x21).length), c24, C25, rfl, rfl, rfl, o8, rfl, o12, rfl, o16, rfl, o20, rfl, o25⟩

set_option maxHeartbeats 4000000 in
set_option maxRecDepth 20000 in
theorem c_s_MemoryValid (fl : Nat) (w : World) (a0 : Mm) (p0_0 : Option Addr) (n0_0 c0_0 : Nat) (p0_1 : Option Addr) (n0_1 c0_1 : Nat) (p0_2 : Option Addr) (n0_2 c0_2 : Nat) (p0_3 : Option Addr) (n0_3 c0_3 : Nat) (p0_4 : Option Addr) (n0_4 c0_4 : Nat) (hn0_0 : n0_0 = (a0.m.t.b).length) (hr0_0 : RO w (hkeys []) (RdL p0_0 c0_0 a0.m.t.b)) (hn0_1 : n0_1 = (a0.m.t.f).length) (hr0_1 : RO w (hkeys []) (RdL p0_1 c0_1 a0.m.t.f)) (hn0_2 : n0_2 = (a0.m.c.l).length) (hr0_2 : RO w (hkeys []) (RdL p0_2 c0_2 a0.m.c.l)) (hn0_3 : n0_3 = (a0.m.g.o).length) (hr0_3 : RO w (hkeys []) (RdL p0_3 c0_3 a0.m.g.o)) (hn0_4 : n0_4 = (a0.k).length) (hr0_4 : RO w (hkeys []) (RdL p0_4 c0_4 a0.k)) (r : Bool) (H0 : s_MemoryValid fl a0 = some r) :
    Ct Tryz.prog 106 [.agg #[.slice p0_0 n0_0 c0_0, .slice p0_1 n0_1 c0_1, .slice p0_2 n0_2 c0_2, .int .i64 a0.m.c.h, .int .i64 a0.m.g.c, .int .i64 a0.m.g.n, .int .i64 a0.m.g.r, .slice p0_3 n0_3 c0_3, .int .i64 a0.m.s, .slice p0_4 n0_4 c0_4, .int .i64 a0.h]] w [] (fun rv h' => rv = .bool r ∧ h' = []) := by
  obtain rfl := hn0_0
  obtain rfl := hn0_1
  obtain rfl := hn0_2
  obtain rfl := hn0_3
  obtain rfl := hn0_4
  unfold s_MemoryValid at H0
  refine ct_of_cw Tryz.func106 rfl Tryz.ntmps106 rfl (Sat.refl _ _) ?_
  refine sr (oE (stpU_box 0 rfl rfl) rfl ?_)
  rintro _ _ ⟨b1, rfl, rfl⟩
  obtain ⟨x2, e2, H0⟩ := bind_some H0
  refine oD (sg rfl) rfl (nn (cw_seq (sr (oD (fA 0 Tryz.underlying68 rfl ts47 rfl rfl rfl) rfl (oD (stp_loadN (us := [_, _, _, _, _, _, _, _, _]) ts47 rfl (Cells.box (id := 0) rfl 9 rfl)) rfl (oE (stpU_call (fun i => 1 + i) cf53 (fun w hw => c_s_MachineValid fl w a0.m p0_0 ((a0.m.t.b).length) c0_0 p0_1 ((a0.m.t.f).length) c0_1 p0_2 ((a0.m.c.l).length) c0_2 p0_3 ((a0.m.g.o).length) c0_3 rfl (RO.pass hr0_0 hw) rfl (RO.pass hr0_1 hw) rfl (RO.pass hr0_2 hw) rfl (RO.pass hr0_3 hw) x2 e2) (sevs_cons rfl sevs_nil)) rfl ?_))))))
  rintro _ _ ⟨_, ⟨rfl, rfl⟩, rfl⟩
  obtain ⟨y3, ey3, H0⟩ := bind_some H0
  refine oD (stp_not rfl) rfl (oD (mv rfl) rfl (ow_cutY 10 18 y3 ?_ ?_))
  · rcases Bool.eq_false_or_eq_true (!x2) with hy3 | hy3
    · have ey3 := cond_t ey3 hy3
      refine oO rfl hy3 rfl (oO rfl hy3 rfl (oO rfl hy3 rfl (oO rfl hy3 rfl (oO rfl hy3 rfl (oO rfl hy3 rfl (oO rfl hy3 rfl (oO rfl hy3 rfl (oO rfl hy3 rfl (oD (stp_pick_t rfl hy3 rfl) rfl ?_)))))))))
      obtain rfl := Option.some.inj ey3
      exact ow_nil (jy 10 0)
    · have ey3 := cond_f ey3 hy3
      refine oG rfl hy3 (fA 9 Tryz.underlying68 rfl ts66 rfl rfl rfl) rfl (oG rfl hy3 (lB 0 ts66 rfl rfl rfl) rfl (oG rfl hy3 (stp_len Tryz.underlying66 rfl) rfl (oG rfl hy3 (fA 0 Tryz.underlying68 rfl ts47 rfl rfl rfl) rfl (oG rfl hy3 (fA 0 Tryz.underlying47 rfl ts39 rfl rfl rfl) rfl (oG rfl hy3 (fA 1 Tryz.underlying39 rfl ts37 rfl rfl rfl) rfl (oG rfl hy3 (lB 0 ts37 rfl rfl rfl) rfl (oG rfl hy3 (stp_len Tryz.underlying37 rfl) rfl (oG rfl hy3 (stp_neq rfl rfl) rfl (oD (stp_pick_f rfl hy3 rfl) rfl ?_)))))))))
      obtain rfl := Option.some.inj ey3
      exact ow_nil (jy 10 0)
  · obtain ⟨y4, ey4, H0⟩ := bind_some H0
    refine oD (mv rfl) rfl (ow_cutY 4 23 y4 ?_ ?_)
    · rcases Bool.eq_false_or_eq_true y3 with hy4 | hy4
      · have ey4 := cond_t ey4 hy4
        refine oO rfl hy4 rfl (oO rfl hy4 rfl (oO rfl hy4 rfl (oD (stp_pick_t rfl hy4 rfl) rfl ?_)))
        obtain rfl := Option.some.inj ey4
        exact ow_nil (jy 4 0)
      · have ey4 := cond_f ey4 hy4
        refine oG rfl hy4 (fA 10 Tryz.underlying68 rfl ts3 rfl rfl rfl) rfl (oG rfl hy4 (lB 0 ts3 rfl rfl rfl) rfl (oG rfl hy4 (stp_lss rfl rfl) rfl (oD (stp_pick_f rfl hy4 rfl) rfl ?_)))
        obtain rfl := Option.some.inj ey4
        exact ow_nil (jy 4 0)
    · obtain ⟨y5, ey5, H0⟩ := bind_some H0
      refine oD (mv rfl) rfl (ow_cutY 7 31 y5 ?_ ?_)
      · rcases Bool.eq_false_or_eq_true y4 with hy5 | hy5
        · have ey5 := cond_t ey5 hy5
          refine oO rfl hy5 rfl (oO rfl hy5 rfl (oO rfl hy5 rfl (oO rfl hy5 rfl (oO rfl hy5 rfl (oO rfl hy5 rfl (oD (stp_pick_t rfl hy5 rfl) rfl ?_))))))
          obtain rfl := Option.some.inj ey5
          exact ow_nil (jy 7 0)
        · have ey5 := cond_f ey5 hy5
          refine oG rfl hy5 (fA 10 Tryz.underlying68 rfl ts3 rfl rfl rfl) rfl (oG rfl hy5 (lB 0 ts3 rfl rfl rfl) rfl (oG rfl hy5 (fA 9 Tryz.underlying68 rfl ts66 rfl rfl rfl) rfl (oG rfl hy5 (lB 0 ts66 rfl rfl rfl) rfl (oG rfl hy5 (stp_len Tryz.underlying66 rfl) rfl (oG rfl hy5 (stp_geq rfl rfl) rfl (oD (stp_pick_f rfl hy5 rfl) rfl ?_))))))
          obtain rfl := Option.some.inj ey5
          exact ow_nil (jy 7 0)
      · refine ow_nil (kw_nx (cw_cond rfl (fun h6 => ?_) (fun h6 => ?_)))
        · have H0 := cond_t H0 h6
          refine sr (oD (sg rfl) rfl (nn (cw_ret (kw_nx_ret ?_))))
          have q0 := Option.some.inj H0
          subst q0
          exact kw_ret Tryz.results106 (.cons (.tmp rfl) .nil) [] [] trivial (by decide) ⟨rfl, rfl⟩
        · have H0 := cond_f H0 h6
          obtain ⟨o0_0, eo0_0, H0⟩ := bind_some H0
          refine cw_skip (kw_nx (cw_seq (sr (oD (sg rfl) rfl (nn (cw_join (ι := Int) (fun | v7 => o0_0 = .out v7) (fun | v7 => [(1, .pointer (some ⟨b1, 0, none⟩)), (3, .int .i64 v7)]) (fun | v7 => [(0, [(b1, .cells #[.slice p0_0 ((a0.m.t.b).length) c0_0, .slice p0_1 ((a0.m.t.f).length) c0_1, .slice p0_2 ((a0.m.c.l).length) c0_2, .int .i64 a0.m.c.h, .int .i64 a0.m.g.c, .int .i64 a0.m.g.n, .int .i64 a0.m.g.r, .slice p0_3 ((a0.m.g.o).length) c0_3, .int .i64 a0.m.s, .slice p0_4 ((a0.k).length) c0_4, .int .i64 a0.h] 68 (0, 0))])]) ?_ ?_))))))
          · refine cw_block (cw_loopS (ι := Nat × Int) (js := [0]) (fun x => x.1) (fun | (fuel, v7) => s_MemoryValid_L0 fl a0 fuel v7 = some o0_0) (fun | (_, v7) => [(1, .pointer (some ⟨b1, 0, none⟩)), (3, .int .i64 v7)]) (fun | (_, v7) => [(0, [(b1, .cells #[.slice p0_0 ((a0.m.t.b).length) c0_0, .slice p0_1 ((a0.m.t.f).length) c0_1, .slice p0_2 ((a0.m.c.l).length) c0_2, .int .i64 a0.m.c.h, .int .i64 a0.m.g.c, .int .i64 a0.m.g.n, .int .i64 a0.m.g.r, .slice p0_3 ((a0.m.g.o).length) c0_3, .int .i64 a0.m.s, .slice p0_4 ((a0.k).length) c0_4, .int .i64 a0.h] 68 (0, 0))])]) (fl, 0) eo0_0 ⟨rfl, rfl, trivial⟩ ⟨0, [], rfl, rfl, trivial⟩ (by decide) ?_)
            rintro ⟨fuel, v7⟩ H1
            have H1 : s_MemoryValid_L0 fl a0 fuel v7 = some o0_0 := H1
            rcases fuel with _ | fuel
            · rw [s_MemoryValid_L0.eq_1] at H1; cases H1
            rw [s_MemoryValid_L0.eq_2] at H1
            refine CW.sub (s' := [(1, .pointer (some ⟨b1, 0, none⟩)), (3, .int .i64 v7)]) (h' := [(0, [(b1, .cells #[.slice p0_0 ((a0.m.t.b).length) c0_0, .slice p0_1 ((a0.m.t.f).length) c0_1, .slice p0_2 ((a0.m.c.l).length) c0_2, .int .i64 a0.m.c.h, .int .i64 a0.m.g.c, .int .i64 a0.m.g.n, .int .i64 a0.m.g.r, .slice p0_3 ((a0.m.g.o).length) c0_3, .int .i64 a0.m.s, .slice p0_4 ((a0.k).length) c0_4, .int .i64 a0.h] 68 (0, 0))])]) ?_ ⟨rfl, rfl, trivial⟩ ⟨rfl, trivial⟩
            refine cw_seq (sr (oD (mv rfl) rfl (oD (fA 9 Tryz.underlying68 rfl ts66 rfl rfl rfl) rfl (oD (lB 0 ts66 rfl rfl rfl) rfl (oD (stp_len Tryz.underlying66 rfl) rfl (oD (stp_lss rfl rfl) rfl (nn (cw_cond rfl (fun h8 => ?_) (fun h8 => ?_)))))))))
            · have H1 := cond_t H1 h8
              obtain ⟨x9, e9, H1⟩ := bind_some H1
              obtain ⟨y10, ey10, H1⟩ := bind_some H1
              refine cw_skip (kw_nx (cw_seq (cw_block (sr (oD (fA 9 Tryz.underlying68 rfl ts66 rfl rfl rfl) rfl (oD (lB 0 ts66 rfl rfl rfl) rfl (oD (mv rfl) rfl (oD (stp_indexAddr Tryz.underlying66 ts4 (by decide) rfl rfl rfl (Rdb.ro hr0_4) e9) rfl (oD (stp_load1 ts4 rfl (Cells.el (Rdb.ro hr0_4) (by decide) e9 0 1 rfl)) rfl (oD (mv rfl) rfl (ow_cutY 10 54 y10 ?_ ?_)))))))))))
              · rcases Bool.eq_false_or_eq_true x9 with hy10 | hy10
                · have ey10 := cond_t ey10 hy10
                  obtain ⟨x11, e11, ey10⟩ := bind_some ey10
                  refine oG rfl hy10 (fA 0 Tryz.underlying68 rfl ts47 rfl rfl rfl) rfl (oG rfl hy10 (fA 0 Tryz.underlying47 rfl ts39 rfl rfl rfl) rfl (oG rfl hy10 (fA 1 Tryz.underlying39 rfl ts37 rfl rfl rfl) rfl (oG rfl hy10 (lB 0 ts37 rfl rfl rfl) rfl (oG rfl hy10 (mv rfl) rfl (oG rfl hy10 (stp_indexAddr Tryz.underlying37 ts127 (by decide) rfl rfl rfl (Rdb.ro hr0_1) e11) rfl (oG rfl hy10 (fA 0 Tryz.underlying127 rfl ts4 rfl rfl rfl) rfl (oG rfl hy10 (stp_load1 ts4 rfl (Cells.el (Rdb.ro hr0_1) (by decide) e11 0 1 rfl)) rfl (oG rfl hy10 (stp_not rfl) rfl (oD (stp_pick_t rfl hy10 rfl) rfl ?_)))))))))
                  obtain rfl := Option.some.inj ey10
                  exact ow_nil (jy 10 0)
                · have ey10 := cond_f ey10 hy10
                  refine oO rfl hy10 rfl (oO rfl hy10 rfl (oO rfl hy10 rfl (oO rfl hy10 rfl (oO rfl hy10 rfl (oO rfl hy10 rfl (oO rfl hy10 rfl (oO rfl hy10 rfl (oO rfl hy10 rfl (oD (stp_pick_f rfl hy10 rfl) rfl ?_)))))))))
                  obtain rfl := Option.some.inj ey10
                  exact ow_nil (jy 10 0)
              · refine ow_nil (kw_nx (cw_cond rfl (fun h12 => ?_) (fun h12 => ?_)))
                · have H1 := cond_t H1 h12
                  refine sr (oD (sg rfl) rfl (nn (cw_ret (kw_bl_ret (kw_nx_ret (kw_lq_ret (kw_bl_ret (kw_join_ret (kw_nx_ret ?_)))))))))
                  have q1 := Option.some.inj H1
                  subst q1
                  have q0 := Option.some.inj H0
                  subst q0
                  exact kw_ret Tryz.results106 (.cons (.tmp rfl) .nil) [] [] trivial (by decide) ⟨rfl, rfl⟩
                · have H1 := cond_f H1 h12
                  obtain ⟨x13, e13, H1⟩ := bind_some H1
                  exact cw_skip (kw_bl_normal (kw_nx (cw_region (oD (mv rfl) rfl (oD (stp_add rfl rfl e13) rfl (oD (sg rfl) rfl (ow_nil (kw_lqS (js := [0]) (fuel, x13) H1 (Nat.lt_succ_self _) ⟨rfl, rfl, trivial⟩ ⟨0, [], rfl, rfl, trivial⟩ (by decide)))))))))
            · have H1 := cond_f H1 h8
              refine cw_exit (kw_nx_exit (kw_lq_exit (kw_bl ?_)))
              have q1 := Option.some.inj H1
              subst q1
              exact kw_joinS (js := [0]) v7 rfl ⟨rfl, rfl, trivial⟩ ⟨0, [], rfl, rfl, trivial⟩ (by decide)
          · rintro v7 rfl
            refine KW.sub (s' := [(1, .pointer (some ⟨b1, 0, none⟩)), (3, .int .i64 v7)]) (h' := [(0, [(b1, .cells #[.slice p0_0 ((a0.m.t.b).length) c0_0, .slice p0_1 ((a0.m.t.f).length) c0_1, .slice p0_2 ((a0.m.c.l).length) c0_2, .int .i64 a0.m.c.h, .int .i64 a0.m.g.c, .int .i64 a0.m.g.n, .int .i64 a0.m.g.r, .slice p0_3 ((a0.m.g.o).length) c0_3, .int .i64 a0.m.s, .slice p0_4 ((a0.k).length) c0_4, .int .i64 a0.h] 68 (0, 0))])]) ?_ ⟨rfl, rfl, trivial⟩ ⟨rfl, trivial⟩
            refine kw_nx (sr (oD (sg rfl) rfl (nn (cw_ret ?_))))
            have q0 := Option.some.inj H0
            subst q0
            exact kw_ret Tryz.results106 (.cons (.tmp rfl) .nil) [] [] trivial (by decide) ⟨rfl, rfl⟩

set_option maxHeartbeats 4000000 in
set_option maxRecDepth 20000 in
theorem c_s_l7Copy (fl : Nat) (w : World) (a0 : Mm) (p0_0 : Option Addr) (n0_0 c0_0 : Nat) (p0_1 : Option Addr) (n0_1 c0_1 : Nat) (p0_2 : Option Addr) (n0_2 c0_2 : Nat) (p0_3 : Option Addr) (n0_3 c0_3 : Nat) (p0_4 : Option Addr) (n0_4 c0_4 : Nat) (hn0_0 : n0_0 = (a0.m.t.b).length) (hr0_0 : RO w (hkeys []) (RdL p0_0 c0_0 a0.m.t.b)) (hn0_1 : n0_1 = (a0.m.t.f).length) (hr0_1 : RO w (hkeys []) (RdL p0_1 c0_1 a0.m.t.f)) (hn0_2 : n0_2 = (a0.m.c.l).length) (hr0_2 : RO w (hkeys []) (RdL p0_2 c0_2 a0.m.c.l)) (hn0_3 : n0_3 = (a0.m.g.o).length) (hr0_3 : RO w (hkeys []) (RdL p0_3 c0_3 a0.m.g.o)) (hn0_4 : n0_4 = (a0.k).length) (hr0_4 : RO w (hkeys []) (RdL p0_4 c0_4 a0.k)) (r : Mm) (H0 : s_l7Copy fl a0 = some r) :
    Ct Tryz.prog 107 [.agg #[.slice p0_0 n0_0 c0_0, .slice p0_1 n0_1 c0_1, .slice p0_2 n0_2 c0_2, .int .i64 a0.m.c.h, .int .i64 a0.m.g.c, .int .i64 a0.m.g.n, .int .i64 a0.m.g.r, .slice p0_3 n0_3 c0_3, .int .i64 a0.m.s, .slice p0_4 n0_4 c0_4, .int .i64 a0.h]] w [] (fun rv h' => ∃ (x0 : Option Addr) (y0 z0 : Nat) (C0 : Res) (x1 : Option Addr) (y1 z1 : Nat) (C1 : Res) (x2 : Option Addr) (y2 z2 : Nat) (C2 : Res) (x3 : Option Addr) (y3 z3 : Nat) (C3 : Res) (x4 : Option Addr) (y4 z4 : Nat) (C4 : Res), rv = .agg #[.slice x0 y0 z0, .slice x1 y1 z1, .slice x2 y2 z2, .int .i64 r.m.c.h, .int .i64 r.m.g.c, .int .i64 r.m.g.n, .int .i64 r.m.g.r, .slice x3 y3 z3, .int .i64 r.m.s, .slice x4 y4 z4, .int .i64 r.h] ∧ h' = [(0, C0), (1, C1), (2, C2), (3, C3), (4, C4)] ∧ y0 = (r.m.t.b).length ∧ OwnC 3 x0 z0 r.m.t.b C0 ∧ y1 = (r.m.t.f).length ∧ OwnC 127 x1 z1 r.m.t.f C1 ∧ y2 = (r.m.c.l).length ∧ OwnC 112 x2 z2 r.m.c.l C2 ∧ y3 = (r.m.g.o).length ∧ OwnC 148 x3 z3 r.m.g.o C3 ∧ y4 = (r.k).length ∧ OwnC 4 x4 z4 r.k C4) := by
  obtain rfl := hn0_0
  obtain rfl := hn0_1
  obtain rfl := hn0_2
  obtain rfl := hn0_3
  obtain rfl := hn0_4
  unfold s_l7Copy at H0
  refine ct_of_cw Tryz.func107 rfl Tryz.ntmps107 rfl (Sat.refl _ _) ?_
  refine sr (oE (stpU_box 0 rfl rfl) rfl ?_)
  rintro _ _ ⟨b1, rfl, rfl⟩
  refine oE (stpU_alloc 1 tz68 rfl) rfl ?_
  rintro _ _ ⟨b2, rfl, rfl⟩
  obtain ⟨x3, e3, H0⟩ := bind_some H0
  obtain ⟨x22, e22, H0⟩ := bind_some H0
  refine nn (cw_seq (rdr g_mixed [1, 2] [0, 1] { dst := dS [4, 5, 6, 7, 8, 9, 10, 11, 12, 13, 0], pre := gA [] [[], [0], [0, 1], [], [], [4], rn 0 6, [], [7], rn 0 9, rn 0 10], ids := gA [] [[], [], [2, 3, 4, 5], [6], [], [], [6], [], [], [], [1]], rs := rL [[(1, 0)], [(3, 1)], [(4, 2)], [], [(1, 0)], [(7, 5)], [(6, 4), (8, 6)], [(1, 0)], [(10, 8)], [(5, 3), (9, 7), (11, 9)], [(2, 0), (12, 10)]], rh := rL [[], [(0, 0)], [], [], [], [(0, 0)], [(6, 4)], [], [(0, 0)], [], [(1, 0)]], V := fun i g => gA undef [.pointer (some ⟨b1, 0, none⟩), .agg #[.slice p0_0 ((a0.m.t.b).length) c0_0, .slice p0_1 ((a0.m.t.f).length) c0_1, .slice p0_2 ((a0.m.c.l).length) c0_2, .int .i64 a0.m.c.h, .int .i64 a0.m.g.c, .int .i64 a0.m.g.n, .int .i64 a0.m.g.r, .slice p0_3 ((a0.m.g.o).length) c0_3, .int .i64 a0.m.s], .agg #[.slice ((g 2).A 0) ((x3.t.b).length) ((g 2).C 0), .slice ((g 2).A 1) ((x3.t.f).length) ((g 2).C 1), .slice ((g 2).A 2) ((x3.c.l).length) ((g 2).C 2), .int .i64 x3.c.h, .int .i64 x3.g.c, .int .i64 x3.g.n, .int .i64 x3.g.r, .slice ((g 2).A 3) ((x3.g.o).length) ((g 2).C 3), .int .i64 x3.s], .slice ((g 3).A 0) 0 0, .pointer (some ⟨b1, 9, none⟩), .slice p0_4 ((a0.k).length) c0_4, .slice ((g 6).A 0) ((x22).length) ((g 6).C 0), .pointer (some ⟨b1, 10, none⟩), .int .i64 a0.h, .agg #[.slice ((g 2).A 0) ((x3.t.b).length) ((g 2).C 0), .slice ((g 2).A 1) ((x3.t.f).length) ((g 2).C 1), .slice ((g 2).A 2) ((x3.c.l).length) ((g 2).C 2), .int .i64 x3.c.h, .int .i64 x3.g.c, .int .i64 x3.g.n, .int .i64 x3.g.r, .slice ((g 2).A 3) ((x3.g.o).length) ((g 2).C 3), .int .i64 x3.s, .slice ((g 6).A 0) ((x22).length) ((g 6).C 0), .int .i64 a0.h]] i, U := fun i g => gA [] [[], [], [(2, ((g 2).R 0)), (3, ((g 2).R 1)), (4, ((g 2).R 2)), (5, ((g 2).R 3))], [(6, ((g 3).R 0))], [], [], [(6, ((g 6).R 0))], [], [], [], [(1, [(b2, .cells #[.slice ((g 2).A 0) ((x3.t.b).length) ((g 2).C 0), .slice ((g 2).A 1) ((x3.t.f).length) ((g 2).C 1), .slice ((g 2).A 2) ((x3.c.l).length) ((g 2).C 2), .int .i64 x3.c.h, .int .i64 x3.g.c, .int .i64 x3.g.n, .int .i64 x3.g.r, .slice ((g 2).A 3) ((x3.g.o).length) ((g 2).C 3), .int .i64 x3.s, .slice ((g 6).A 0) ((x22).length) ((g 6).C 0), .int .i64 a0.h] 68 (0, 0))])]] i, Φ := fun i x => gA True [True, True, OwnC (α := Int) 3 (x.A 0) (x.C 0) x3.t.b (x.R 0) ∧ OwnC (α := F) 127 (x.A 1) (x.C 1) x3.t.f (x.R 1) ∧ OwnC (α := Ln) 112 (x.A 2) (x.C 2) x3.c.l (x.R 2) ∧ OwnC (α := Ow) 148 (x.A 3) (x.C 3) x3.g.o (x.R 3), OwnC (α := Bool) 4 (x.A 0) 0 ([] : List Bool) (x.R 0), True, True, OwnC (α := Bool) 4 (x.A 0) (x.C 0) x22 (x.R 0)] i } ?_ ?_))
  · refine ⟨⟨⟨⟨⟨⟨⟨⟨⟨⟨⟨trivial, lc rfl rfl fun hs hh => stp_fieldAddr (j := 0) Tryz.underlying68 rfl ts47 rfl (sv hs 1 rfl) rfl⟩, lc rfl rfl fun hs hh => stp_loadN (us := [_, _, _, _, _, _, _, _, _]) ts47 (sv hs 3 rfl) (Cells.box (id := 0) (hh.get 0 _ rfl) 9 rfl)⟩, ?_⟩, ?_⟩, lc rfl rfl fun hs hh => stp_fieldAddr (j := 9) Tryz.underlying68 rfl ts66 rfl (sv hs 1 rfl) rfl⟩, lc rfl rfl fun hs hh => stp_load1 ts66 (sv hs 7 rfl) (Cells.box (id := 0) (hh.get 0 _ rfl) 1 rfl)⟩, ?_⟩, lc rfl rfl fun hs hh => stp_fieldAddr (j := 10) Tryz.underlying68 rfl ts3 rfl (sv hs 1 rfl) rfl⟩, lc rfl rfl fun hs hh => stp_load1 ts3 (sv hs 10 rfl) (Cells.box (id := 0) (hh.get 0 _ rfl) 1 rfl)⟩, ld rfl rfl fun g hΦ s h hs hh => stp_build (cs := #[.slice ((g 2).A 0) ((x3.t.b).length) ((g 2).C 0), .slice ((g 2).A 1) ((x3.t.f).length) ((g 2).C 1), .slice ((g 2).A 2) ((x3.c.l).length) ((g 2).C 2), .int .i64 x3.c.h, .int .i64 x3.g.c, .int .i64 x3.g.n, .int .i64 x3.g.r, .slice ((g 2).A 3) ((x3.g.o).length) ((g 2).C 3), .int .i64 x3.s, .slice ((g 6).A 0) ((x22).length) ((g 6).C 0), .int .i64 a0.h]) (sevp_cons (sv hs 5 rfl) (sevp_cons (sv hs 9 rfl) (sevp_cons (sv hs 11 rfl) sevp_nil))) bt68_20⟩, ?_⟩
    · refine le rfl rfl (fun g hΦ s h hs hh => (stpU_call (fun i => 2 + i) cf56 (fun w hw => c_s_l6Copy fl w a0.m p0_0 ((a0.m.t.b).length) c0_0 p0_1 ((a0.m.t.f).length) c0_1 p0_2 ((a0.m.c.l).length) c0_2 p0_3 ((a0.m.g.o).length) c0_3 rfl (RO.pass hr0_0 hw) rfl (RO.pass hr0_1 hw) rfl (RO.pass hr0_2 hw) rfl (RO.pass hr0_3 hw) x3 e3) (sevs_cons (sv hs 4 rfl) sevs_nil))) ?_
      rintro g _ _ ⟨_, ⟨p4, n5, c6, C7, p8, n9, c10, C11, p12, n13, c14, C15, p16, n17, c18, C19, rfl, rfl, hnn5, o7, hnn9, o11, hnn13, o15, hnn17, o19⟩, rfl⟩
      obtain rfl := hnn5
      obtain rfl := hnn9
      obtain rfl := hnn13
      obtain rfl := hnn17
      exact ⟨⟨[p4, p8, p12, p16], [c6, c10, c14, c18], [C7, C11, C15, C19]⟩, ⟨o7, o11, o15, o19⟩, .inr rfl, rfl⟩
    · refine le rfl rfl (fun g hΦ s h hs hh => (stpU_lit0 sl66 6)) ?_
      rintro g _ _ ⟨p20, C21, rfl, rfl, o21⟩
      exact ⟨⟨[p20], [], [C21]⟩, o21, .inr rfl, rfl⟩
    · refine le rfl rfl (fun g hΦ s h hs hh => (stpU_append sl66 rfl (id := 6) (sv hs 6 rfl) (by simp) (sv hs 8 rfl) rfl (hh.get 6 _ rfl) (hΦ 3 rfl) (Rdb.ro hr0_4) e22)) ?_
      rintro g _ _ ⟨p23, c24, C25, rfl, rfl, o25⟩
      exact ⟨⟨[p23], [c24], [C25]⟩, o25, .inr rfl, rfl⟩
    · refine le rfl rfl (fun g hΦ s h hs hh => (stpU_store (id := 1) (cs' := [.slice ((g 2).A 0) ((x3.t.b).length) ((g 2).C 0), .slice ((g 2).A 1) ((x3.t.f).length) ((g 2).C 1), .slice ((g 2).A 2) ((x3.c.l).length) ((g 2).C 2), .int .i64 x3.c.h, .int .i64 x3.g.c, .int .i64 x3.g.n, .int .i64 x3.g.r, .slice ((g 2).A 3) ((x3.g.o).length) ((g 2).C 3), .int .i64 x3.s, .slice ((g 6).A 0) ((x22).length) ((g 6).C 0), .int .i64 a0.h]) ts68 (sv hs 2 rfl) (sv hs 12 rfl) (hh.get 1 _ rfl) rfl rfl rfl rfl)) ?_
      rintro g _ _ rfl
      exact ⟨⟨[], [], []⟩, trivial, .inl rfl, rfl⟩
  · intro g hΦ
    refine kw_gen (ι := Option Addr × Option Addr × Option Addr × Option Addr × Nat × Nat × Nat × Nat × Res × Res × Res × Res × Option Addr × Res × Option Addr × Nat × Res) (((g 2).A 0), ((g 2).A 1), ((g 2).A 2), ((g 2).A 3), ((g 2).C 0), ((g 2).C 1), ((g 2).C 2), ((g 2).C 3), ((g 2).R 0), ((g 2).R 1), ((g 2).R 2), ((g 2).R 3), ((g 3).A 0), ((g 3).R 0), ((g 6).A 0), ((g 6).C 0), ((g 6).R 0)) (fun | (p4, p8, p12, p16, c6, c10, c14, c18, C7, C11, C15, C19, p20, C21, p23, c24, C25) => OwnC (α := Int) 3 p4 c6 x3.t.b C7 ∧ OwnC (α := F) 127 p8 c10 x3.t.f C11 ∧ OwnC (α := Ln) 112 p12 c14 x3.c.l C15 ∧ OwnC (α := Ow) 148 p16 c18 x3.g.o C19 ∧ OwnC (α := Bool) 4 p20 0 ([] : List Bool) C21 ∧ OwnC (α := Bool) 4 p23 c24 x22 C25) (fun | (p4, p8, p12, p16, c6, c10, c14, c18, C7, C11, C15, C19, p20, C21, p23, c24, C25) => [(2, .pointer (some ⟨b2, 0, none⟩))]) (fun | (p4, p8, p12, p16, c6, c10, c14, c18, C7, C11, C15, C19, p20, C21, p23, c24, C25) => [(1, [(b2, .cells #[.slice p4 ((x3.t.b).length) c6, .slice p8 ((x3.t.f).length) c10, .slice p12 ((x3.c.l).length) c14, .int .i64 x3.c.h, .int .i64 x3.g.c, .int .i64 x3.g.n, .int .i64 x3.g.r, .slice p16 ((x3.g.o).length) c18, .int .i64 x3.s, .slice p23 ((x22).length) c24, .int .i64 a0.h] 68 (0, 0))]), (2, C7), (3, C11), (4, C15), (5, C19), (6, C25)]) ⟨(hΦ 2 (by decide)).1, (hΦ 2 (by decide)).2.1, (hΦ 2 (by decide)).2.2.1, (hΦ 2 (by decide)).2.2.2, (hΦ 3 (by decide)), (hΦ 6 (by decide))⟩ ⟨rfl, trivial⟩ ⟨rfl, rfl, rfl, rfl, rfl, rfl, trivial⟩ ?_
    rintro ⟨p4, p8, p12, p16, c6, c10, c14, c18, C7, C11, C15, C19, p20, C21, p23, c24, C25⟩ ⟨o7, o11, o15, o19, o21, o25⟩
    refine KW.sub (s' := [(2, .pointer (some ⟨b2, 0, none⟩))]) (h' := [(1, [(b2, .cells #[.slice p4 ((x3.t.b).length) c6, .slice p8 ((x3.t.f).length) c10, .slice p12 ((x3.c.l).length) c14, .int .i64 x3.c.h, .int .i64 x3.g.c, .int .i64 x3.g.n, .int .i64 x3.g.r, .slice p16 ((x3.g.o).length) c18, .int .i64 x3.s, .slice p23 ((x22).length) c24, .int .i64 a0.h] 68 (0, 0))]), (2, C7), (3, C11), (4, C15), (5, C19), (6, C25)]) ?_ ⟨rfl, trivial⟩ ⟨rfl, rfl, rfl, rfl, rfl, rfl, trivial⟩
    refine kw_nx (cw_ret ?_)
    have q0 := Option.some.inj H0
    subst q0
    exact kw_ret Tryz.results107 (.cons (.cellN (us := [_, _, _, _, _, _, _, _, _, _, _]) ts68 rfl (Cells.box (id := 1) rfl 11 rfl)) .nil) [(0, C7), (1, C11), (2, C15), (3, C19), (4, C25)] [2, 3, 4, 5, 6] ⟨2, [3, 4, 5, 6], rfl, rfl, 3, [4, 5, 6], rfl, rfl, 4, [5, 6], rfl, rfl, 5, [6], rfl, rfl, 6, [], rfl, rfl, trivial⟩ (by decide) ⟨p4, ((x3.t.b).length), c6, C7, p8, ((x3.t.f).length), c10, C11, p12, ((x3.c.l).length), c14, C15, p16, ((x3.g.o).length), c18, C19, p23, ((x22).length), c24, C25, rfl, rfl, rfl, o7, rfl, o11, rfl, o15, rfl, o19, rfl, o25⟩

set_option maxHeartbeats 4000000 in
set_option maxRecDepth 20000 in
theorem c_i_MemoryValid (fl : Nat) (w : World) (a0 : Mm) (p0_0 : Option Addr) (n0_0 c0_0 : Nat) (p0_1 : Option Addr) (n0_1 c0_1 : Nat) (p0_2 : Option Addr) (n0_2 c0_2 : Nat) (p0_3 : Option Addr) (n0_3 c0_3 : Nat) (p0_4 : Option Addr) (n0_4 c0_4 : Nat) (hn0_0 : n0_0 = (a0.m.t.b).length) (hr0_0 : RO w (hkeys []) (RdL p0_0 c0_0 a0.m.t.b)) (hn0_1 : n0_1 = (a0.m.t.f).length) (hr0_1 : RO w (hkeys []) (RdL p0_1 c0_1 a0.m.t.f)) (hn0_2 : n0_2 = (a0.m.c.l).length) (hr0_2 : RO w (hkeys []) (RdL p0_2 c0_2 a0.m.c.l)) (hn0_3 : n0_3 = (a0.m.g.o).length) (hr0_3 : RO w (hkeys []) (RdL p0_3 c0_3 a0.m.g.o)) (hn0_4 : n0_4 = (a0.k).length) (hr0_4 : RO w (hkeys []) (RdL p0_4 c0_4 a0.k)) (hg : RO w (hkeys []) (fun w' => w'.rangeAt 0 0 [.bool false, .int .i64 0, .int .i64 0, .int .i64 0, .int .i64 (-1)])) (r : Bool) (H0 : i_MemoryValid fl a0 = some r) :
    Ct Tryz.prog 38 [.agg #[.slice p0_0 n0_0 c0_0, .slice p0_1 n0_1 c0_1, .slice p0_2 n0_2 c0_2, .int .i64 a0.m.c.h, .int .i64 a0.m.g.c, .int .i64 a0.m.g.n, .int .i64 a0.m.g.r, .slice p0_3 n0_3 c0_3, .int .i64 a0.m.s, .slice p0_4 n0_4 c0_4, .int .i64 a0.h]] w [] (fun rv h' => rv = .bool r ∧ h' = []) := by
  obtain rfl := hn0_0
  obtain rfl := hn0_1
  obtain rfl := hn0_2
  obtain rfl := hn0_3
  obtain rfl := hn0_4
  unfold i_MemoryValid at H0
  refine ct_of_cw Tryz.func38 rfl Tryz.ntmps38 rfl (Sat.refl _ _) ?_
  refine sr (oE (stpU_box 0 rfl rfl) rfl ?_)
  rintro _ _ ⟨b1, rfl, rfl⟩
  obtain ⟨x2, e2, H0⟩ := bind_some H0
  refine oD (sg rfl) rfl (nn (sr (oD (fA 0 Tryz.underlying68 rfl ts47 rfl rfl rfl) rfl (oD (fA 0 Tryz.underlying47 rfl ts39 rfl rfl rfl) rfl (oD (fA 1 Tryz.underlying39 rfl ts37 rfl rfl rfl) rfl (oD (lB 0 ts37 rfl rfl rfl) rfl (oD (sg rfl) rfl (nn (cw_seq (sr (oD (fA 0 Tryz.underlying68 rfl ts47 rfl rfl rfl) rfl (oD (stp_loadN (us := [_, _, _, _, _, _, _, _, _]) ts47 rfl (Cells.box (id := 0) rfl 9 rfl)) rfl (oE (stpU_call (fun i => 1 + i) cf60 (fun w hw => c_i_MachineValid fl w a0.m p0_0 ((a0.m.t.b).length) c0_0 p0_1 ((a0.m.t.f).length) c0_1 p0_2 ((a0.m.c.l).length) c0_2 p0_3 ((a0.m.g.o).length) c0_3 rfl (RO.pass hr0_0 hw) rfl (RO.pass hr0_1 hw) rfl (RO.pass hr0_2 hw) rfl (RO.pass hr0_3 hw) (RO.pass hg hw) x2 e2) (sevs_cons rfl sevs_nil)) rfl ?_)))))))))))))
  rintro _ _ ⟨_, ⟨rfl, rfl⟩, rfl⟩
  obtain ⟨y3, ey3, H0⟩ := bind_some H0
  refine oD (stp_not rfl) rfl (oD (mv rfl) rfl (ow_cutY 7 21 y3 ?_ ?_))
  · rcases Bool.eq_false_or_eq_true (!x2) with hy3 | hy3
    · have ey3 := cond_t ey3 hy3
      refine oO rfl hy3 rfl (oO rfl hy3 rfl (oO rfl hy3 rfl (oO rfl hy3 rfl (oO rfl hy3 rfl (oO rfl hy3 rfl (oD (stp_pick_t rfl hy3 rfl) rfl ?_))))))
      obtain rfl := Option.some.inj ey3
      exact ow_nil (jy 7 0)
    · have ey3 := cond_f ey3 hy3
      refine oG rfl hy3 (fA 9 Tryz.underlying68 rfl ts66 rfl rfl rfl) rfl (oG rfl hy3 (lB 0 ts66 rfl rfl rfl) rfl (oG rfl hy3 (stp_len Tryz.underlying66 rfl) rfl (oG rfl hy3 (mv rfl) rfl (oG rfl hy3 (stp_len Tryz.underlying37 rfl) rfl (oG rfl hy3 (stp_neq rfl rfl) rfl (oD (stp_pick_f rfl hy3 rfl) rfl ?_))))))
      obtain rfl := Option.some.inj ey3
      exact ow_nil (jy 7 0)
  · obtain ⟨y4, ey4, H0⟩ := bind_some H0
    refine oD (mv rfl) rfl (ow_cutY 7 29 y4 ?_ ?_)
    · rcases Bool.eq_false_or_eq_true y3 with hy4 | hy4
      · have ey4 := cond_t ey4 hy4
        refine oO rfl hy4 rfl (oO rfl hy4 rfl (oO rfl hy4 rfl (oO rfl hy4 rfl (oO rfl hy4 rfl (oO rfl hy4 rfl (oD (stp_pick_t rfl hy4 rfl) rfl ?_))))))
        obtain rfl := Option.some.inj ey4
        exact ow_nil (jy 7 0)
      · have ey4 := cond_f ey4 hy4
        obtain ⟨x5, e5, ey4⟩ := bind_some ey4
        refine oG rfl hy4 (fA 10 Tryz.underlying68 rfl ts3 rfl rfl rfl) rfl (oG rfl hy4 (lB 0 ts3 rfl rfl rfl) rfl (oG rfl hy4 (mv rfl) rfl (oG rfl hy4 (stp_len Tryz.underlying37 rfl) rfl (ow_eff (.some rfl hy4) (stpU_call (fun i => 1 + i) cf90 (fun w hw => c_i_within fl w a0.h ((a0.m.t.f).length : Int) x5 e5) (sevs_cons rfl (sevs_cons rfl sevs_nil))) rfl ?_))))
        rintro _ _ ⟨_, ⟨rfl, rfl⟩, rfl⟩
        refine oG rfl hy4 (stp_not rfl) rfl (oD (stp_pick_f rfl hy4 rfl) rfl ?_)
        obtain rfl := Option.some.inj ey4
        exact ow_nil (jy 7 0)
    · refine ow_nil (kw_nx (cw_cond rfl (fun h6 => ?_) (fun h6 => ?_)))
      · have H0 := cond_t H0 h6
        refine sr (oD (sg rfl) rfl (nn (cw_ret (kw_nx_ret ?_))))
        have q0 := Option.some.inj H0
        subst q0
        exact kw_ret Tryz.results38 (.cons (.tmp rfl) .nil) [] [] trivial (by decide) ⟨rfl, rfl⟩
      · have H0 := cond_f H0 h6
        obtain ⟨o0_0, eo0_0, H0⟩ := bind_some H0
        refine cw_skip (kw_nx (cw_seq (sr (oD (fA 9 Tryz.underlying68 rfl ts66 rfl rfl rfl) rfl (oD (lB 0 ts66 rfl rfl rfl) rfl (oD (stp_len Tryz.underlying66 rfl) rfl (oD (mv rfl) rfl (nn (cw_join (ι := Int) (fun | v7 => o0_0 = .out v7) (fun | v7 => [(3, .slice p0_1 ((a0.m.t.f).length) c0_1), (31, .slice p0_4 ((a0.k).length) c0_4), (32, .int .i64 ((a0.k).length : Int)), (33, .int .i64 v7)]) (fun | v7 => []) ?_ ?_)))))))))
        · refine cw_block (cw_loopS (ι := Nat × Int) (js := []) (fun x => x.1) (fun | (fuel, v7) => i_MemoryValid_L0 fl a0 fuel v7 = some o0_0) (fun | (_, v7) => [(3, .slice p0_1 ((a0.m.t.f).length) c0_1), (31, .slice p0_4 ((a0.k).length) c0_4), (32, .int .i64 ((a0.k).length : Int)), (33, .int .i64 v7)]) (fun | (_, v7) => []) (fl, 0) eo0_0 ⟨rfl, rfl, rfl, rfl, trivial⟩ trivial (by decide) ?_)
          rintro ⟨fuel, v7⟩ H1
          have H1 : i_MemoryValid_L0 fl a0 fuel v7 = some o0_0 := H1
          rcases fuel with _ | fuel
          · rw [i_MemoryValid_L0.eq_1] at H1; cases H1
          rw [i_MemoryValid_L0.eq_2] at H1
          refine CW.sub (s' := [(3, .slice p0_1 ((a0.m.t.f).length) c0_1), (31, .slice p0_4 ((a0.k).length) c0_4), (32, .int .i64 ((a0.k).length : Int)), (33, .int .i64 v7)]) (h' := []) ?_ ⟨rfl, rfl, rfl, rfl, trivial⟩ trivial
          refine sr (oD (stp_lss rfl rfl) rfl (nn (cw_seq (cw_cond rfl (fun h8 => ?_) (fun h8 => ?_)))))
          · have H1 := cond_t H1 h8
            obtain ⟨x9, e9, H1⟩ := bind_some H1
            refine cw_skip (kw_nx (cw_seq (cw_block (sr (oD (mv rfl) rfl (oD (stp_indexAddr Tryz.underlying66 ts4 (by decide) rfl rfl rfl (Rdb.ro hr0_4) e9) rfl (oD (stp_load1 ts4 rfl (Cells.el (Rdb.ro hr0_4) (by decide) e9 0 1 rfl)) rfl (oD (sg rfl) rfl (oD (sg rfl) rfl (nn (sr (oD (mv rfl) rfl (oD (mv rfl) rfl ?_)))))))))))))
            obtain ⟨y10, ey10, H1⟩ := bind_some H1
            refine ow_cutY 7 46 y10 ?_ ?_
            · rcases Bool.eq_false_or_eq_true x9 with hy10 | hy10
              · have ey10 := cond_t ey10 hy10
                obtain ⟨x11, e11, ey10⟩ := bind_some ey10
                refine oG rfl hy10 (mv rfl) rfl (oG rfl hy10 (mv rfl) rfl (oG rfl hy10 (stp_indexAddr Tryz.underlying37 ts127 (by decide) rfl rfl rfl (Rdb.ro hr0_1) e11) rfl (oG rfl hy10 (fA 0 Tryz.underlying127 rfl ts4 rfl rfl rfl) rfl (oG rfl hy10 (stp_load1 ts4 rfl (Cells.el (Rdb.ro hr0_1) (by decide) e11 0 1 rfl)) rfl (oG rfl hy10 (stp_not rfl) rfl (oD (stp_pick_t rfl hy10 rfl) rfl ?_))))))
                obtain rfl := Option.some.inj ey10
                exact ow_nil (jy 7 0)
              · have ey10 := cond_f ey10 hy10
                refine oO rfl hy10 rfl (oO rfl hy10 rfl (oO rfl hy10 rfl (oO rfl hy10 rfl (oO rfl hy10 rfl (oO rfl hy10 rfl (oD (stp_pick_f rfl hy10 rfl) rfl ?_))))))
                obtain rfl := Option.some.inj ey10
                exact ow_nil (jy 7 0)
            · refine ow_nil (kw_nx (cw_cond rfl (fun h12 => ?_) (fun h12 => ?_)))
              · have H1 := cond_t H1 h12
                refine sr (oD (sg rfl) rfl (nn (cw_ret (kw_bl_ret (kw_nx_ret (kw_lq_ret (kw_bl_ret (kw_join_ret (kw_nx_ret ?_)))))))))
                have q1 := Option.some.inj H1
                subst q1
                have q0 := Option.some.inj H0
                subst q0
                exact kw_ret Tryz.results38 (.cons (.tmp rfl) .nil) [] [] trivial (by decide) ⟨rfl, rfl⟩
              · have H1 := cond_f H1 h12
                obtain ⟨x13, e13, H1⟩ := bind_some H1
                exact cw_skip (kw_bl_normal (kw_nx (cw_region (oD (stp_add rfl rfl e13) rfl (oD (mv rfl) rfl (ow_nil (kw_lqS (js := []) (fuel, x13) H1 (Nat.lt_succ_self _) ⟨rfl, rfl, rfl, rfl, trivial⟩ trivial (by decide))))))))
          · have H1 := cond_f H1 h8
            refine cw_exit (kw_nx_exit (kw_lq_exit (kw_bl ?_)))
            have q1 := Option.some.inj H1
            subst q1
            exact kw_joinS (js := []) v7 rfl ⟨rfl, rfl, rfl, rfl, trivial⟩ trivial (by decide)
        · rintro v7 rfl
          refine KW.sub (s' := [(3, .slice p0_1 ((a0.m.t.f).length) c0_1), (31, .slice p0_4 ((a0.k).length) c0_4), (32, .int .i64 ((a0.k).length : Int)), (33, .int .i64 v7)]) (h' := []) ?_ ⟨rfl, rfl, rfl, rfl, trivial⟩ trivial
          refine kw_nx (sr (oD (sg rfl) rfl (nn (cw_ret ?_))))
          have q0 := Option.some.inj H0
          subst q0
          exact kw_ret Tryz.results38 (.cons (.tmp rfl) .nil) [] [] trivial (by decide) ⟨rfl, rfl⟩

set_option maxHeartbeats 4000000 in
set_option maxRecDepth 20000 in
theorem c_slices_Clone_Bool (fl : Nat) (w : World) (a0 : (List Bool)) (p0_0 : Option Addr) (n0_0 c0_0 : Nat) (hn0_0 : n0_0 = (a0).length) (hr0_0 : RO w (hkeys []) (RdL p0_0 c0_0 a0)) (r : (List Bool)) (H0 : slices_Clone_Bool fl a0 = some r) :
    Ct Tryz.prog 182 [.slice p0_0 n0_0 c0_0] w [] (fun rv h' => ∃ (x0 : Option Addr) (y0 z0 : Nat) (C0 : Res), rv = .slice x0 y0 z0 ∧ h' = [(0, C0)] ∧ y0 = (r).length ∧ OwnC 4 x0 z0 r C0) := by
  obtain rfl := hn0_0
  unfold slices_Clone_Bool at H0
  refine ct_of_cw Tryz.func182 rfl Tryz.ntmps182 rfl (Sat.refl _ _) ?_
  refine sr (oD (sg rfl) rfl (nn (cw_seq (sr (oD (mv rfl) rfl (oD (stp_eqlNil Tryz.underlying66 rfl) rfl (nn (cw_cond rfl (fun h1 => ?_) (fun h1 => ?_)))))))))
  · have := True.intro
    obtain rfl : p0_0 = none := by simpa using h1
    obtain rfl : a0 = [] := nil_of_none hr0_0
    obtain rfl : r = [] := (cnt_some H0).1
    exact sr (oD (sg rfl) rfl (nn (cw_ret (kw_nx_ret (kw_addNil 0 (kw_ret Tryz.results182 (.cons (.tmp rfl) .nil) [(0, [])] [0] ⟨0, [], rfl, rfl, trivial⟩ (by decide) ⟨none, 0, 0, [], rfl, rfl, rfl, (OwnC.nil _ _)⟩))))))
  · have := True.intro
    refine cw_skip (kw_nx (sr (oE (stpU_lit0 sl66 1) rfl ?_)))
    rintro _ _ ⟨p2, C3, rfl, rfl, o3⟩
    refine oD (mv rfl) rfl ?_
    have e4 : cnt (([] : List Bool) ++ a0) = some r := H0
    refine oE (stpU_append sl66 rfl (id := 1) rfl (by simp) rfl rfl rfl o3 (Rdb.ro hr0_0) e4) rfl ?_
    rintro _ _ ⟨p5, c6, C7, rfl, rfl, o7⟩
    exact oD (sg rfl) rfl (nn (cw_ret (kw_ret Tryz.results182 (.cons (.tmp rfl) .nil) [(0, C7)] [1] ⟨1, [], rfl, rfl, trivial⟩ (by decide) ⟨p5, ((r).length), c6, C7, rfl, rfl, rfl, o7⟩)))

set_option maxHeartbeats 4000000 in
set_option maxRecDepth 20000 in
theorem c_i_Memory_clone (fl : Nat) (w : World) (a0 : Mm) (p0_0 : Option Addr) (n0_0 c0_0 : Nat) (p0_1 : Option Addr) (n0_1 c0_1 : Nat) (p0_2 : Option Addr) (n0_2 c0_2 : Nat) (p0_3 : Option Addr) (n0_3 c0_3 : Nat) (p0_4 : Option Addr) (n0_4 c0_4 : Nat) (hn0_0 : n0_0 = (a0.m.t.b).length) (hr0_0 : RO w (hkeys []) (RdL p0_0 c0_0 a0.m.t.b)) (hn0_1 : n0_1 = (a0.m.t.f).length) (hr0_1 : RO w (hkeys []) (RdL p0_1 c0_1 a0.m.t.f)) (hn0_2 : n0_2 = (a0.m.c.l).length) (hr0_2 : RO w (hkeys []) (RdL p0_2 c0_2 a0.m.c.l)) (hn0_3 : n0_3 = (a0.m.g.o).length) (hr0_3 : RO w (hkeys []) (RdL p0_3 c0_3 a0.m.g.o)) (hn0_4 : n0_4 = (a0.k).length) (hr0_4 : RO w (hkeys []) (RdL p0_4 c0_4 a0.k)) (r : Mm) (H0 : i_Memory_clone fl a0 = some r) :
    Ct Tryz.prog 104 [.agg #[.slice p0_0 n0_0 c0_0, .slice p0_1 n0_1 c0_1, .slice p0_2 n0_2 c0_2, .int .i64 a0.m.c.h, .int .i64 a0.m.g.c, .int .i64 a0.m.g.n, .int .i64 a0.m.g.r, .slice p0_3 n0_3 c0_3, .int .i64 a0.m.s, .slice p0_4 n0_4 c0_4, .int .i64 a0.h]] w [] (fun rv h' => ∃ (x0 : Option Addr) (y0 z0 : Nat) (C0 : Res) (x1 : Option Addr) (y1 z1 : Nat) (C1 : Res) (x2 : Option Addr) (y2 z2 : Nat) (C2 : Res) (x3 : Option Addr) (y3 z3 : Nat) (C3 : Res) (x4 : Option Addr) (y4 z4 : Nat) (C4 : Res), rv = .agg #[.slice x0 y0 z0, .slice x1 y1 z1, .slice x2 y2 z2, .int .i64 r.m.c.h, .int .i64 r.m.g.c, .int .i64 r.m.g.n, .int .i64 r.m.g.r, .slice x3 y3 z3, .int .i64 r.m.s, .slice x4 y4 z4, .int .i64 r.h] ∧ h' = [(0, C0), (1, C1), (2, C2), (3, C3), (4, C4)] ∧ y0 = (r.m.t.b).length ∧ OwnC 3 x0 z0 r.m.t.b C0 ∧ y1 = (r.m.t.f).length ∧ OwnC 127 x1 z1 r.m.t.f C1 ∧ y2 = (r.m.c.l).length ∧ OwnC 112 x2 z2 r.m.c.l C2 ∧ y3 = (r.m.g.o).length ∧ OwnC 148 x3 z3 r.m.g.o C3 ∧ y4 = (r.k).length ∧ OwnC 4 x4 z4 r.k C4) := by
  obtain rfl := hn0_0
  obtain rfl := hn0_1
  obtain rfl := hn0_2
  obtain rfl := hn0_3
  obtain rfl := hn0_4
  unfold i_Memory_clone at H0
  refine ct_of_cw Tryz.func104 rfl Tryz.ntmps104 rfl (Sat.refl _ _) ?_
  refine sr (oE (stpU_box 0 rfl rfl) rfl ?_)
  rintro _ _ ⟨b1, rfl, rfl⟩
  refine oE (stpU_alloc 1 tz68 rfl) rfl ?_
  rintro _ _ ⟨b2, rfl, rfl⟩
  obtain ⟨x3, e3, H0⟩ := bind_some H0
  refine nn (sr (oD (fA 0 Tryz.underlying68 rfl ts47 rfl rfl rfl) rfl (oD (stp_loadN (us := [_, _, _, _, _, _, _, _, _]) ts47 rfl (Cells.box (id := 0) rfl 9 rfl)) rfl (oE (stpU_call (fun i => 2 + i) cf63 (fun w hw => c_i_Machine_clone fl w a0.m p0_0 ((a0.m.t.b).length) c0_0 p0_1 ((a0.m.t.f).length) c0_1 p0_2 ((a0.m.c.l).length) c0_2 p0_3 ((a0.m.g.o).length) c0_3 rfl (RO.pass hr0_0 hw) rfl (RO.pass hr0_1 hw) rfl (RO.pass hr0_2 hw) rfl (RO.pass hr0_3 hw) x3 e3) (sevs_cons rfl sevs_nil)) rfl ?_))))
  rintro _ _ ⟨_, ⟨p4, n5, c6, C7, p8, n9, c10, C11, p12, n13, c14, C15, p16, n17, c18, C19, rfl, rfl, hnn5, o7, hnn9, o11, hnn13, o15, hnn17, o19⟩, rfl⟩
  obtain rfl := hnn5
  obtain rfl := hnn9
  obtain rfl := hnn13
  obtain rfl := hnn17
  refine oD (fA 0 Tryz.underlying68 rfl ts47 rfl rfl rfl) rfl (oF (stpU_store (id := 0) (cs' := [.slice p4 ((x3.t.b).length) c6, .slice p8 ((x3.t.f).length) c10, .slice p12 ((x3.c.l).length) c14, .int .i64 x3.c.h, .int .i64 x3.g.c, .int .i64 x3.g.n, .int .i64 x3.g.r, .slice p16 ((x3.g.o).length) c18, .int .i64 x3.s, .slice p0_4 ((a0.k).length) c0_4, .int .i64 a0.h]) ts47 rfl rfl rfl rfl rfl rfl rfl) ?_)
  rintro _ _ rfl
  obtain ⟨x20, e20, H0⟩ := bind_some H0
  refine nn (sr (oD (fA 9 Tryz.underlying68 rfl ts66 rfl rfl rfl) rfl (oD (lB 0 ts66 rfl rfl rfl) rfl (oE (stpU_call (fun i => 6 + i) cf182 (fun w hw => c_slices_Clone_Bool fl w a0.k p0_4 ((a0.k).length) c0_4 rfl (RO.pass hr0_4 hw) x20 e20) (sevs_cons rfl sevs_nil)) rfl ?_))))
  rintro _ _ ⟨_, ⟨p21, n22, c23, C24, rfl, rfl, hnn22, o24⟩, rfl⟩
  obtain rfl := hnn22
  refine oE (stpU_call (fun i => i) cf181 (fun w hw => c_clip181 w p21 ((x20).length) c23 (OwnC.len o24).1) (sevs_cons rfl sevs_nil)) rfl ?_
  rintro _ _ ⟨_, ⟨rfl, rfl⟩, rfl⟩
  refine oD (fA 9 Tryz.underlying68 rfl ts66 rfl rfl rfl) rfl (oF (stpU_store (id := 0) (cs' := [.slice p4 ((x3.t.b).length) c6, .slice p8 ((x3.t.f).length) c10, .slice p12 ((x3.c.l).length) c14, .int .i64 x3.c.h, .int .i64 x3.g.c, .int .i64 x3.g.n, .int .i64 x3.g.r, .slice p16 ((x3.g.o).length) c18, .int .i64 x3.s, .slice p21 ((x20).length) ((x20).length), .int .i64 a0.h]) ts66 rfl rfl rfl rfl rfl rfl rfl) ?_)
  rintro _ _ rfl
  refine nn (sr (oD (stp_loadN (us := [_, _, _, _, _, _, _, _, _, _, _]) ts68 rfl (Cells.box (id := 0) rfl 11 rfl)) rfl (oF (stpU_store (id := 1) (cs' := [.slice p4 ((x3.t.b).length) c6, .slice p8 ((x3.t.f).length) c10, .slice p12 ((x3.c.l).length) c14, .int .i64 x3.c.h, .int .i64 x3.g.c, .int .i64 x3.g.n, .int .i64 x3.g.r, .slice p16 ((x3.g.o).length) c18, .int .i64 x3.s, .slice p21 ((x20).length) ((x20).length), .int .i64 a0.h]) ts68 rfl rfl rfl rfl rfl rfl rfl) ?_)))
  rintro _ _ rfl
  refine nn (cw_ret ?_)
  have q0 := Option.some.inj H0
  subst q0
  exact kw_ret Tryz.results104 (.cons (.cellN (us := [_, _, _, _, _, _, _, _, _, _, _]) ts68 rfl (Cells.box (id := 1) rfl 11 rfl)) .nil) [(0, C7), (1, C11), (2, C15), (3, C19), (4, C24)] [2, 3, 4, 5, 6] ⟨2, [3, 4, 5, 6], rfl, rfl, 3, [4, 5, 6], rfl, rfl, 4, [5, 6], rfl, rfl, 5, [6], rfl, rfl, 6, [], rfl, rfl, trivial⟩ (by decide) ⟨p4, ((x3.t.b).length), c6, C7, p8, ((x3.t.f).length), c10, C11, p12, ((x3.c.l).length), c14, C15, p16, ((x3.g.o).length), c18, C19, p21, ((x20).length), ((x20).length), C24, rfl, rfl, rfl, o7, rfl, o11, rfl, o15, rfl, o19, rfl, (OwnC.clip o24)⟩
end Go.Proofs.YtbgodaeccgjdgaaGreatDoor
