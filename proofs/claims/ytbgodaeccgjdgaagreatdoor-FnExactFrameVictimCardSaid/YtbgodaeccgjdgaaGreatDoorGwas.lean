/- The walks: functions of the program return what their pure functions say. Printed by a program (gen.py). -/
import Derived.Test.YtbgodaeccgjdgaaGreatDoorGp
import Derived.Test.YtbgodaeccgjdgaaGreatDoorGt
import Derived.Test.YtbgodaeccgjdgaaGreatDoorMan
import Derived.Test.YtbgodaeccgjdgaaGreatDoorMap
import Derived.Test.YtbgodaeccgjdgaaGreatDoorGwap
import Derived.Test.YtbgodaeccgjdgaaGreatDoorGwaq
set_option linter.unusedSimpArgs false
set_option linter.unusedVariables false
set_option linter.unusedSectionVars false
namespace Go.Proofs.YtbgodaeccgjdgaaGreatDoor
open Go.RowKit
set_option maxHeartbeats 4000000 in
set_option maxRecDepth 20000 in
theorem c_s_l7Wired (fl : Nat) (w : World) (a0 : Mc) (p0_0 : Option Addr) (n0_0 c0_0 : Nat) (p0_1 : Option Addr) (n0_1 c0_1 : Nat) (p0_2 : Option Addr) (n0_2 c0_2 : Nat) (p0_3 : Option Addr) (n0_3 c0_3 : Nat) (a1 : Int) (hn0_0 : n0_0 = (a0.t.b).length) (hr0_0 : RO w (hkeys []) (RdL p0_0 c0_0 a0.t.b)) (hn0_1 : n0_1 = (a0.t.f).length) (hr0_1 : RO w (hkeys []) (RdL p0_1 c0_1 a0.t.f)) (hn0_2 : n0_2 = (a0.c.l).length) (hr0_2 : RO w (hkeys []) (RdL p0_2 c0_2 a0.c.l)) (hn0_3 : n0_3 = (a0.g.o).length) (hr0_3 : RO w (hkeys []) (RdL p0_3 c0_3 a0.g.o)) (r : Bool) (H0 : s_l7Wired fl a0 a1 = some r) :
    Ct Tryz.prog 187 [.agg #[.slice p0_0 n0_0 c0_0, .slice p0_1 n0_1 c0_1, .slice p0_2 n0_2 c0_2, .int .i64 a0.c.h, .int .i64 a0.g.c, .int .i64 a0.g.n, .int .i64 a0.g.r, .slice p0_3 n0_3 c0_3, .int .i64 a0.s], .int .i64 a1] w [] (fun rv h' => rv = .bool r ∧ h' = []) := by
  obtain rfl := hn0_0
  obtain rfl := hn0_1
  obtain rfl := hn0_2
  obtain rfl := hn0_3
  unfold s_l7Wired at H0
  refine ct_of_cw Tryz.func187 rfl Tryz.ntmps187 rfl (Sat.refl _ _) ?_
  refine sr (oE (stpU_box 0 rfl rfl) rfl ?_)
  rintro _ _ ⟨b1, rfl, rfl⟩
  obtain ⟨o0_0, eo0_0, H0⟩ := bind_some H0
  refine oD (sg rfl) rfl (nn (cw_seq (sr (oD (sg rfl) rfl (nn (cw_join (ι := Int) (fun | v2 => o0_0 = .out v2) (fun | v2 => [(1, .int .i64 a1), (2, .pointer (some ⟨b1, 0, none⟩)), (5, .int .i64 v2)]) (fun | v2 => [(0, [(b1, .cells #[.slice p0_0 ((a0.t.b).length) c0_0, .slice p0_1 ((a0.t.f).length) c0_1, .slice p0_2 ((a0.c.l).length) c0_2, .int .i64 a0.c.h, .int .i64 a0.g.c, .int .i64 a0.g.n, .int .i64 a0.g.r, .slice p0_3 ((a0.g.o).length) c0_3, .int .i64 a0.s] 47 (0, 0))])]) ?_ ?_))))))
  · refine cw_block (cw_loopS (ι := Nat × Int) (js := [0]) (fun x => x.1) (fun | (fuel, v2) => s_l7Wired_L0 fl a0 a1 fuel v2 = some o0_0) (fun | (_, v2) => [(1, .int .i64 a1), (2, .pointer (some ⟨b1, 0, none⟩)), (5, .int .i64 v2)]) (fun | (_, v2) => [(0, [(b1, .cells #[.slice p0_0 ((a0.t.b).length) c0_0, .slice p0_1 ((a0.t.f).length) c0_1, .slice p0_2 ((a0.c.l).length) c0_2, .int .i64 a0.c.h, .int .i64 a0.g.c, .int .i64 a0.g.n, .int .i64 a0.g.r, .slice p0_3 ((a0.g.o).length) c0_3, .int .i64 a0.s] 47 (0, 0))])]) (fl, 0) eo0_0 ⟨rfl, rfl, rfl, trivial⟩ ⟨0, [], rfl, rfl, trivial⟩ (by decide) ?_)
    rintro ⟨fuel, v2⟩ H1
    have H1 : s_l7Wired_L0 fl a0 a1 fuel v2 = some o0_0 := H1
    rcases fuel with _ | fuel
    · rw [s_l7Wired_L0.eq_1] at H1; cases H1
    rw [s_l7Wired_L0.eq_2] at H1
    refine CW.sub (s' := [(1, .int .i64 a1), (2, .pointer (some ⟨b1, 0, none⟩)), (5, .int .i64 v2)]) (h' := [(0, [(b1, .cells #[.slice p0_0 ((a0.t.b).length) c0_0, .slice p0_1 ((a0.t.f).length) c0_1, .slice p0_2 ((a0.c.l).length) c0_2, .int .i64 a0.c.h, .int .i64 a0.g.c, .int .i64 a0.g.n, .int .i64 a0.g.r, .slice p0_3 ((a0.g.o).length) c0_3, .int .i64 a0.s] 47 (0, 0))])]) ?_ ⟨rfl, rfl, rfl, trivial⟩ ⟨rfl, trivial⟩
    refine cw_seq (sr (oD (mv rfl) rfl (oD (fA 2 Tryz.underlying47 rfl ts42 rfl rfl rfl) rfl (oD (fA 0 Tryz.underlying42 rfl ts40 rfl rfl rfl) rfl (oD (lB 0 ts40 rfl rfl rfl) rfl (oD (stp_len Tryz.underlying40 rfl) rfl (oD (stp_lss rfl rfl) rfl (nn (cw_cond rfl (fun h3 => ?_) (fun h3 => ?_))))))))))
    · have H1 := cond_t H1 h3
      obtain ⟨x4, e4, H1⟩ := bind_some H1
      refine cw_skip (kw_nx (cw_seq (cw_block (sr (oD (fA 2 Tryz.underlying47 rfl ts42 rfl rfl rfl) rfl (oD (fA 0 Tryz.underlying42 rfl ts40 rfl rfl rfl) rfl (oD (lB 0 ts40 rfl rfl rfl) rfl (oD (mv rfl) rfl (oD (stp_indexAddr Tryz.underlying40 ts112 (by decide) rfl rfl rfl (Rdb.ro hr0_2) e4) rfl (oD (stp_loadN (us := [_, _, _, _, _, _]) ts112 rfl (Cells.el (Rdb.ro hr0_2) (by decide) e4 0 6 rfl)) rfl (oE (stpU_alloc 1 tz112 rfl) rfl ?_)))))))))))
      rintro _ _ ⟨b5, rfl, rfl⟩
      refine oF (stpU_store (id := 1) (cs' := [.bool x4.va, .int .i64 x4.tg, .int .i64 x4.pg, .int .i64 x4.fr, .int .i64 x4.ri, .bool x4.wi]) ts112 rfl rfl rfl rfl rfl rfl rfl) ?_
      rintro _ _ rfl
      obtain ⟨y6, ey6, H1⟩ := bind_some H1
      refine nn (sr (oD (fA 0 Tryz.underlying112 rfl ts4 rfl rfl rfl) rfl (oD (lB 1 ts4 rfl rfl rfl) rfl (oD (mv rfl) rfl (ow_cutY 3 26 y6 ?_ ?_)))))
      · rcases Bool.eq_false_or_eq_true x4.va with hy6 | hy6
        · have ey6 := cond_t ey6 hy6
          refine oG rfl hy6 (fA 5 Tryz.underlying112 rfl ts4 rfl rfl rfl) rfl (oG rfl hy6 (lB 1 ts4 rfl rfl rfl) rfl (oD (stp_pick_t rfl hy6 rfl) rfl ?_))
          obtain rfl := Option.some.inj ey6
          exact ow_nil (jy 3 0)
        · have ey6 := cond_f ey6 hy6
          refine oO rfl hy6 rfl (oO rfl hy6 rfl (oD (stp_pick_f rfl hy6 rfl) rfl ?_))
          obtain rfl := Option.some.inj ey6
          exact ow_nil (jy 3 0)
      · obtain ⟨y7, ey7, H1⟩ := bind_some H1
        refine oD (mv rfl) rfl (ow_cutY 5 32 y7 ?_ ?_)
        · rcases Bool.eq_false_or_eq_true y6 with hy7 | hy7
          · have ey7 := cond_t ey7 hy7
            refine oG rfl hy7 (fA 3 Tryz.underlying112 rfl ts3 rfl rfl rfl) rfl (oG rfl hy7 (lB 1 ts3 rfl rfl rfl) rfl (oG rfl hy7 (mv rfl) rfl (oG rfl hy7 (stp_eql rfl rfl) rfl (oD (stp_pick_t rfl hy7 rfl) rfl ?_))))
            obtain rfl := Option.some.inj ey7
            exact ow_nil (jy 5 0)
          · have ey7 := cond_f ey7 hy7
            refine oO rfl hy7 rfl (oO rfl hy7 rfl (oO rfl hy7 rfl (oO rfl hy7 rfl (oD (stp_pick_f rfl hy7 rfl) rfl ?_))))
            obtain rfl := Option.some.inj ey7
            exact ow_nil (jy 5 0)
        · refine ow_nil (kw_nx (cw_cond rfl (fun h8 => ?_) (fun h8 => ?_)))
          · have H1 := cond_t H1 h8
            refine sr (oD (sg rfl) rfl (nn (cw_ret (kw_bl_ret (kw_nx_ret (kw_lq_ret (kw_bl_ret (kw_join_ret (kw_nx_ret ?_)))))))))
            have q1 := Option.some.inj H1
            subst q1
            have q0 := Option.some.inj H0
            subst q0
            exact kw_ret Tryz.results187 (.cons (.tmp rfl) .nil) [] [] trivial (by decide) ⟨rfl, rfl⟩
          · have H1 := cond_f H1 h8
            obtain ⟨x9, e9, H1⟩ := bind_some H1
            exact cw_skip (kw_bl_normal (kw_nx (cw_region (oD (mv rfl) rfl (oD (stp_add rfl rfl e9) rfl (oD (sg rfl) rfl (ow_nil (kw_lqS (js := [0]) (fuel, x9) H1 (Nat.lt_succ_self _) ⟨rfl, rfl, rfl, trivial⟩ ⟨0, [], rfl, rfl, trivial⟩ (by decide)))))))))
    · have H1 := cond_f H1 h3
      refine cw_exit (kw_nx_exit (kw_lq_exit (kw_bl ?_)))
      have q1 := Option.some.inj H1
      subst q1
      exact kw_joinS (js := [0]) v2 rfl ⟨rfl, rfl, rfl, trivial⟩ ⟨0, [], rfl, rfl, trivial⟩ (by decide)
  · rintro v2 rfl
    refine KW.sub (s' := [(1, .int .i64 a1), (2, .pointer (some ⟨b1, 0, none⟩)), (5, .int .i64 v2)]) (h' := [(0, [(b1, .cells #[.slice p0_0 ((a0.t.b).length) c0_0, .slice p0_1 ((a0.t.f).length) c0_1, .slice p0_2 ((a0.c.l).length) c0_2, .int .i64 a0.c.h, .int .i64 a0.g.c, .int .i64 a0.g.n, .int .i64 a0.g.r, .slice p0_3 ((a0.g.o).length) c0_3, .int .i64 a0.s] 47 (0, 0))])]) ?_ ⟨rfl, rfl, rfl, trivial⟩ ⟨rfl, trivial⟩
    refine kw_nx (sr (oD (sg rfl) rfl (nn (cw_ret ?_))))
    have q0 := Option.some.inj H0
    subst q0
    exact kw_ret Tryz.results187 (.cons (.tmp rfl) .nil) [] [] trivial (by decide) ⟨rfl, rfl⟩

set_option maxHeartbeats 4000000 in
set_option maxRecDepth 20000 in
theorem c_s_l7Clock (fl : Nat) (w : World) (a0 : Mm) (p0_0 : Option Addr) (n0_0 c0_0 : Nat) (p0_1 : Option Addr) (n0_1 c0_1 : Nat) (p0_2 : Option Addr) (n0_2 c0_2 : Nat) (p0_3 : Option Addr) (n0_3 c0_3 : Nat) (p0_4 : Option Addr) (n0_4 c0_4 : Nat) (hn0_0 : n0_0 = (a0.m.t.b).length) (hr0_0 : RO w (hkeys []) (RdL p0_0 c0_0 a0.m.t.b)) (hn0_1 : n0_1 = (a0.m.t.f).length) (hr0_1 : RO w (hkeys []) (RdL p0_1 c0_1 a0.m.t.f)) (hn0_2 : n0_2 = (a0.m.c.l).length) (hr0_2 : RO w (hkeys []) (RdL p0_2 c0_2 a0.m.c.l)) (hn0_3 : n0_3 = (a0.m.g.o).length) (hr0_3 : RO w (hkeys []) (RdL p0_3 c0_3 a0.m.g.o)) (hn0_4 : n0_4 = (a0.k).length) (hr0_4 : RO w (hkeys []) (RdL p0_4 c0_4 a0.k)) (r : Mm × Int) (H0 : s_l7Clock fl a0 = some r) :
    Ct Tryz.prog 117 [.agg #[.slice p0_0 n0_0 c0_0, .slice p0_1 n0_1 c0_1, .slice p0_2 n0_2 c0_2, .int .i64 a0.m.c.h, .int .i64 a0.m.g.c, .int .i64 a0.m.g.n, .int .i64 a0.m.g.r, .slice p0_3 n0_3 c0_3, .int .i64 a0.m.s, .slice p0_4 n0_4 c0_4, .int .i64 a0.h]] w [] (fun rv h' => ∃ (x0 : Option Addr) (y0 z0 : Nat) (C0 : Res) (x1 : Option Addr) (y1 z1 : Nat) (C1 : Res) (x2 : Option Addr) (y2 z2 : Nat) (C2 : Res) (x3 : Option Addr) (y3 z3 : Nat) (C3 : Res) (x4 : Option Addr) (y4 z4 : Nat) (C4 : Res), rv = .tuple #[.agg #[.slice x0 y0 z0, .slice x1 y1 z1, .slice x2 y2 z2, .int .i64 r.1.m.c.h, .int .i64 r.1.m.g.c, .int .i64 r.1.m.g.n, .int .i64 r.1.m.g.r, .slice x3 y3 z3, .int .i64 r.1.m.s, .slice x4 y4 z4, .int .i64 r.1.h], .int .i64 r.2] ∧ h' = [(0, C0), (1, C1), (2, C2), (3, C3), (4, C4)] ∧ y0 = (r.1.m.t.b).length ∧ OwnC 3 x0 z0 r.1.m.t.b C0 ∧ y1 = (r.1.m.t.f).length ∧ OwnC 127 x1 z1 r.1.m.t.f C1 ∧ y2 = (r.1.m.c.l).length ∧ OwnC 112 x2 z2 r.1.m.c.l C2 ∧ y3 = (r.1.m.g.o).length ∧ OwnC 148 x3 z3 r.1.m.g.o C3 ∧ y4 = (r.1.k).length ∧ OwnC 4 x4 z4 r.1.k C4) := by
  obtain rfl := hn0_0
  obtain rfl := hn0_1
  obtain rfl := hn0_2
  obtain rfl := hn0_3
  obtain rfl := hn0_4
  unfold s_l7Clock at H0
  refine ct_of_cw Tryz.func117 rfl Tryz.ntmps117 rfl (Sat.refl _ _) ?_
  refine sr (oE (stpU_box 0 rfl rfl) rfl ?_)
  rintro _ _ ⟨b1, rfl, rfl⟩
  refine oE (stpU_alloc 1 tz68 rfl) rfl ?_
  rintro _ _ ⟨b2, rfl, rfl⟩
  obtain ⟨x3, e3, H0⟩ := bind_some H0
  refine oD (sg rfl) rfl (nn (sr (oD (stp_loadN (us := [_, _, _, _, _, _, _, _, _, _, _]) ts68 rfl (Cells.box (id := 0) rfl 11 rfl)) rfl (oE (stpU_call (fun i => 2 + i) cf107 (fun w hw => c_s_l7Copy fl w a0 p0_0 ((a0.m.t.b).length) c0_0 p0_1 ((a0.m.t.f).length) c0_1 p0_2 ((a0.m.c.l).length) c0_2 p0_3 ((a0.m.g.o).length) c0_3 p0_4 ((a0.k).length) c0_4 rfl (RO.pass hr0_0 hw) rfl (RO.pass hr0_1 hw) rfl (RO.pass hr0_2 hw) rfl (RO.pass hr0_3 hw) rfl (RO.pass hr0_4 hw) x3 e3) (sevs_cons rfl sevs_nil)) rfl ?_))))
  rintro _ _ ⟨_, ⟨p4, n5, c6, C7, p8, n9, c10, C11, p12, n13, c14, C15, p16, n17, c18, C19, p20, n21, c22, C23, rfl, rfl, hnn5, o7, hnn9, o11, hnn13, o15, hnn17, o19, hnn21, o23⟩, rfl⟩
  obtain rfl := hnn5
  obtain rfl := hnn9
  obtain rfl := hnn13
  obtain rfl := hnn17
  obtain rfl := hnn21
  refine oE (stpU_alloc 7 tz68 rfl) rfl ?_
  rintro _ _ ⟨b24, rfl, rfl⟩
  refine oF (stpU_store (id := 7) (cs' := [.slice p4 ((x3.m.t.b).length) c6, .slice p8 ((x3.m.t.f).length) c10, .slice p12 ((x3.m.c.l).length) c14, .int .i64 x3.m.c.h, .int .i64 x3.m.g.c, .int .i64 x3.m.g.n, .int .i64 x3.m.g.r, .slice p16 ((x3.m.g.o).length) c18, .int .i64 x3.m.s, .slice p20 ((x3.k).length) c22, .int .i64 x3.h]) ts68 rfl rfl rfl rfl rfl rfl rfl) ?_
  rintro _ _ rfl
  obtain ⟨o0_0, eo0_0, H0⟩ := bind_some H0
  refine nn (sr (oD (fA 9 Tryz.underlying68 rfl ts66 rfl rfl rfl) rfl (oD (lB 7 ts66 rfl rfl rfl) rfl (oD (stp_len Tryz.underlying66 rfl) rfl (oD (sg rfl) rfl (nn (cw_seq (sr (oD (sg rfl) rfl (nn (cw_join (ι := Int × (List Bool) × Int × Res) (fun | (v25, v26, v28, C27) => o0_0 = .out (v25, v26, v28) ∧ (x3.k).length = (v26).length ∧ OwnC (α := Bool) 4 p20 c22 v26 C27) (fun | (v25, v26, v28, C27) => [(2, .pointer (some ⟨b2, 0, none⟩)), (4, .pointer (some ⟨b24, 0, none⟩)), (5, .int .i64 ((x3.k).length : Int)), (6, .int .i64 v28)]) (fun | (v25, v26, v28, C27) => [(1, [(b2, .cells #[.slice none 0 0, .slice none 0 0, .slice none 0 0, .int .i64 0, .int .i64 0, .int .i64 0, .int .i64 0, .slice none 0 0, .int .i64 0, .slice none 0 0, .int .i64 0] 68 (0, 0))]), (2, C7), (3, C11), (4, C15), (5, C19), (6, C27), (7, [(b24, .cells #[.slice p4 ((x3.m.t.b).length) c6, .slice p8 ((x3.m.t.f).length) c10, .slice p12 ((x3.m.c.l).length) c14, .int .i64 x3.m.c.h, .int .i64 x3.m.g.c, .int .i64 x3.m.g.n, .int .i64 x3.m.g.r, .slice p16 ((x3.m.g.o).length) c18, .int .i64 x3.m.s, .slice p20 ((x3.k).length) c22, .int .i64 v25] 68 (0, 0))])]) ?_ ?_)))))))))))
  · refine cw_block (cw_loopS (ι := Nat × Int × (List Bool) × Int × Res) (js := [1, 2, 3, 4, 5, 6, 7]) (fun x => x.1) (fun | (fuel, v25, v26, v28, C27) => s_l7Clock_L0 fl x3 fuel v25 v26 v28 = some o0_0 ∧ (x3.k).length = (v26).length ∧ OwnC (α := Bool) 4 p20 c22 v26 C27) (fun | (_, v25, v26, v28, C27) => [(2, .pointer (some ⟨b2, 0, none⟩)), (4, .pointer (some ⟨b24, 0, none⟩)), (5, .int .i64 ((x3.k).length : Int)), (6, .int .i64 v28)]) (fun | (_, v25, v26, v28, C27) => [(1, [(b2, .cells #[.slice none 0 0, .slice none 0 0, .slice none 0 0, .int .i64 0, .int .i64 0, .int .i64 0, .int .i64 0, .slice none 0 0, .int .i64 0, .slice none 0 0, .int .i64 0] 68 (0, 0))]), (2, C7), (3, C11), (4, C15), (5, C19), (6, C27), (7, [(b24, .cells #[.slice p4 ((x3.m.t.b).length) c6, .slice p8 ((x3.m.t.f).length) c10, .slice p12 ((x3.m.c.l).length) c14, .int .i64 x3.m.c.h, .int .i64 x3.m.g.c, .int .i64 x3.m.g.n, .int .i64 x3.m.g.r, .slice p16 ((x3.m.g.o).length) c18, .int .i64 x3.m.s, .slice p20 ((x3.k).length) c22, .int .i64 v25] 68 (0, 0))])]) (fl, x3.h, x3.k, 0, C23) ⟨eo0_0, rfl, o23⟩ ⟨rfl, rfl, rfl, rfl, trivial⟩ ⟨1, [2, 3, 4, 5, 6, 7], rfl, rfl, 2, [3, 4, 5, 6, 7], rfl, rfl, 3, [4, 5, 6, 7], rfl, rfl, 4, [5, 6, 7], rfl, rfl, 5, [6, 7], rfl, rfl, 6, [7], rfl, rfl, 7, [], rfl, rfl, trivial⟩ (by decide) ?_)
    rintro ⟨fuel, v25, v26, v28, C27⟩ ⟨H1, hl27, o27⟩
    have H1 : s_l7Clock_L0 fl x3 fuel v25 v26 v28 = some o0_0 := H1
    rcases fuel with _ | fuel
    · rw [s_l7Clock_L0.eq_1] at H1; cases H1
    rw [s_l7Clock_L0.eq_2] at H1
    refine CW.sub (s' := [(2, .pointer (some ⟨b2, 0, none⟩)), (4, .pointer (some ⟨b24, 0, none⟩)), (5, .int .i64 ((x3.k).length : Int)), (6, .int .i64 v28)]) (h' := [(1, [(b2, .cells #[.slice none 0 0, .slice none 0 0, .slice none 0 0, .int .i64 0, .int .i64 0, .int .i64 0, .int .i64 0, .slice none 0 0, .int .i64 0, .slice none 0 0, .int .i64 0] 68 (0, 0))]), (2, C7), (3, C11), (4, C15), (5, C19), (6, C27), (7, [(b24, .cells #[.slice p4 ((x3.m.t.b).length) c6, .slice p8 ((x3.m.t.f).length) c10, .slice p12 ((x3.m.c.l).length) c14, .int .i64 x3.m.c.h, .int .i64 x3.m.g.c, .int .i64 x3.m.g.n, .int .i64 x3.m.g.r, .slice p16 ((x3.m.g.o).length) c18, .int .i64 x3.m.s, .slice p20 ((x3.k).length) c22, .int .i64 v25] 68 (0, 0))])]) ?_ ⟨rfl, rfl, rfl, rfl, trivial⟩ ⟨rfl, rfl, rfl, rfl, rfl, rfl, rfl, trivial⟩
    obtain ⟨x29, e29, H1⟩ := bind_some H1
    refine cw_seq (sr (oD (mv rfl) rfl (oD (mv rfl) rfl (oD (stp_mul rfl rfl e29) rfl (oD (stp_lss rfl rfl) rfl (nn (cw_cond rfl (fun h30 => ?_) (fun h30 => ?_))))))))
    · have H1 := cond_t H1 h30
      obtain ⟨x31, e31, H1⟩ := bind_some H1
      obtain ⟨x32, e32, H1⟩ := bind_some H1
      refine cw_skip (kw_nx (cw_seq (cw_block (sr (oD (fA 10 Tryz.underlying68 rfl ts3 rfl rfl rfl) rfl (oD (lB 7 ts3 rfl rfl rfl) rfl (oD (sg rfl) rfl (nn (sr (oD (mv rfl) rfl (oD (stp_add rfl rfl e31) rfl (oD (mv rfl) rfl (oD (stp_rem rfl rfl e32) rfl ?_)))))))))))))
      refine oD (fA 10 Tryz.underlying68 rfl ts3 rfl rfl rfl) rfl (oF (stpU_store (id := 7) (cs' := [.slice p4 ((x3.m.t.b).length) c6, .slice p8 ((x3.m.t.f).length) c10, .slice p12 ((x3.m.c.l).length) c14, .int .i64 x3.m.c.h, .int .i64 x3.m.g.c, .int .i64 x3.m.g.n, .int .i64 x3.m.g.r, .slice p16 ((x3.m.g.o).length) c18, .int .i64 x3.m.s, .slice p20 ((x3.k).length) c22, .int .i64 x32]) ts3 rfl rfl rfl rfl rfl rfl rfl) ?_)
      rintro _ _ rfl
      obtain ⟨x33, e33, H1⟩ := bind_some H1
      obtain ⟨y34, ey34, H1⟩ := bind_some H1
      refine nn (cw_seq (sr (oD (fA 0 Tryz.underlying68 rfl ts47 rfl rfl rfl) rfl (oD (fA 0 Tryz.underlying47 rfl ts39 rfl rfl rfl) rfl (oD (fA 1 Tryz.underlying39 rfl ts37 rfl rfl rfl) rfl (oD (lB 7 ts37 rfl rfl rfl) rfl (oD (mv rfl) rfl (oD (stp_indexAddr Tryz.underlying37 ts127 (by decide) rfl rfl rfl (Rdb.own (id := 3) rfl o11) e33) rfl (oD (fA 0 Tryz.underlying127 rfl ts4 rfl rfl rfl) rfl (oD (stp_load1 ts4 rfl (Cells.el (Rdb.own (id := 3) rfl o11) (by decide) e33 0 1 rfl)) rfl (oD (stp_not rfl) rfl (oD (mv rfl) rfl (ow_cutY 5 40 y34 ?_ ?_)))))))))))))
      · rcases Bool.eq_false_or_eq_true (!x33.u) with hy34 | hy34
        · have ey34 := cond_t ey34 hy34
          refine oO rfl hy34 rfl (oO rfl hy34 rfl (oO rfl hy34 rfl (oO rfl hy34 rfl (oD (stp_pick_t rfl hy34 rfl) rfl ?_))))
          obtain rfl := Option.some.inj ey34
          exact ow_nil (jy 5 0)
        · have ey34 := cond_f ey34 hy34
          obtain ⟨x35, e35, ey34⟩ := bind_some ey34
          refine oG rfl hy34 (fA 0 Tryz.underlying68 rfl ts47 rfl rfl rfl) rfl (oG rfl hy34 (stp_loadN (us := [_, _, _, _, _, _, _, _, _]) ts47 rfl (Cells.box (id := 7) rfl 9 rfl)) rfl (oG rfl hy34 (mv rfl) rfl (ow_eff (.some rfl hy34) (stpU_call (fun i => 8 + i) cf187 (fun w hw => c_s_l7Wired fl w x3.m p4 ((x3.m.t.b).length) c6 p8 ((x3.m.t.f).length) c10 p12 ((x3.m.c.l).length) c14 p16 ((x3.m.g.o).length) c18 v25 rfl (OwnC.pass (id := 2) rfl o7 hw) rfl (OwnC.pass (id := 3) rfl o11 hw) rfl (OwnC.pass (id := 4) rfl o15 hw) rfl (OwnC.pass (id := 5) rfl o19 hw) x35 e35) (sevs_cons rfl (sevs_cons rfl sevs_nil))) rfl ?_)))
          rintro _ _ ⟨_, ⟨rfl, rfl⟩, rfl⟩
          refine oD (stp_pick_f rfl hy34 rfl) rfl ?_
          obtain rfl := Option.some.inj ey34
          exact ow_nil (jy 5 0)
      · refine ow_nil (kw_nx (cw_cond rfl (fun h36 => ?_) (fun h36 => ?_)))
        · have H1 := cond_t H1 h36
          obtain ⟨x37, e37, H1⟩ := bind_some H1
          exact cw_exit (kw_nx_exit (kw_bl (kw_nx (cw_region (oD (mv rfl) rfl (oD (stp_add rfl rfl e37) rfl (oD (sg rfl) rfl (ow_nil (kw_lqS (js := [1, 2, 3, 4, 5, 6, 7]) (fuel, x32, v26, x37, C27) ⟨H1, (by simp [hl27]), o27⟩ (Nat.lt_succ_self _) ⟨rfl, rfl, rfl, rfl, trivial⟩ ⟨1, [2, 3, 4, 5, 6, 7], rfl, rfl, 2, [3, 4, 5, 6, 7], rfl, rfl, 3, [4, 5, 6, 7], rfl, rfl, 4, [5, 6, 7], rfl, rfl, 5, [6, 7], rfl, rfl, 6, [7], rfl, rfl, 7, [], rfl, rfl, trivial⟩ (by decide))))))))))
        · have H1 := cond_f H1 h36
          obtain ⟨x38, e38, H1⟩ := bind_some H1
          refine cw_skip (kw_nx (cw_seq (sr (oD (fA 9 Tryz.underlying68 rfl ts66 rfl rfl rfl) rfl (oD (lB 7 ts66 rfl rfl rfl) rfl (oD (mv rfl) rfl (oD (stp_indexAddr Tryz.underlying66 ts4 (by decide) rfl (by simp [hl27]) rfl (Rdb.own (id := 6) rfl o27) e38) rfl (oD (stp_load1 ts4 rfl (Cells.el (Rdb.own (id := 6) rfl o27) (by decide) e38 0 1 rfl)) rfl (oD (stp_not rfl) rfl (nn (cw_cond rfl (fun h39 => ?_) (fun h39 => ?_))))))))))))
          · have H1 := cond_t H1 h39
            refine sr (oD (stp_loadN (us := [_, _, _, _, _, _, _, _, _, _, _]) ts68 rfl (Cells.box (id := 7) rfl 11 rfl)) rfl (oD (mv rfl) rfl (oF (stpU_store (id := 1) (cs' := [.slice p4 ((x3.m.t.b).length) c6, .slice p8 ((x3.m.t.f).length) c10, .slice p12 ((x3.m.c.l).length) c14, .int .i64 x3.m.c.h, .int .i64 x3.m.g.c, .int .i64 x3.m.g.n, .int .i64 x3.m.g.r, .slice p16 ((x3.m.g.o).length) c18, .int .i64 x3.m.s, .slice p20 ((x3.k).length) c22, .int .i64 x32]) ts68 rfl rfl rfl rfl rfl rfl rfl) ?_)))
            rintro _ _ rfl
            refine oD (sg rfl) rfl (nn (cw_ret (kw_nx_ret (kw_bl_ret (kw_nx_ret (kw_lq_ret (kw_bl_ret (kw_join_ret (kw_nx_ret ?_)))))))))
            have q1 := Option.some.inj H1
            subst q1
            have q0 := Option.some.inj H0
            subst q0
            exact kw_ret Tryz.results117 (.cons (.cellN (us := [_, _, _, _, _, _, _, _, _, _, _]) ts68 rfl (Cells.box (id := 1) rfl 11 rfl)) (.cons (.tmp rfl) .nil)) [(0, C7), (1, C11), (2, C15), (3, C19), (4, C27)] [2, 3, 4, 5, 6] ⟨2, [3, 4, 5, 6], rfl, rfl, 3, [4, 5, 6], rfl, rfl, 4, [5, 6], rfl, rfl, 5, [6], rfl, rfl, 6, [], rfl, rfl, trivial⟩ (by decide) ⟨p4, ((x3.m.t.b).length), c6, C7, p8, ((x3.m.t.f).length), c10, C11, p12, ((x3.m.c.l).length), c14, C15, p16, ((x3.m.g.o).length), c18, C19, p20, ((x3.k).length), c22, C27, rfl, rfl, rfl, o7, rfl, o11, rfl, o15, rfl, o19, (by simp [hl27]), o27⟩
          · have H1 := cond_f H1 h39
            refine cw_skip (kw_nx (cw_region (oD (fA 9 Tryz.underlying68 rfl ts66 rfl rfl rfl) rfl (oD (lB 7 ts66 rfl rfl rfl) rfl (oD (mv rfl) rfl (oD (stp_indexAddr Tryz.underlying66 ts4 (by decide) rfl (by simp [hl27]) rfl (Rdb.own (id := 6) rfl o27) e38) rfl (oF (stpU_storeEl (id := 6) (i := 0) false (by decide) ts4 rfl rfl rfl o27 e38 rfl rfl rfl rfl) ?_)))))))
            rintro _ _ ⟨C40, rfl, o40⟩
            obtain ⟨x41, e41, H1⟩ := bind_some H1
            exact ow_nil (kw_bl_normal (kw_nx (cw_region (oD (mv rfl) rfl (oD (stp_add rfl rfl e41) rfl (oD (sg rfl) rfl (ow_nil (kw_lqS (js := [1, 2, 3, 4, 5, 6, 7]) (fuel, x32, (v26.set (Int.toNat v25) false), x41, C40) ⟨H1, (by simp [hl27]), o40⟩ (Nat.lt_succ_self _) ⟨rfl, rfl, rfl, rfl, trivial⟩ ⟨1, [2, 3, 4, 5, 6, 7], rfl, rfl, 2, [3, 4, 5, 6, 7], rfl, rfl, 3, [4, 5, 6, 7], rfl, rfl, 4, [5, 6, 7], rfl, rfl, 5, [6, 7], rfl, rfl, 6, [7], rfl, rfl, 7, [], rfl, rfl, trivial⟩ (by decide)))))))))
    · have H1 := cond_f H1 h30
      refine cw_exit (kw_nx_exit (kw_lq_exit (kw_bl ?_)))
      have q1 := Option.some.inj H1
      subst q1
      exact kw_joinS (js := [1, 2, 3, 4, 5, 6, 7]) (v25, v26, v28, C27) ⟨rfl, (by simp [hl27]), o27⟩ ⟨rfl, rfl, rfl, rfl, trivial⟩ ⟨1, [2, 3, 4, 5, 6, 7], rfl, rfl, 2, [3, 4, 5, 6, 7], rfl, rfl, 3, [4, 5, 6, 7], rfl, rfl, 4, [5, 6, 7], rfl, rfl, 5, [6, 7], rfl, rfl, 6, [7], rfl, rfl, 7, [], rfl, rfl, trivial⟩ (by decide)
  · rintro ⟨v25, v26, v28, C27⟩ ⟨rfl, hl27, o27⟩
    refine KW.sub (s' := [(2, .pointer (some ⟨b2, 0, none⟩)), (4, .pointer (some ⟨b24, 0, none⟩)), (5, .int .i64 ((x3.k).length : Int)), (6, .int .i64 v28)]) (h' := [(1, [(b2, .cells #[.slice none 0 0, .slice none 0 0, .slice none 0 0, .int .i64 0, .int .i64 0, .int .i64 0, .int .i64 0, .slice none 0 0, .int .i64 0, .slice none 0 0, .int .i64 0] 68 (0, 0))]), (2, C7), (3, C11), (4, C15), (5, C19), (6, C27), (7, [(b24, .cells #[.slice p4 ((x3.m.t.b).length) c6, .slice p8 ((x3.m.t.f).length) c10, .slice p12 ((x3.m.c.l).length) c14, .int .i64 x3.m.c.h, .int .i64 x3.m.g.c, .int .i64 x3.m.g.n, .int .i64 x3.m.g.r, .slice p16 ((x3.m.g.o).length) c18, .int .i64 x3.m.s, .slice p20 ((x3.k).length) c22, .int .i64 v25] 68 (0, 0))])]) ?_ ⟨rfl, rfl, rfl, rfl, trivial⟩ ⟨rfl, rfl, rfl, rfl, rfl, rfl, rfl, trivial⟩
    refine kw_nx (sr (oD (stp_loadN (us := [_, _, _, _, _, _, _, _, _, _, _]) ts68 rfl (Cells.box (id := 7) rfl 11 rfl)) rfl (oF (stpU_store (id := 1) (cs' := [.slice p4 ((x3.m.t.b).length) c6, .slice p8 ((x3.m.t.f).length) c10, .slice p12 ((x3.m.c.l).length) c14, .int .i64 x3.m.c.h, .int .i64 x3.m.g.c, .int .i64 x3.m.g.n, .int .i64 x3.m.g.r, .slice p16 ((x3.m.g.o).length) c18, .int .i64 x3.m.s, .slice p20 ((x3.k).length) c22, .int .i64 v25]) ts68 rfl rfl rfl rfl rfl rfl rfl) ?_)))
    rintro _ _ rfl
    refine oD (sg rfl) rfl (nn (cw_ret ?_))
    have q0 := Option.some.inj H0
    subst q0
    exact kw_ret Tryz.results117 (.cons (.cellN (us := [_, _, _, _, _, _, _, _, _, _, _]) ts68 rfl (Cells.box (id := 1) rfl 11 rfl)) (.cons (.tmp rfl) .nil)) [(0, C7), (1, C11), (2, C15), (3, C19), (4, C27)] [2, 3, 4, 5, 6] ⟨2, [3, 4, 5, 6], rfl, rfl, 3, [4, 5, 6], rfl, rfl, 4, [5, 6], rfl, rfl, 5, [6], rfl, rfl, 6, [], rfl, rfl, trivial⟩ (by decide) ⟨p4, ((x3.m.t.b).length), c6, C7, p8, ((x3.m.t.f).length), c10, C11, p12, ((x3.m.c.l).length), c14, C15, p16, ((x3.m.g.o).length), c18, C19, p20, ((x3.k).length), c22, C27, rfl, rfl, rfl, o7, rfl, o11, rfl, o15, rfl, o19, (by simp [hl27]), o27⟩

set_option maxHeartbeats 4000000 in
set_option maxRecDepth 20000 in
theorem c_s_FrameVictim (fl : Nat) (w : World) (a0 : Mm) (p0_0 : Option Addr) (n0_0 c0_0 : Nat) (p0_1 : Option Addr) (n0_1 c0_1 : Nat) (p0_2 : Option Addr) (n0_2 c0_2 : Nat) (p0_3 : Option Addr) (n0_3 c0_3 : Nat) (p0_4 : Option Addr) (n0_4 c0_4 : Nat) (hn0_0 : n0_0 = (a0.m.t.b).length) (hr0_0 : RO w (hkeys []) (RdL p0_0 c0_0 a0.m.t.b)) (hn0_1 : n0_1 = (a0.m.t.f).length) (hr0_1 : RO w (hkeys []) (RdL p0_1 c0_1 a0.m.t.f)) (hn0_2 : n0_2 = (a0.m.c.l).length) (hr0_2 : RO w (hkeys []) (RdL p0_2 c0_2 a0.m.c.l)) (hn0_3 : n0_3 = (a0.m.g.o).length) (hr0_3 : RO w (hkeys []) (RdL p0_3 c0_3 a0.m.g.o)) (hn0_4 : n0_4 = (a0.k).length) (hr0_4 : RO w (hkeys []) (RdL p0_4 c0_4 a0.k)) (r : Mm × Int × Bool) (H0 : s_FrameVictim fl a0 = some r) :
    Ct Tryz.prog 48 [.agg #[.slice p0_0 n0_0 c0_0, .slice p0_1 n0_1 c0_1, .slice p0_2 n0_2 c0_2, .int .i64 a0.m.c.h, .int .i64 a0.m.g.c, .int .i64 a0.m.g.n, .int .i64 a0.m.g.r, .slice p0_3 n0_3 c0_3, .int .i64 a0.m.s, .slice p0_4 n0_4 c0_4, .int .i64 a0.h]] w [] (fun rv h' => ∃ (x0 : Option Addr) (y0 z0 : Nat) (C0 : Res) (x1 : Option Addr) (y1 z1 : Nat) (C1 : Res) (x2 : Option Addr) (y2 z2 : Nat) (C2 : Res) (x3 : Option Addr) (y3 z3 : Nat) (C3 : Res) (x4 : Option Addr) (y4 z4 : Nat) (C4 : Res), rv = .tuple #[.agg #[.slice x0 y0 z0, .slice x1 y1 z1, .slice x2 y2 z2, .int .i64 r.1.m.c.h, .int .i64 r.1.m.g.c, .int .i64 r.1.m.g.n, .int .i64 r.1.m.g.r, .slice x3 y3 z3, .int .i64 r.1.m.s, .slice x4 y4 z4, .int .i64 r.1.h], .int .i64 r.2.1, .bool r.2.2] ∧ h' = [(0, C0), (1, C1), (2, C2), (3, C3), (4, C4)] ∧ y0 = (r.1.m.t.b).length ∧ OwnC 3 x0 z0 r.1.m.t.b C0 ∧ y1 = (r.1.m.t.f).length ∧ OwnC 127 x1 z1 r.1.m.t.f C1 ∧ y2 = (r.1.m.c.l).length ∧ OwnC 112 x2 z2 r.1.m.c.l C2 ∧ y3 = (r.1.m.g.o).length ∧ OwnC 148 x3 z3 r.1.m.g.o C3 ∧ y4 = (r.1.k).length ∧ OwnC 4 x4 z4 r.1.k C4) := by
  obtain rfl := hn0_0
  obtain rfl := hn0_1
  obtain rfl := hn0_2
  obtain rfl := hn0_3
  obtain rfl := hn0_4
  unfold s_FrameVictim at H0
  refine ct_of_cw Tryz.func48 rfl Tryz.ntmps48 rfl (Sat.refl _ _) ?_
  refine sr (oE (stpU_box 0 rfl rfl) rfl ?_)
  rintro _ _ ⟨b1, rfl, rfl⟩
  refine oE (stpU_alloc 1 tz68 rfl) rfl ?_
  rintro _ _ ⟨b2, rfl, rfl⟩
  obtain ⟨x3, e3, H0⟩ := bind_some H0
  refine oD (sg rfl) rfl (oD (sg rfl) rfl (nn (cw_seq (sr (oD (stp_loadN (us := [_, _, _, _, _, _, _, _, _, _, _]) ts68 rfl (Cells.box (id := 0) rfl 11 rfl)) rfl (oE (stpU_call (fun i => 2 + i) cf106 (fun w hw => c_s_MemoryValid fl w a0 p0_0 ((a0.m.t.b).length) c0_0 p0_1 ((a0.m.t.f).length) c0_1 p0_2 ((a0.m.c.l).length) c0_2 p0_3 ((a0.m.g.o).length) c0_3 p0_4 ((a0.k).length) c0_4 rfl (RO.pass hr0_0 hw) rfl (RO.pass hr0_1 hw) rfl (RO.pass hr0_2 hw) rfl (RO.pass hr0_3 hw) rfl (RO.pass hr0_4 hw) x3 e3) (sevs_cons rfl sevs_nil)) rfl ?_))))))
  rintro _ _ ⟨_, ⟨rfl, rfl⟩, rfl⟩
  refine oD (stp_not rfl) rfl (nn (cw_cond rfl (fun h4 => ?_) (fun h4 => ?_)))
  · have H0 := cond_t H0 h4
    refine sr (oD (stp_build (cs := #[.slice none 0 0, .slice none 0 0, .slice none 0 0, .int .i64 0, .int .i64 0, .int .i64 0, .int .i64 0, .slice none 0 0, .int .i64 0, .slice none 0 0, .int .i64 0]) sevp_nil bt68_18) rfl (oF (stpU_store (id := 1) (cs' := [.slice none 0 0, .slice none 0 0, .slice none 0 0, .int .i64 0, .int .i64 0, .int .i64 0, .int .i64 0, .slice none 0 0, .int .i64 0, .slice none 0 0, .int .i64 0]) ts68 rfl rfl rfl rfl rfl rfl rfl) ?_))
    rintro _ _ rfl
    refine oD (sg rfl) rfl (oD (sg rfl) rfl (nn (cw_ret (kw_nx_ret (kw_addNil 2 (kw_addNil 3 (kw_addNil 4 (kw_addNil 5 (kw_addNil 6 ?_)))))))))
    have q0 := Option.some.inj H0
    subst q0
    exact kw_ret Tryz.results48 (.cons (.cellN (us := [_, _, _, _, _, _, _, _, _, _, _]) ts68 rfl (Cells.box (id := 1) rfl 11 rfl)) (.cons (.tmp rfl) (.cons (.tmp rfl) .nil))) [(0, []), (1, []), (2, []), (3, []), (4, [])] [2, 3, 4, 5, 6] ⟨2, [3, 4, 5, 6], rfl, rfl, 3, [4, 5, 6], rfl, rfl, 4, [5, 6], rfl, rfl, 5, [6], rfl, rfl, 6, [], rfl, rfl, trivial⟩ (by decide) ⟨none, 0, 0, [], none, 0, 0, [], none, 0, 0, [], none, 0, 0, [], none, 0, 0, [], rfl, rfl, rfl, (OwnC.nil _ _), rfl, (OwnC.nil _ _), rfl, (OwnC.nil _ _), rfl, (OwnC.nil _ _), rfl, (OwnC.nil _ _)⟩
  · have H0 := cond_f H0 h4
    obtain ⟨x5, e5, H0⟩ := bind_some H0
    refine cw_skip (kw_nx (sr (oD (stp_loadN (us := [_, _, _, _, _, _, _, _, _, _, _]) ts68 rfl (Cells.box (id := 0) rfl 11 rfl)) rfl (oE (stpU_call (fun i => 7 + i) cf117 (fun w hw => c_s_l7Clock fl w a0 p0_0 ((a0.m.t.b).length) c0_0 p0_1 ((a0.m.t.f).length) c0_1 p0_2 ((a0.m.c.l).length) c0_2 p0_3 ((a0.m.g.o).length) c0_3 p0_4 ((a0.k).length) c0_4 rfl (RO.pass hr0_0 hw) rfl (RO.pass hr0_1 hw) rfl (RO.pass hr0_2 hw) rfl (RO.pass hr0_3 hw) rfl (RO.pass hr0_4 hw) x5 e5) (sevs_cons rfl sevs_nil)) rfl ?_))))
    rintro _ _ ⟨_, ⟨p6, n7, c8, C9, p10, n11, c12, C13, p14, n15, c16, C17, p18, n19, c20, C21, p22, n23, c24, C25, rfl, rfl, hnn7, o9, hnn11, o13, hnn15, o17, hnn19, o21, hnn23, o25⟩, rfl⟩
    obtain rfl := hnn7
    obtain rfl := hnn11
    obtain rfl := hnn15
    obtain rfl := hnn19
    obtain rfl := hnn23
    refine oD (mv rfl) rfl (oD (stp_extract rfl rfl) rfl (oD (stp_extract rfl rfl) rfl (oE (stpU_alloc 12 tz68 rfl) rfl ?_)))
    rintro _ _ ⟨b26, rfl, rfl⟩
    refine oF (stpU_store (id := 12) (cs' := [.slice p6 ((x5.1.m.t.b).length) c8, .slice p10 ((x5.1.m.t.f).length) c12, .slice p14 ((x5.1.m.c.l).length) c16, .int .i64 x5.1.m.c.h, .int .i64 x5.1.m.g.c, .int .i64 x5.1.m.g.n, .int .i64 x5.1.m.g.r, .slice p18 ((x5.1.m.g.o).length) c20, .int .i64 x5.1.m.s, .slice p22 ((x5.1.k).length) c24, .int .i64 x5.1.h]) ts68 rfl rfl rfl rfl rfl rfl rfl) ?_
    rintro _ _ rfl
    refine oD (sg rfl) rfl (nn (cw_seq (sr (oD (mv rfl) rfl (oD (stp_lss rfl rfl) rfl (nn (cw_cond rfl (fun h27 => ?_) (fun h27 => ?_))))))))
    · have H0 := cond_t H0 h27
      refine sr (oD (stp_build (cs := #[.slice none 0 0, .slice none 0 0, .slice none 0 0, .int .i64 0, .int .i64 0, .int .i64 0, .int .i64 0, .slice none 0 0, .int .i64 0, .slice none 0 0, .int .i64 0]) sevp_nil bt68_18) rfl (oF (stpU_store (id := 1) (cs' := [.slice none 0 0, .slice none 0 0, .slice none 0 0, .int .i64 0, .int .i64 0, .int .i64 0, .int .i64 0, .slice none 0 0, .int .i64 0, .slice none 0 0, .int .i64 0]) ts68 rfl rfl rfl rfl rfl rfl rfl) ?_))
      rintro _ _ rfl
      refine oD (sg rfl) rfl (oD (sg rfl) rfl (nn (cw_ret (kw_nx_ret (kw_addNil 13 (kw_addNil 14 (kw_addNil 15 (kw_addNil 16 (kw_addNil 17 ?_)))))))))
      have q0 := Option.some.inj H0
      subst q0
      exact kw_ret Tryz.results48 (.cons (.cellN (us := [_, _, _, _, _, _, _, _, _, _, _]) ts68 rfl (Cells.box (id := 1) rfl 11 rfl)) (.cons (.tmp rfl) (.cons (.tmp rfl) .nil))) [(0, []), (1, []), (2, []), (3, []), (4, [])] [13, 14, 15, 16, 17] ⟨13, [14, 15, 16, 17], rfl, rfl, 14, [15, 16, 17], rfl, rfl, 15, [16, 17], rfl, rfl, 16, [17], rfl, rfl, 17, [], rfl, rfl, trivial⟩ (by decide) ⟨none, 0, 0, [], none, 0, 0, [], none, 0, 0, [], none, 0, 0, [], none, 0, 0, [], rfl, rfl, rfl, (OwnC.nil _ _), rfl, (OwnC.nil _ _), rfl, (OwnC.nil _ _), rfl, (OwnC.nil _ _), rfl, (OwnC.nil _ _)⟩
    · have H0 := cond_f H0 h27
      refine cw_skip (kw_nx (sr (oD (stp_loadN (us := [_, _, _, _, _, _, _, _, _, _, _]) ts68 rfl (Cells.box (id := 12) rfl 11 rfl)) rfl (oD (mv rfl) rfl (oF (stpU_store (id := 1) (cs' := [.slice p6 ((x5.1.m.t.b).length) c8, .slice p10 ((x5.1.m.t.f).length) c12, .slice p14 ((x5.1.m.c.l).length) c16, .int .i64 x5.1.m.c.h, .int .i64 x5.1.m.g.c, .int .i64 x5.1.m.g.n, .int .i64 x5.1.m.g.r, .slice p18 ((x5.1.m.g.o).length) c20, .int .i64 x5.1.m.s, .slice p22 ((x5.1.k).length) c24, .int .i64 x5.1.h]) ts68 rfl rfl rfl rfl rfl rfl rfl) ?_)))))
      rintro _ _ rfl
      refine oD (sg rfl) rfl (oD (sg rfl) rfl (nn (cw_ret ?_)))
      have q0 := Option.some.inj H0
      subst q0
      exact kw_ret Tryz.results48 (.cons (.cellN (us := [_, _, _, _, _, _, _, _, _, _, _]) ts68 rfl (Cells.box (id := 1) rfl 11 rfl)) (.cons (.tmp rfl) (.cons (.tmp rfl) .nil))) [(0, C9), (1, C13), (2, C17), (3, C21), (4, C25)] [7, 8, 9, 10, 11] ⟨7, [8, 9, 10, 11], rfl, rfl, 8, [9, 10, 11], rfl, rfl, 9, [10, 11], rfl, rfl, 10, [11], rfl, rfl, 11, [], rfl, rfl, trivial⟩ (by decide) ⟨p6, ((x5.1.m.t.b).length), c8, C9, p10, ((x5.1.m.t.f).length), c12, C13, p14, ((x5.1.m.c.l).length), c16, C17, p18, ((x5.1.m.g.o).length), c20, C21, p22, ((x5.1.k).length), c24, C25, rfl, rfl, rfl, o9, rfl, o13, rfl, o17, rfl, o21, rfl, o25⟩

set_option maxHeartbeats 4000000 in
set_option maxRecDepth 20000 in
theorem c_i_FrameVictim_1 (fl : Nat) (w : World) (a0 : Ln) (qc0 : Nat) (ac0 : Int) (hbac0 : RO w (hkeys []) (fun w' => w'.rangeAt qc0 0 [.int .i64 ac0])) (r : Bool) (H0 : i_FrameVictim_1 fl a0 ac0 = some r) :
    Ct Tryz.prog 119 [.agg #[.bool a0.va, .int .i64 a0.tg, .int .i64 a0.pg, .int .i64 a0.fr, .int .i64 a0.ri, .bool a0.wi], .pointer (some ⟨qc0, 0, none⟩)] w [] (fun rv h' => rv = .bool r ∧ h' = []) := by
  unfold i_FrameVictim_1 at H0
  refine ct_of_cw Tryz.func119 rfl Tryz.ntmps119 rfl (Sat.refl _ _) ?_
  refine sr (oE (stpU_box 0 rfl rfl) rfl ?_)
  rintro _ _ ⟨b1, rfl, rfl⟩
  obtain ⟨y2, ey2, H0⟩ := bind_some H0
  refine oD (sg rfl) rfl (nn (sr (oD (fA 5 Tryz.underlying112 rfl ts4 rfl rfl rfl) rfl (oD (lB 0 ts4 rfl rfl rfl) rfl (oD (mv rfl) rfl (ow_cutY 5 11 y2 ?_ ?_))))))
  · rcases Bool.eq_false_or_eq_true a0.wi with hy2 | hy2
    · have ey2 := cond_t ey2 hy2
      refine oG rfl hy2 (fA 3 Tryz.underlying112 rfl ts3 rfl rfl rfl) rfl (oG rfl hy2 (lB 0 ts3 rfl rfl rfl) rfl (oG rfl hy2 (stp_load1 ts3 rfl (Cells.ofRO hbac0 1 rfl)) rfl (oG rfl hy2 (stp_eql rfl rfl) rfl (oD (stp_pick_t rfl hy2 rfl) rfl ?_))))
      obtain rfl := Option.some.inj ey2
      exact ow_nil (jy 5 0)
    · have ey2 := cond_f ey2 hy2
      refine oO rfl hy2 rfl (oO rfl hy2 rfl (oO rfl hy2 rfl (oO rfl hy2 rfl (oD (stp_pick_f rfl hy2 rfl) rfl ?_))))
      obtain rfl := Option.some.inj ey2
      exact ow_nil (jy 5 0)
  · refine oD (sg rfl) rfl (nn (cw_ret ?_))
    have q0 := Option.some.inj H0
    subst q0
    exact kw_ret Tryz.results119 (.cons (.tmp rfl) .nil) [] [] trivial (by decide) ⟨rfl, rfl⟩

set_option maxHeartbeats 4000000 in
set_option maxRecDepth 20000 in
theorem c_slices_IndexFunc_Line_of_i_FrameVictim_1 (fl : Nat) (w : World) (a0 : (List Ln)) (p0_0 : Option Addr) (n0_0 c0_0 : Nat) (q1_0 : Nat) (a1_0 : Int) (hn0_0 : n0_0 = (a0).length) (hr0_0 : RO w (hkeys []) (RdL p0_0 c0_0 a0)) (hba1_0 : RO w (hkeys []) (fun w' => w'.rangeAt q1_0 0 [.int .i64 a1_0])) (r : Int) (H0 : slices_IndexFunc_Line_of_i_FrameVictim_1 fl a0 a1_0 = some r) :
    Ct Tryz.prog 172 [.slice p0_0 n0_0 c0_0, .func (.func 119) #[] #[.pointer (some ⟨q1_0, 0, none⟩)]] w [] (fun rv h' => rv = .int .i64 r ∧ h' = []) := by
  obtain rfl := hn0_0
  unfold slices_IndexFunc_Line_of_i_FrameVictim_1 at H0
  refine ct_of_cw Tryz.func172 rfl Tryz.ntmps172 rfl (Sat.refl _ _) ?_
  obtain ⟨o0_0, eo0_0, H0⟩ := bind_some H0
  refine sr (oD (sg rfl) rfl (nn (cw_seq (sr (oD (mv rfl) rfl (oD (stp_len Tryz.underlying40 rfl) rfl (oD (mv rfl) rfl (nn (cw_join (ι := Int) (fun | v1 => o0_0 = .out v1) (fun | v1 => [(0, .slice p0_0 ((a0).length) c0_0), (1, .func (.func 119) #[] #[.pointer (some ⟨q1_0, 0, none⟩)]), (7, .int .i64 ((a0).length : Int)), (8, .int .i64 v1)]) (fun | v1 => []) ?_ ?_)))))))))
  · refine cw_block (cw_loopS (ι := Nat × Int) (js := []) (fun x => x.1) (fun | (fuel, v1) => slices_IndexFunc_Line_of_i_FrameVictim_1_L0 fl a0 a1_0 fuel v1 = some o0_0) (fun | (_, v1) => [(0, .slice p0_0 ((a0).length) c0_0), (1, .func (.func 119) #[] #[.pointer (some ⟨q1_0, 0, none⟩)]), (7, .int .i64 ((a0).length : Int)), (8, .int .i64 v1)]) (fun | (_, v1) => []) (fl, 0) eo0_0 ⟨rfl, rfl, rfl, rfl, trivial⟩ trivial (by decide) ?_)
    rintro ⟨fuel, v1⟩ H1
    have H1 : slices_IndexFunc_Line_of_i_FrameVictim_1_L0 fl a0 a1_0 fuel v1 = some o0_0 := H1
    rcases fuel with _ | fuel
    · rw [slices_IndexFunc_Line_of_i_FrameVictim_1_L0.eq_1] at H1; cases H1
    rw [slices_IndexFunc_Line_of_i_FrameVictim_1_L0.eq_2] at H1
    refine CW.sub (s' := [(0, .slice p0_0 ((a0).length) c0_0), (1, .func (.func 119) #[] #[.pointer (some ⟨q1_0, 0, none⟩)]), (7, .int .i64 ((a0).length : Int)), (8, .int .i64 v1)]) (h' := []) ?_ ⟨rfl, rfl, rfl, rfl, trivial⟩ trivial
    refine sr (oD (stp_lss rfl rfl) rfl (nn (cw_seq (cw_cond rfl (fun h2 => ?_) (fun h2 => ?_)))))
    · have H1 := cond_t H1 h2
      obtain ⟨x3, e3, H1⟩ := bind_some H1
      refine cw_skip (kw_nx (cw_seq (cw_block (sr (oD (mv rfl) rfl (oD (sg rfl) rfl (nn (sr (oD (mv rfl) rfl (oD (mv rfl) rfl (oD (mv rfl) rfl (oD (stp_indexAddr Tryz.underlying40 ts112 (by decide) rfl rfl rfl (Rdb.ro hr0_0) e3) rfl (oD (stp_loadN (us := [_, _, _, _, _, _]) ts112 rfl (Cells.el (Rdb.ro hr0_0) (by decide) e3 0 6 rfl)) rfl ?_)))))))))))))
      obtain ⟨x4, e4, H1⟩ := bind_some H1
      refine oE (stpU_callF (vals := [_]) (ca := [_]) (fun i => 0 + i) cf119 (fun w hw => c_i_FrameVictim_1 fl w x3 q1_0 a1_0 (RO.pass hba1_0 hw) x4 e4) rfl (sevs_cons rfl sevs_nil)) rfl ?_
      rintro _ _ ⟨_, ⟨rfl, rfl⟩, rfl⟩
      refine nn (cw_cond rfl (fun h5 => ?_) (fun h5 => ?_))
      · have H1 := cond_t H1 h5
        refine sr (oD (mv rfl) rfl (oD (sg rfl) rfl (nn (cw_ret (kw_bl_ret (kw_nx_ret (kw_lq_ret (kw_bl_ret (kw_join_ret (kw_nx_ret ?_))))))))))
        have q1 := Option.some.inj H1
        subst q1
        have q0 := Option.some.inj H0
        subst q0
        exact kw_ret Tryz.results172 (.cons (.tmp rfl) .nil) [] [] trivial (by decide) ⟨rfl, rfl⟩
      · have H1 := cond_f H1 h5
        obtain ⟨x6, e6, H1⟩ := bind_some H1
        exact cw_skip (kw_bl_normal (kw_nx (cw_region (oD (stp_add rfl rfl e6) rfl (oD (mv rfl) rfl (ow_nil (kw_lqS (js := []) (fuel, x6) H1 (Nat.lt_succ_self _) ⟨rfl, rfl, rfl, rfl, trivial⟩ trivial (by decide))))))))
    · have H1 := cond_f H1 h2
      refine cw_exit (kw_nx_exit (kw_lq_exit (kw_bl ?_)))
      have q1 := Option.some.inj H1
      subst q1
      exact kw_joinS (js := []) v1 rfl ⟨rfl, rfl, rfl, rfl, trivial⟩ trivial (by decide)
  · rintro v1 rfl
    refine KW.sub (s' := [(0, .slice p0_0 ((a0).length) c0_0), (1, .func (.func 119) #[] #[.pointer (some ⟨q1_0, 0, none⟩)]), (7, .int .i64 ((a0).length : Int)), (8, .int .i64 v1)]) (h' := []) ?_ ⟨rfl, rfl, rfl, rfl, trivial⟩ trivial
    refine kw_nx (sr (oD (sg rfl) rfl (nn (cw_ret ?_))))
    have q0 := Option.some.inj H0
    subst q0
    exact kw_ret Tryz.results172 (.cons (.tmp rfl) .nil) [] [] trivial (by decide) ⟨rfl, rfl⟩

set_option maxHeartbeats 4000000 in
set_option maxRecDepth 20000 in
theorem c_slices_ContainsFunc_Line_of_i_FrameVictim_1 (fl : Nat) (w : World) (a0 : (List Ln)) (p0_0 : Option Addr) (n0_0 c0_0 : Nat) (q1_0 : Nat) (a1_0 : Int) (hn0_0 : n0_0 = (a0).length) (hr0_0 : RO w (hkeys []) (RdL p0_0 c0_0 a0)) (hba1_0 : RO w (hkeys []) (fun w' => w'.rangeAt q1_0 0 [.int .i64 a1_0])) (r : Bool) (H0 : slices_ContainsFunc_Line_of_i_FrameVictim_1 fl a0 a1_0 = some r) :
    Ct Tryz.prog 118 [.slice p0_0 n0_0 c0_0, .func (.func 119) #[] #[.pointer (some ⟨q1_0, 0, none⟩)]] w [] (fun rv h' => rv = .bool r ∧ h' = []) := by
  obtain rfl := hn0_0
  unfold slices_ContainsFunc_Line_of_i_FrameVictim_1 at H0
  refine ct_of_cw Tryz.func118 rfl Tryz.ntmps118 rfl (Sat.refl _ _) ?_
  obtain ⟨x1, e1, H0⟩ := bind_some H0
  refine sr (oD (sg rfl) rfl (nn (sr (oD (mv rfl) rfl (oD (mv rfl) rfl (oE (stpU_call (fun i => 0 + i) cf172 (fun w hw => c_slices_IndexFunc_Line_of_i_FrameVictim_1 fl w a0 p0_0 ((a0).length) c0_0 q1_0 a1_0 rfl (RO.pass hr0_0 hw) (RO.pass hba1_0 hw) x1 e1) (sevs_cons rfl (sevs_cons rfl sevs_nil))) rfl ?_))))))
  rintro _ _ ⟨_, ⟨rfl, rfl⟩, rfl⟩
  refine oD (stp_geq rfl rfl) rfl (oD (sg rfl) rfl (nn (cw_ret ?_)))
  have q0 := Option.some.inj H0
  subst q0
  exact kw_ret Tryz.results118 (.cons (.tmp rfl) .nil) [] [] trivial (by decide) ⟨rfl, rfl⟩

set_option maxHeartbeats 4000000 in
set_option maxRecDepth 20000 in
theorem c_i_FrameVictim (fl : Nat) (w : World) (a0 : Mm) (p0_0 : Option Addr) (n0_0 c0_0 : Nat) (p0_1 : Option Addr) (n0_1 c0_1 : Nat) (p0_2 : Option Addr) (n0_2 c0_2 : Nat) (p0_3 : Option Addr) (n0_3 c0_3 : Nat) (p0_4 : Option Addr) (n0_4 c0_4 : Nat) (hn0_0 : n0_0 = (a0.m.t.b).length) (hr0_0 : RO w (hkeys []) (RdL p0_0 c0_0 a0.m.t.b)) (hn0_1 : n0_1 = (a0.m.t.f).length) (hr0_1 : RO w (hkeys []) (RdL p0_1 c0_1 a0.m.t.f)) (hn0_2 : n0_2 = (a0.m.c.l).length) (hr0_2 : RO w (hkeys []) (RdL p0_2 c0_2 a0.m.c.l)) (hn0_3 : n0_3 = (a0.m.g.o).length) (hr0_3 : RO w (hkeys []) (RdL p0_3 c0_3 a0.m.g.o)) (hn0_4 : n0_4 = (a0.k).length) (hr0_4 : RO w (hkeys []) (RdL p0_4 c0_4 a0.k)) (hg : RO w (hkeys []) (fun w' => w'.rangeAt 0 0 [.bool false, .int .i64 0, .int .i64 0, .int .i64 0, .int .i64 (-1)])) (r : Mm × Int × Bool) (H0 : i_FrameVictim fl a0 = some r) :
    Ct Tryz.prog 49 [.agg #[.slice p0_0 n0_0 c0_0, .slice p0_1 n0_1 c0_1, .slice p0_2 n0_2 c0_2, .int .i64 a0.m.c.h, .int .i64 a0.m.g.c, .int .i64 a0.m.g.n, .int .i64 a0.m.g.r, .slice p0_3 n0_3 c0_3, .int .i64 a0.m.s, .slice p0_4 n0_4 c0_4, .int .i64 a0.h]] w [] (fun rv h' => ∃ (x0 : Option Addr) (y0 z0 : Nat) (C0 : Res) (x1 : Option Addr) (y1 z1 : Nat) (C1 : Res) (x2 : Option Addr) (y2 z2 : Nat) (C2 : Res) (x3 : Option Addr) (y3 z3 : Nat) (C3 : Res) (x4 : Option Addr) (y4 z4 : Nat) (C4 : Res), rv = .tuple #[.agg #[.slice x0 y0 z0, .slice x1 y1 z1, .slice x2 y2 z2, .int .i64 r.1.m.c.h, .int .i64 r.1.m.g.c, .int .i64 r.1.m.g.n, .int .i64 r.1.m.g.r, .slice x3 y3 z3, .int .i64 r.1.m.s, .slice x4 y4 z4, .int .i64 r.1.h], .int .i64 r.2.1, .bool r.2.2] ∧ h' = [(0, C0), (1, C1), (2, C2), (3, C3), (4, C4)] ∧ y0 = (r.1.m.t.b).length ∧ OwnC 3 x0 z0 r.1.m.t.b C0 ∧ y1 = (r.1.m.t.f).length ∧ OwnC 127 x1 z1 r.1.m.t.f C1 ∧ y2 = (r.1.m.c.l).length ∧ OwnC 112 x2 z2 r.1.m.c.l C2 ∧ y3 = (r.1.m.g.o).length ∧ OwnC 148 x3 z3 r.1.m.g.o C3 ∧ y4 = (r.1.k).length ∧ OwnC 4 x4 z4 r.1.k C4) := by
  obtain rfl := hn0_0
  obtain rfl := hn0_1
  obtain rfl := hn0_2
  obtain rfl := hn0_3
  obtain rfl := hn0_4
  unfold i_FrameVictim at H0
  refine ct_of_cw Tryz.func49 rfl Tryz.ntmps49 rfl (Sat.refl _ _) ?_
  refine sr (oE (stpU_box 0 rfl rfl) rfl ?_)
  rintro _ _ ⟨b1, rfl, rfl⟩
  refine oE (stpU_alloc 1 tz68 rfl) rfl ?_
  rintro _ _ ⟨b2, rfl, rfl⟩
  obtain ⟨x3, e3, H0⟩ := bind_some H0
  refine oD (sg rfl) rfl (oD (sg rfl) rfl (nn (cw_seq (sr (oD (stp_loadN (us := [_, _, _, _, _, _, _, _, _, _, _]) ts68 rfl (Cells.box (id := 0) rfl 11 rfl)) rfl (oE (stpU_call (fun i => 2 + i) cf38 (fun w hw => c_i_MemoryValid fl w a0 p0_0 ((a0.m.t.b).length) c0_0 p0_1 ((a0.m.t.f).length) c0_1 p0_2 ((a0.m.c.l).length) c0_2 p0_3 ((a0.m.g.o).length) c0_3 p0_4 ((a0.k).length) c0_4 rfl (RO.pass hr0_0 hw) rfl (RO.pass hr0_1 hw) rfl (RO.pass hr0_2 hw) rfl (RO.pass hr0_3 hw) rfl (RO.pass hr0_4 hw) (RO.pass hg hw) x3 e3) (sevs_cons rfl sevs_nil)) rfl ?_))))))
  rintro _ _ ⟨_, ⟨rfl, rfl⟩, rfl⟩
  refine oD (stp_not rfl) rfl (nn (cw_cond rfl (fun h4 => ?_) (fun h4 => ?_)))
  · have H0 := cond_t H0 h4
    refine sr (oD (stp_build (cs := #[.slice none 0 0, .slice none 0 0, .slice none 0 0, .int .i64 0, .int .i64 0, .int .i64 0, .int .i64 0, .slice none 0 0, .int .i64 0, .slice none 0 0, .int .i64 0]) sevp_nil bt68_18) rfl (oF (stpU_store (id := 1) (cs' := [.slice none 0 0, .slice none 0 0, .slice none 0 0, .int .i64 0, .int .i64 0, .int .i64 0, .int .i64 0, .slice none 0 0, .int .i64 0, .slice none 0 0, .int .i64 0]) ts68 rfl rfl rfl rfl rfl rfl rfl) ?_))
    rintro _ _ rfl
    refine oD (sg rfl) rfl (oD (sg rfl) rfl (nn (cw_ret (kw_nx_ret (kw_addNil 2 (kw_addNil 3 (kw_addNil 4 (kw_addNil 5 (kw_addNil 6 ?_)))))))))
    have q0 := Option.some.inj H0
    subst q0
    exact kw_ret Tryz.results49 (.cons (.cellN (us := [_, _, _, _, _, _, _, _, _, _, _]) ts68 rfl (Cells.box (id := 1) rfl 11 rfl)) (.cons (.tmp rfl) (.cons (.tmp rfl) .nil))) [(0, []), (1, []), (2, []), (3, []), (4, [])] [2, 3, 4, 5, 6] ⟨2, [3, 4, 5, 6], rfl, rfl, 3, [4, 5, 6], rfl, rfl, 4, [5, 6], rfl, rfl, 5, [6], rfl, rfl, 6, [], rfl, rfl, trivial⟩ (by decide) ⟨none, 0, 0, [], none, 0, 0, [], none, 0, 0, [], none, 0, 0, [], none, 0, 0, [], rfl, rfl, rfl, (OwnC.nil _ _), rfl, (OwnC.nil _ _), rfl, (OwnC.nil _ _), rfl, (OwnC.nil _ _), rfl, (OwnC.nil _ _)⟩
  · have H0 := cond_f H0 h4
    obtain ⟨x5, e5, H0⟩ := bind_some H0
    refine cw_skip (kw_nx (sr (oD (stp_loadN (us := [_, _, _, _, _, _, _, _, _, _, _]) ts68 rfl (Cells.box (id := 0) rfl 11 rfl)) rfl (oE (stpU_call (fun i => 7 + i) cf104 (fun w hw => c_i_Memory_clone fl w a0 p0_0 ((a0.m.t.b).length) c0_0 p0_1 ((a0.m.t.f).length) c0_1 p0_2 ((a0.m.c.l).length) c0_2 p0_3 ((a0.m.g.o).length) c0_3 p0_4 ((a0.k).length) c0_4 rfl (RO.pass hr0_0 hw) rfl (RO.pass hr0_1 hw) rfl (RO.pass hr0_2 hw) rfl (RO.pass hr0_3 hw) rfl (RO.pass hr0_4 hw) x5 e5) (sevs_cons rfl sevs_nil)) rfl ?_))))
    rintro _ _ ⟨_, ⟨p6, n7, c8, C9, p10, n11, c12, C13, p14, n15, c16, C17, p18, n19, c20, C21, p22, n23, c24, C25, rfl, rfl, hnn7, o9, hnn11, o13, hnn15, o17, hnn19, o21, hnn23, o25⟩, rfl⟩
    obtain rfl := hnn7
    obtain rfl := hnn11
    obtain rfl := hnn15
    obtain rfl := hnn19
    obtain rfl := hnn23
    refine oE (stpU_alloc 12 tz68 rfl) rfl ?_
    rintro _ _ ⟨b26, rfl, rfl⟩
    refine oF (stpU_store (id := 12) (cs' := [.slice p6 ((x5.m.t.b).length) c8, .slice p10 ((x5.m.t.f).length) c12, .slice p14 ((x5.m.c.l).length) c16, .int .i64 x5.m.c.h, .int .i64 x5.m.g.c, .int .i64 x5.m.g.n, .int .i64 x5.m.g.r, .slice p18 ((x5.m.g.o).length) c20, .int .i64 x5.m.s, .slice p22 ((x5.k).length) c24, .int .i64 x5.h]) ts68 rfl rfl rfl rfl rfl rfl rfl) ?_
    rintro _ _ rfl
    obtain ⟨x27, e27, H0⟩ := bind_some H0
    obtain ⟨o0_0, eo0_0, H0⟩ := bind_some H0
    refine nn (sr (oD (fA 9 Tryz.underlying68 rfl ts66 rfl rfl rfl) rfl (oD (lB 12 ts66 rfl rfl rfl) rfl (oD (stp_len Tryz.underlying66 rfl) rfl (oD (sg rfl) rfl (nn (cw_seq (sr (oD (mv rfl) rfl (oD (stp_mul rfl rfl e27) rfl (oD (mv rfl) rfl (nn (cw_join (ι := Int × (List Bool) × Int × Res) (fun | (v28, v29, v31, C30) => o0_0 = .out (v28, v29, v31) ∧ (x5.k).length = (v29).length ∧ OwnC (α := Bool) 4 p22 c24 v29 C30) (fun | (v28, v29, v31, C30) => [(2, .pointer (some ⟨b2, 0, none⟩)), (5, .pointer (some ⟨b26, 0, none⟩)), (6, .int .i64 ((x5.k).length : Int)), (19, .int .i64 x27), (20, .int .i64 v31)]) (fun | (v28, v29, v31, C30) => [(1, [(b2, .cells #[.slice none 0 0, .slice none 0 0, .slice none 0 0, .int .i64 0, .int .i64 0, .int .i64 0, .int .i64 0, .slice none 0 0, .int .i64 0, .slice none 0 0, .int .i64 0] 68 (0, 0))]), (7, C9), (8, C13), (9, C17), (10, C21), (11, C30), (12, [(b26, .cells #[.slice p6 ((x5.m.t.b).length) c8, .slice p10 ((x5.m.t.f).length) c12, .slice p14 ((x5.m.c.l).length) c16, .int .i64 x5.m.c.h, .int .i64 x5.m.g.c, .int .i64 x5.m.g.n, .int .i64 x5.m.g.r, .slice p18 ((x5.m.g.o).length) c20, .int .i64 x5.m.s, .slice p22 ((x5.k).length) c24, .int .i64 v28] 68 (0, 0))])]) ?_ ?_)))))))))))))
    · refine cw_block (cw_loopS (ι := Nat × Int × (List Bool) × Int × Res) (js := [1, 7, 8, 9, 10, 11, 12]) (fun x => x.1) (fun | (fuel, v28, v29, v31, C30) => i_FrameVictim_L0 fl x5 x27 fuel v28 v29 v31 = some o0_0 ∧ (x5.k).length = (v29).length ∧ OwnC (α := Bool) 4 p22 c24 v29 C30) (fun | (_, v28, v29, v31, C30) => [(2, .pointer (some ⟨b2, 0, none⟩)), (5, .pointer (some ⟨b26, 0, none⟩)), (6, .int .i64 ((x5.k).length : Int)), (19, .int .i64 x27), (20, .int .i64 v31)]) (fun | (_, v28, v29, v31, C30) => [(1, [(b2, .cells #[.slice none 0 0, .slice none 0 0, .slice none 0 0, .int .i64 0, .int .i64 0, .int .i64 0, .int .i64 0, .slice none 0 0, .int .i64 0, .slice none 0 0, .int .i64 0] 68 (0, 0))]), (7, C9), (8, C13), (9, C17), (10, C21), (11, C30), (12, [(b26, .cells #[.slice p6 ((x5.m.t.b).length) c8, .slice p10 ((x5.m.t.f).length) c12, .slice p14 ((x5.m.c.l).length) c16, .int .i64 x5.m.c.h, .int .i64 x5.m.g.c, .int .i64 x5.m.g.n, .int .i64 x5.m.g.r, .slice p18 ((x5.m.g.o).length) c20, .int .i64 x5.m.s, .slice p22 ((x5.k).length) c24, .int .i64 v28] 68 (0, 0))])]) (fl, x5.h, x5.k, 0, C25) ⟨eo0_0, rfl, o25⟩ ⟨rfl, rfl, rfl, rfl, rfl, trivial⟩ ⟨1, [7, 8, 9, 10, 11, 12], rfl, rfl, 7, [8, 9, 10, 11, 12], rfl, rfl, 8, [9, 10, 11, 12], rfl, rfl, 9, [10, 11, 12], rfl, rfl, 10, [11, 12], rfl, rfl, 11, [12], rfl, rfl, 12, [], rfl, rfl, trivial⟩ (by decide) ?_)
      rintro ⟨fuel, v28, v29, v31, C30⟩ ⟨H1, hl30, o30⟩
      have H1 : i_FrameVictim_L0 fl x5 x27 fuel v28 v29 v31 = some o0_0 := H1
      rcases fuel with _ | fuel
      · rw [i_FrameVictim_L0.eq_1] at H1; cases H1
      rw [i_FrameVictim_L0.eq_2] at H1
      refine CW.sub (s' := [(2, .pointer (some ⟨b2, 0, none⟩)), (5, .pointer (some ⟨b26, 0, none⟩)), (6, .int .i64 ((x5.k).length : Int)), (19, .int .i64 x27), (20, .int .i64 v31)]) (h' := [(1, [(b2, .cells #[.slice none 0 0, .slice none 0 0, .slice none 0 0, .int .i64 0, .int .i64 0, .int .i64 0, .int .i64 0, .slice none 0 0, .int .i64 0, .slice none 0 0, .int .i64 0] 68 (0, 0))]), (7, C9), (8, C13), (9, C17), (10, C21), (11, C30), (12, [(b26, .cells #[.slice p6 ((x5.m.t.b).length) c8, .slice p10 ((x5.m.t.f).length) c12, .slice p14 ((x5.m.c.l).length) c16, .int .i64 x5.m.c.h, .int .i64 x5.m.g.c, .int .i64 x5.m.g.n, .int .i64 x5.m.g.r, .slice p18 ((x5.m.g.o).length) c20, .int .i64 x5.m.s, .slice p22 ((x5.k).length) c24, .int .i64 v28] 68 (0, 0))])]) ?_ ⟨rfl, rfl, rfl, rfl, rfl, trivial⟩ ⟨rfl, rfl, rfl, rfl, rfl, rfl, rfl, trivial⟩
      refine sr (oD (stp_lss rfl rfl) rfl (nn (cw_seq (cw_cond rfl (fun h32 => ?_) (fun h32 => ?_)))))
      · have H1 := cond_t H1 h32
        refine cw_skip (kw_nx (cw_seq (cw_block (sr (oD (fA 10 Tryz.underlying68 rfl ts3 rfl rfl rfl) rfl (oD (lB 12 ts3 rfl rfl rfl) rfl (oE (stpU_alloc 13 tz3 rfl) rfl ?_)))))))
        rintro _ _ ⟨b33, rfl, rfl⟩
        refine oF (stpU_store (id := 13) (cs' := [.int .i64 v28]) ts3 rfl rfl rfl rfl rfl rfl rfl) ?_
        rintro _ _ rfl
        obtain ⟨x34, e34, H1⟩ := bind_some H1
        obtain ⟨x35, e35, H1⟩ := bind_some H1
        refine nn (sr (oD (lB 13 ts3 rfl rfl rfl) rfl (oD (stp_add rfl rfl e34) rfl (oD (mv rfl) rfl (oD (stp_rem rfl rfl e35) rfl (oD (fA 10 Tryz.underlying68 rfl ts3 rfl rfl rfl) rfl (oF (stpU_store (id := 12) (cs' := [.slice p6 ((x5.m.t.b).length) c8, .slice p10 ((x5.m.t.f).length) c12, .slice p14 ((x5.m.c.l).length) c16, .int .i64 x5.m.c.h, .int .i64 x5.m.g.c, .int .i64 x5.m.g.n, .int .i64 x5.m.g.r, .slice p18 ((x5.m.g.o).length) c20, .int .i64 x5.m.s, .slice p22 ((x5.k).length) c24, .int .i64 x35]) ts3 rfl rfl rfl rfl rfl rfl rfl) ?_)))))))
        rintro _ _ rfl
        obtain ⟨x36, e36, H1⟩ := bind_some H1
        refine nn (sr (oD (fA 0 Tryz.underlying68 rfl ts47 rfl rfl rfl) rfl (oD (fA 2 Tryz.underlying47 rfl ts42 rfl rfl rfl) rfl (oD (fA 0 Tryz.underlying42 rfl ts40 rfl rfl rfl) rfl (oD (lB 12 ts40 rfl rfl rfl) rfl (oD (stp_makeFunc (sevs_cons rfl sevs_nil)) rfl (oE (stpU_call (fun i => 14 + i) cf118 (fun w hw => c_slices_ContainsFunc_Line_of_i_FrameVictim_1 fl w x5.m.c.l p14 ((x5.m.c.l).length) c16 b33 v28 rfl (OwnC.pass (id := 9) rfl o17 hw) (box_pass (id := 13) rfl hw) x36 e36) (sevs_cons rfl (sevs_cons rfl sevs_nil))) rfl ?_)))))))
        rintro _ _ ⟨_, ⟨rfl, rfl⟩, rfl⟩
        obtain ⟨x37, e37, H1⟩ := bind_some H1
        refine oD (sg rfl) rfl (nn (cw_block (sr (oD (fA 0 Tryz.underlying68 rfl ts47 rfl rfl rfl) rfl (oD (fA 0 Tryz.underlying47 rfl ts39 rfl rfl rfl) rfl (oD (fA 1 Tryz.underlying39 rfl ts37 rfl rfl rfl) rfl (oD (lB 12 ts37 rfl rfl rfl) rfl (oD (lB 13 ts3 rfl rfl rfl) rfl (oD (stp_indexAddr Tryz.underlying37 ts127 (by decide) rfl rfl rfl (Rdb.own (id := 8) rfl o13) e37) rfl (oD (fA 0 Tryz.underlying127 rfl ts4 rfl rfl rfl) rfl (oD (stp_load1 ts4 rfl (Cells.el (Rdb.own (id := 8) rfl o13) (by decide) e37 0 1 rfl)) rfl (oD (stp_not rfl) rfl (oD (mv rfl) rfl ?_)))))))))))))
        obtain ⟨y38, ey38, H1⟩ := bind_some H1
        refine ow_cutY 2 49 y38 ?_ ?_
        · rcases Bool.eq_false_or_eq_true (!x37.u) with hy38 | hy38
          · have ey38 := cond_t ey38 hy38
            refine oO rfl hy38 rfl (oD (stp_pick_t rfl hy38 rfl) rfl ?_)
            obtain rfl := Option.some.inj ey38
            exact ow_nil (jy 2 0)
          · have ey38 := cond_f ey38 hy38
            refine oG rfl hy38 (mv rfl) rfl (oD (stp_pick_f rfl hy38 rfl) rfl ?_)
            obtain rfl := Option.some.inj ey38
            exact ow_nil (jy 2 0)
        · refine oD (sg rfl) rfl (nn (cw_cond rfl (fun h39 => ?_) (fun h39 => ?_)))
          · have H1 := cond_t H1 h39
            obtain ⟨x40, e40, H1⟩ := bind_some H1
            exact cw_skip (kw_bl_normal (kw_bl_normal (kw_nx (cw_region (oD (stp_add rfl rfl e40) rfl (oD (mv rfl) rfl (ow_nil (kw_lqS (js := [1, 7, 8, 9, 10, 11, 12]) (fuel, x35, v29, x40, C30) ⟨H1, (by simp [hl30]), o30⟩ (Nat.lt_succ_self _) ⟨rfl, rfl, rfl, rfl, rfl, trivial⟩ ⟨1, [7, 8, 9, 10, 11, 12], rfl, rfl, 7, [8, 9, 10, 11, 12], rfl, rfl, 8, [9, 10, 11, 12], rfl, rfl, 9, [10, 11, 12], rfl, rfl, 10, [11, 12], rfl, rfl, 11, [12], rfl, rfl, 12, [], rfl, rfl, trivial⟩ (by decide)))))))))
          · have H1 := cond_f H1 h39
            obtain ⟨x41, e41, H1⟩ := bind_some H1
            refine sr (oD (fA 9 Tryz.underlying68 rfl ts66 rfl rfl rfl) rfl (oD (lB 12 ts66 rfl rfl rfl) rfl (oD (lB 13 ts3 rfl rfl rfl) rfl (oD (stp_indexAddr Tryz.underlying66 ts4 (by decide) rfl (by simp [hl30]) rfl (Rdb.own (id := 11) rfl o30) e41) rfl (oD (stp_load1 ts4 rfl (Cells.el (Rdb.own (id := 11) rfl o30) (by decide) e41 0 1 rfl)) rfl (oD (sg rfl) rfl (nn (cw_cond rfl (fun h42 => ?_) (fun h42 => ?_)))))))))
            · have H1 := cond_t H1 h42
              refine cw_region (oD (fA 9 Tryz.underlying68 rfl ts66 rfl rfl rfl) rfl (oD (lB 12 ts66 rfl rfl rfl) rfl (oD (lB 13 ts3 rfl rfl rfl) rfl (oD (stp_indexAddr Tryz.underlying66 ts4 (by decide) rfl (by simp [hl30]) rfl (Rdb.own (id := 11) rfl o30) e41) rfl (oF (stpU_storeEl (id := 11) (i := 0) false (by decide) ts4 rfl rfl rfl o30 e41 rfl rfl rfl rfl) ?_)))))
              rintro _ _ ⟨C43, rfl, o43⟩
              obtain ⟨x44, e44, H1⟩ := bind_some H1
              exact ow_nil (kw_bl_normal (kw_bl_normal (kw_nx (cw_region (oD (stp_add rfl rfl e44) rfl (oD (mv rfl) rfl (ow_nil (kw_lqS (js := [1, 7, 8, 9, 10, 11, 12]) (fuel, x35, (v29.set (Int.toNat v28) false), x44, C43) ⟨H1, (by simp [hl30]), o43⟩ (Nat.lt_succ_self _) ⟨rfl, rfl, rfl, rfl, rfl, trivial⟩ ⟨1, [7, 8, 9, 10, 11, 12], rfl, rfl, 7, [8, 9, 10, 11, 12], rfl, rfl, 8, [9, 10, 11, 12], rfl, rfl, 9, [10, 11, 12], rfl, rfl, 10, [11, 12], rfl, rfl, 11, [12], rfl, rfl, 12, [], rfl, rfl, trivial⟩ (by decide)))))))))
            · have H1 := cond_f H1 h42
              refine cw_seq (rdr g_mixed [2, 5, 7] [1, 12, 13] { dst := dS [36, 37, 0, 4, 5], pre := gA [] [[], [], [0], [0, 1, 2], rn 0 4], ids := gA [] [[], [], [1]], rs := rL [[(5, 0)], [(7, 0)], [(2, 0), (35, 1)], [(36, 2)], []], rh := rL [[(12, 0)], [(13, 0)], [(1, 0)]], V := fun i g => gA undef [.agg #[.slice p6 ((x5.m.t.b).length) c8, .slice p10 ((x5.m.t.f).length) c12, .slice p14 ((x5.m.c.l).length) c16, .int .i64 x5.m.c.h, .int .i64 x5.m.g.c, .int .i64 x5.m.g.n, .int .i64 x5.m.g.r, .slice p18 ((x5.m.g.o).length) c20, .int .i64 x5.m.s, .slice p22 ((x5.k).length) c24, .int .i64 x35], .int .i64 v28, undef, .int .i64 v28, .bool true] i, U := fun i g => gA [] [[], [], [(1, [(b2, .cells #[.slice p6 ((x5.m.t.b).length) c8, .slice p10 ((x5.m.t.f).length) c12, .slice p14 ((x5.m.c.l).length) c16, .int .i64 x5.m.c.h, .int .i64 x5.m.g.c, .int .i64 x5.m.g.n, .int .i64 x5.m.g.r, .slice p18 ((x5.m.g.o).length) c20, .int .i64 x5.m.s, .slice p22 ((x5.k).length) c24, .int .i64 x35] 68 (0, 0))])]] i, Φ := fun _ _ => True } ?_ ?_)
              · refine ⟨⟨⟨⟨⟨trivial, lc rfl rfl fun hs hh => stp_loadN (us := [_, _, _, _, _, _, _, _, _, _, _]) ts68 (sv hs 5 rfl) (Cells.box (id := 12) (hh.get 12 _ rfl) 11 rfl)⟩, lc rfl rfl fun hs hh => stp_load1 ts3 (sv hs 7 rfl) (Cells.box (id := 13) (hh.get 13 _ rfl) 1 rfl)⟩, ?_⟩, lc rfl rfl fun hs hh => stp_assign (sv hs 36 rfl)⟩, lc rfl rfl fun hs hh => stp_assign rfl⟩
                · refine le rfl rfl (fun g hΦ s h hs hh => (stpU_store (id := 1) (cs' := [.slice p6 ((x5.m.t.b).length) c8, .slice p10 ((x5.m.t.f).length) c12, .slice p14 ((x5.m.c.l).length) c16, .int .i64 x5.m.c.h, .int .i64 x5.m.g.c, .int .i64 x5.m.g.n, .int .i64 x5.m.g.r, .slice p18 ((x5.m.g.o).length) c20, .int .i64 x5.m.s, .slice p22 ((x5.k).length) c24, .int .i64 x35]) ts68 (sv hs 2 rfl) (sv hs 35 rfl) (hh.get 1 _ rfl) rfl rfl rfl rfl)) ?_
                  rintro g _ _ rfl
                  exact ⟨⟨[], [], []⟩, trivial, .inl rfl, rfl⟩
              · intro g hΦ
                refine KW.sub (s' := [(2, .pointer (some ⟨b2, 0, none⟩)), (3, .int .i64 v28), (4, .bool true)]) (h' := [(1, [(b2, .cells #[.slice p6 ((x5.m.t.b).length) c8, .slice p10 ((x5.m.t.f).length) c12, .slice p14 ((x5.m.c.l).length) c16, .int .i64 x5.m.c.h, .int .i64 x5.m.g.c, .int .i64 x5.m.g.n, .int .i64 x5.m.g.r, .slice p18 ((x5.m.g.o).length) c20, .int .i64 x5.m.s, .slice p22 ((x5.k).length) c24, .int .i64 x35] 68 (0, 0))]), (7, C9), (8, C13), (9, C17), (10, C21), (11, C30)]) ?_ ⟨rfl, rfl, rfl, trivial⟩ ⟨rfl, rfl, rfl, rfl, rfl, rfl, trivial⟩
                refine kw_nx (cw_ret (kw_bl_ret (kw_bl_ret (kw_nx_ret (kw_lq_ret (kw_bl_ret (kw_join_ret (kw_nx_ret ?_))))))))
                have q1 := Option.some.inj H1
                subst q1
                have q0 := Option.some.inj H0
                subst q0
                exact kw_ret Tryz.results49 (.cons (.cellN (us := [_, _, _, _, _, _, _, _, _, _, _]) ts68 rfl (Cells.box (id := 1) rfl 11 rfl)) (.cons (.tmp rfl) (.cons (.tmp rfl) .nil))) [(0, C9), (1, C13), (2, C17), (3, C21), (4, C30)] [7, 8, 9, 10, 11] ⟨7, [8, 9, 10, 11], rfl, rfl, 8, [9, 10, 11], rfl, rfl, 9, [10, 11], rfl, rfl, 10, [11], rfl, rfl, 11, [], rfl, rfl, trivial⟩ (by decide) ⟨p6, ((x5.m.t.b).length), c8, C9, p10, ((x5.m.t.f).length), c12, C13, p14, ((x5.m.c.l).length), c16, C17, p18, ((x5.m.g.o).length), c20, C21, p22, ((x5.k).length), c24, C30, rfl, rfl, rfl, o9, rfl, o13, rfl, o17, rfl, o21, (by simp [hl30]), o30⟩
      · have H1 := cond_f H1 h32
        refine cw_exit (kw_nx_exit (kw_lq_exit (kw_bl ?_)))
        have q1 := Option.some.inj H1
        subst q1
        exact kw_joinS (js := [1, 7, 8, 9, 10, 11, 12]) (v28, v29, v31, C30) ⟨rfl, (by simp [hl30]), o30⟩ ⟨rfl, rfl, rfl, rfl, rfl, trivial⟩ ⟨1, [7, 8, 9, 10, 11, 12], rfl, rfl, 7, [8, 9, 10, 11, 12], rfl, rfl, 8, [9, 10, 11, 12], rfl, rfl, 9, [10, 11, 12], rfl, rfl, 10, [11, 12], rfl, rfl, 11, [12], rfl, rfl, 12, [], rfl, rfl, trivial⟩ (by decide)
    · rintro ⟨v28, v29, v31, C30⟩ ⟨rfl, hl30, o30⟩
      refine KW.sub (s' := [(2, .pointer (some ⟨b2, 0, none⟩)), (5, .pointer (some ⟨b26, 0, none⟩)), (6, .int .i64 ((x5.k).length : Int)), (19, .int .i64 x27), (20, .int .i64 v31)]) (h' := [(1, [(b2, .cells #[.slice none 0 0, .slice none 0 0, .slice none 0 0, .int .i64 0, .int .i64 0, .int .i64 0, .int .i64 0, .slice none 0 0, .int .i64 0, .slice none 0 0, .int .i64 0] 68 (0, 0))]), (7, C9), (8, C13), (9, C17), (10, C21), (11, C30), (12, [(b26, .cells #[.slice p6 ((x5.m.t.b).length) c8, .slice p10 ((x5.m.t.f).length) c12, .slice p14 ((x5.m.c.l).length) c16, .int .i64 x5.m.c.h, .int .i64 x5.m.g.c, .int .i64 x5.m.g.n, .int .i64 x5.m.g.r, .slice p18 ((x5.m.g.o).length) c20, .int .i64 x5.m.s, .slice p22 ((x5.k).length) c24, .int .i64 v28] 68 (0, 0))])]) ?_ ⟨rfl, rfl, rfl, rfl, rfl, trivial⟩ ⟨rfl, rfl, rfl, rfl, rfl, rfl, rfl, trivial⟩
      refine kw_nx (sr (oD (stp_build (cs := #[.slice none 0 0, .slice none 0 0, .slice none 0 0, .int .i64 0, .int .i64 0, .int .i64 0, .int .i64 0, .slice none 0 0, .int .i64 0, .slice none 0 0, .int .i64 0]) sevp_nil bt68_18) rfl (oF (stpU_store (id := 1) (cs' := [.slice none 0 0, .slice none 0 0, .slice none 0 0, .int .i64 0, .int .i64 0, .int .i64 0, .int .i64 0, .slice none 0 0, .int .i64 0, .slice none 0 0, .int .i64 0]) ts68 rfl rfl rfl rfl rfl rfl rfl) ?_)))
      rintro _ _ rfl
      refine oD (sg rfl) rfl (oD (sg rfl) rfl (nn (cw_ret (kw_addNil 14 (kw_addNil 15 (kw_addNil 16 (kw_addNil 17 (kw_addNil 18 ?_))))))))
      have q0 := Option.some.inj H0
      subst q0
      exact kw_ret Tryz.results49 (.cons (.cellN (us := [_, _, _, _, _, _, _, _, _, _, _]) ts68 rfl (Cells.box (id := 1) rfl 11 rfl)) (.cons (.tmp rfl) (.cons (.tmp rfl) .nil))) [(0, []), (1, []), (2, []), (3, []), (4, [])] [14, 15, 16, 17, 18] ⟨14, [15, 16, 17, 18], rfl, rfl, 15, [16, 17, 18], rfl, rfl, 16, [17, 18], rfl, rfl, 17, [18], rfl, rfl, 18, [], rfl, rfl, trivial⟩ (by decide) ⟨none, 0, 0, [], none, 0, 0, [], none, 0, 0, [], none, 0, 0, [], none, 0, 0, [], rfl, rfl, rfl, (OwnC.nil _ _), rfl, (OwnC.nil _ _), rfl, (OwnC.nil _ _), rfl, (OwnC.nil _ _), rfl, (OwnC.nil _ _)⟩

set_option maxHeartbeats 4000000 in
set_option maxRecDepth 20000 in
theorem c_l_FnExactFrameVictim (fl : Nat) (w : World) (a0 : Mm) (p0_0 : Option Addr) (n0_0 c0_0 : Nat) (p0_1 : Option Addr) (n0_1 c0_1 : Nat) (p0_2 : Option Addr) (n0_2 c0_2 : Nat) (p0_3 : Option Addr) (n0_3 c0_3 : Nat) (p0_4 : Option Addr) (n0_4 c0_4 : Nat) (hn0_0 : n0_0 = (a0.m.t.b).length) (hr0_0 : RO w (hkeys []) (RdL p0_0 c0_0 a0.m.t.b)) (hn0_1 : n0_1 = (a0.m.t.f).length) (hr0_1 : RO w (hkeys []) (RdL p0_1 c0_1 a0.m.t.f)) (hn0_2 : n0_2 = (a0.m.c.l).length) (hr0_2 : RO w (hkeys []) (RdL p0_2 c0_2 a0.m.c.l)) (hn0_3 : n0_3 = (a0.m.g.o).length) (hr0_3 : RO w (hkeys []) (RdL p0_3 c0_3 a0.m.g.o)) (hn0_4 : n0_4 = (a0.k).length) (hr0_4 : RO w (hkeys []) (RdL p0_4 c0_4 a0.k)) (hg : RO w (hkeys []) (fun w' => w'.rangeAt 0 0 [.bool false, .int .i64 0, .int .i64 0, .int .i64 0, .int .i64 (-1)])) (r : Bool) (H0 : l_FnExactFrameVictim fl a0 = some r) :
    Ct Tryz.prog 13 [.agg #[.slice p0_0 n0_0 c0_0, .slice p0_1 n0_1 c0_1, .slice p0_2 n0_2 c0_2, .int .i64 a0.m.c.h, .int .i64 a0.m.g.c, .int .i64 a0.m.g.n, .int .i64 a0.m.g.r, .slice p0_3 n0_3 c0_3, .int .i64 a0.m.s, .slice p0_4 n0_4 c0_4, .int .i64 a0.h]] w [] (fun rv h' => rv = .bool r ∧ h' = []) := by
  obtain rfl := hn0_0
  obtain rfl := hn0_1
  obtain rfl := hn0_2
  obtain rfl := hn0_3
  obtain rfl := hn0_4
  unfold l_FnExactFrameVictim at H0
  refine ct_of_cw Tryz.func13 rfl Tryz.ntmps13 rfl (Sat.refl _ _) ?_
  refine sr (oE (stpU_box 0 rfl rfl) rfl ?_)
  rintro _ _ ⟨b1, rfl, rfl⟩
  obtain ⟨x2, e2, H0⟩ := bind_some H0
  refine oD (sg rfl) rfl (nn (sr (oD (sg rfl) rfl (nn (sr (oD (stp_loadN (us := [_, _, _, _, _, _, _, _, _, _, _]) ts83 rfl (Cells.box (id := 0) rfl 11 rfl)) rfl (oD (mv rfl) rfl (oE (stpU_call (fun i => 1 + i) cf44 (fun w hw => c_l_szMemory fl w a0 p0_0 ((a0.m.t.b).length) c0_0 p0_1 ((a0.m.t.f).length) c0_1 p0_2 ((a0.m.c.l).length) c0_2 p0_3 ((a0.m.g.o).length) c0_3 p0_4 ((a0.k).length) c0_4 1048576 rfl (RO.pass hr0_0 hw) rfl (RO.pass hr0_1 hw) rfl (RO.pass hr0_2 hw) rfl (RO.pass hr0_3 hw) rfl (RO.pass hr0_4 hw) x2 e2) (sevs_cons rfl (sevs_cons rfl sevs_nil))) rfl ?_))))))))
  rintro _ _ ⟨_, ⟨rfl, rfl⟩, rfl⟩
  refine oD (sg rfl) rfl (nn (cw_seq (sr (oD (mv rfl) rfl (oD (stp_lss rfl rfl) rfl (nn (cw_cond rfl (fun h3 => ?_) (fun h3 => ?_))))))))
  · have H0 := cond_t H0 h3
    refine sr (oD (sg rfl) rfl (nn (cw_ret (kw_nx_ret ?_))))
    have q0 := Option.some.inj H0
    subst q0
    exact kw_ret Tryz.results13 (.cons (.tmp rfl) .nil) [] [] trivial (by decide) ⟨rfl, rfl⟩
  · have H0 := cond_f H0 h3
    obtain ⟨x4, e4, H0⟩ := bind_some H0
    refine cw_skip (kw_nx (sr (oD (stp_loadN (us := [_, _, _, _, _, _, _, _, _, _, _]) ts83 rfl (Cells.box (id := 0) rfl 11 rfl)) rfl (oE (stpU_call (fun i => 1 + i) cf46 (fun w hw => c_l_toMemory fl w a0 p0_0 ((a0.m.t.b).length) c0_0 p0_1 ((a0.m.t.f).length) c0_1 p0_2 ((a0.m.c.l).length) c0_2 p0_3 ((a0.m.g.o).length) c0_3 p0_4 ((a0.k).length) c0_4 rfl (RO.pass hr0_0 hw) rfl (RO.pass hr0_1 hw) rfl (RO.pass hr0_2 hw) rfl (RO.pass hr0_3 hw) rfl (RO.pass hr0_4 hw) x4 e4) (sevs_cons rfl sevs_nil)) rfl ?_))))
    rintro _ _ ⟨_, ⟨p5, n6, c7, C8, p9, n10, c11, C12, p13, n14, c15, C16, p17, n18, c19, C20, p21, n22, c23, C24, rfl, rfl, hnn6, o8, hnn10, o12, hnn14, o16, hnn18, o20, hnn22, o24⟩, rfl⟩
    obtain rfl := hnn6
    obtain rfl := hnn10
    obtain rfl := hnn14
    obtain rfl := hnn18
    obtain rfl := hnn22
    obtain ⟨x25, e25, H0⟩ := bind_some H0
    refine oE (stpU_call (fun i => 6 + i) cf48 (fun w hw => c_s_FrameVictim fl w x4 p5 ((x4.m.t.b).length) c7 p9 ((x4.m.t.f).length) c11 p13 ((x4.m.c.l).length) c15 p17 ((x4.m.g.o).length) c19 p21 ((x4.k).length) c23 rfl (OwnC.pass (id := 1) rfl o8 hw) rfl (OwnC.pass (id := 2) rfl o12 hw) rfl (OwnC.pass (id := 3) rfl o16 hw) rfl (OwnC.pass (id := 4) rfl o20 hw) rfl (OwnC.pass (id := 5) rfl o24 hw) x25 e25) (sevs_cons rfl sevs_nil)) rfl ?_
    rintro _ _ ⟨_, ⟨p26, n27, c28, C29, p30, n31, c32, C33, p34, n35, c36, C37, p38, n39, c40, C41, p42, n43, c44, C45, rfl, rfl, hnn27, o29, hnn31, o33, hnn35, o37, hnn39, o41, hnn43, o45⟩, rfl⟩
    obtain rfl := hnn27
    obtain rfl := hnn31
    obtain rfl := hnn35
    obtain rfl := hnn39
    obtain rfl := hnn43
    refine oD (mv rfl) rfl (oD (stp_extract rfl rfl) rfl (oD (stp_extract rfl rfl) rfl (oD (stp_extract rfl rfl) rfl (oE (stpU_alloc 11 tz68 rfl) rfl ?_))))
    rintro _ _ ⟨b46, rfl, rfl⟩
    refine oF (stpU_store (id := 11) (cs' := [.slice p26 ((x25.1.m.t.b).length) c28, .slice p30 ((x25.1.m.t.f).length) c32, .slice p34 ((x25.1.m.c.l).length) c36, .int .i64 x25.1.m.c.h, .int .i64 x25.1.m.g.c, .int .i64 x25.1.m.g.n, .int .i64 x25.1.m.g.r, .slice p38 ((x25.1.m.g.o).length) c40, .int .i64 x25.1.m.s, .slice p42 ((x25.1.k).length) c44, .int .i64 x25.1.h]) ts68 rfl rfl rfl rfl rfl rfl rfl) ?_
    rintro _ _ rfl
    obtain ⟨x47, e47, H0⟩ := bind_some H0
    refine oD (sg rfl) rfl (oD (sg rfl) rfl (nn (sr (oD (stp_loadN (us := [_, _, _, _, _, _, _, _, _, _, _]) ts83 rfl (Cells.box (id := 0) rfl 11 rfl)) rfl (oE (stpU_call (fun i => 12 + i) cf46 (fun w hw => c_l_toMemory fl w a0 p0_0 ((a0.m.t.b).length) c0_0 p0_1 ((a0.m.t.f).length) c0_1 p0_2 ((a0.m.c.l).length) c0_2 p0_3 ((a0.m.g.o).length) c0_3 p0_4 ((a0.k).length) c0_4 rfl (RO.pass hr0_0 hw) rfl (RO.pass hr0_1 hw) rfl (RO.pass hr0_2 hw) rfl (RO.pass hr0_3 hw) rfl (RO.pass hr0_4 hw) x47 e47) (sevs_cons rfl sevs_nil)) rfl ?_)))))
    rintro _ _ ⟨_, ⟨p48, n49, c50, C51, p52, n53, c54, C55, p56, n57, c58, C59, p60, n61, c62, C63, p64, n65, c66, C67, rfl, rfl, hnn49, o51, hnn53, o55, hnn57, o59, hnn61, o63, hnn65, o67⟩, rfl⟩
    obtain rfl := hnn49
    obtain rfl := hnn53
    obtain rfl := hnn57
    obtain rfl := hnn61
    obtain rfl := hnn65
    refine oE (stpU_alloc 17 tz68 rfl) rfl ?_
    rintro _ _ ⟨b68, rfl, rfl⟩
    refine oF (stpU_store (id := 17) (cs' := [.slice p48 ((x47.m.t.b).length) c50, .slice p52 ((x47.m.t.f).length) c54, .slice p56 ((x47.m.c.l).length) c58, .int .i64 x47.m.c.h, .int .i64 x47.m.g.c, .int .i64 x47.m.g.n, .int .i64 x47.m.g.r, .slice p60 ((x47.m.g.o).length) c62, .int .i64 x47.m.s, .slice p64 ((x47.k).length) c66, .int .i64 x47.h]) ts68 rfl rfl rfl rfl rfl rfl rfl) ?_
    rintro _ _ rfl
    obtain ⟨x69, e69, H0⟩ := bind_some H0
    refine nn (sr (oD (stp_loadN (us := [_, _, _, _, _, _, _, _, _, _, _]) ts68 rfl (Cells.box (id := 17) rfl 11 rfl)) rfl (oE (stpU_call (fun i => 18 + i) cf49 (fun w hw => c_i_FrameVictim fl w x47 p48 ((x47.m.t.b).length) c50 p52 ((x47.m.t.f).length) c54 p56 ((x47.m.c.l).length) c58 p60 ((x47.m.g.o).length) c62 p64 ((x47.k).length) c66 rfl (OwnC.pass (id := 12) rfl o51 hw) rfl (OwnC.pass (id := 13) rfl o55 hw) rfl (OwnC.pass (id := 14) rfl o59 hw) rfl (OwnC.pass (id := 15) rfl o63 hw) rfl (OwnC.pass (id := 16) rfl o67 hw) (RO.pass hg hw) x69 e69) (sevs_cons rfl sevs_nil)) rfl ?_)))
    rintro _ _ ⟨_, ⟨p70, n71, c72, C73, p74, n75, c76, C77, p78, n79, c80, C81, p82, n83, c84, C85, p86, n87, c88, C89, rfl, rfl, hnn71, o73, hnn75, o77, hnn79, o81, hnn83, o85, hnn87, o89⟩, rfl⟩
    obtain rfl := hnn71
    obtain rfl := hnn75
    obtain rfl := hnn79
    obtain rfl := hnn83
    obtain rfl := hnn87
    refine oD (mv rfl) rfl (oD (stp_extract rfl rfl) rfl (oD (stp_extract rfl rfl) rfl (oD (stp_extract rfl rfl) rfl (oE (stpU_alloc 23 tz68 rfl) rfl ?_))))
    rintro _ _ ⟨b90, rfl, rfl⟩
    refine oF (stpU_store (id := 23) (cs' := [.slice p70 ((x69.1.m.t.b).length) c72, .slice p74 ((x69.1.m.t.f).length) c76, .slice p78 ((x69.1.m.c.l).length) c80, .int .i64 x69.1.m.c.h, .int .i64 x69.1.m.g.c, .int .i64 x69.1.m.g.n, .int .i64 x69.1.m.g.r, .slice p82 ((x69.1.m.g.o).length) c84, .int .i64 x69.1.m.s, .slice p86 ((x69.1.k).length) c88, .int .i64 x69.1.h]) ts68 rfl rfl rfl rfl rfl rfl rfl) ?_
    rintro _ _ rfl
    obtain ⟨x91, e91, H0⟩ := bind_some H0
    refine oD (sg rfl) rfl (oD (sg rfl) rfl (nn (cw_seq (sr (oD (stp_loadN (us := [_, _, _, _, _, _, _, _, _, _, _]) ts68 rfl (Cells.box (id := 23) rfl 11 rfl)) rfl (oD (stp_loadN (us := [_, _, _, _, _, _, _, _, _, _, _]) ts68 rfl (Cells.box (id := 11) rfl 11 rfl)) rfl (oE (stpU_call (fun i => 24 + i) cf41 (fun w hw => c_l_eqMemory fl w x69.1 p70 ((x69.1.m.t.b).length) c72 p74 ((x69.1.m.t.f).length) c76 p78 ((x69.1.m.c.l).length) c80 p82 ((x69.1.m.g.o).length) c84 p86 ((x69.1.k).length) c88 x25.1 p26 ((x25.1.m.t.b).length) c28 p30 ((x25.1.m.t.f).length) c32 p34 ((x25.1.m.c.l).length) c36 p38 ((x25.1.m.g.o).length) c40 p42 ((x25.1.k).length) c44 rfl (OwnC.pass (id := 18) rfl o73 hw) rfl (OwnC.pass (id := 19) rfl o77 hw) rfl (OwnC.pass (id := 20) rfl o81 hw) rfl (OwnC.pass (id := 21) rfl o85 hw) rfl (OwnC.pass (id := 22) rfl o89 hw) rfl (OwnC.pass (id := 6) rfl o29 hw) rfl (OwnC.pass (id := 7) rfl o33 hw) rfl (OwnC.pass (id := 8) rfl o37 hw) rfl (OwnC.pass (id := 9) rfl o41 hw) rfl (OwnC.pass (id := 10) rfl o45 hw) x91 e91) (sevs_cons rfl (sevs_cons rfl sevs_nil))) rfl ?_)))))))
    rintro _ _ ⟨_, ⟨rfl, rfl⟩, rfl⟩
    obtain ⟨y92, ey92, H0⟩ := bind_some H0
    refine oD (stp_not rfl) rfl (oD (mv rfl) rfl (ow_cutY 4 45 y92 ?_ ?_))
    · rcases Bool.eq_false_or_eq_true (!x91) with hy92 | hy92
      · have ey92 := cond_t ey92 hy92
        refine oO rfl hy92 rfl (oO rfl hy92 rfl (oO rfl hy92 rfl (oD (stp_pick_t rfl hy92 rfl) rfl ?_)))
        obtain rfl := Option.some.inj ey92
        exact ow_nil (jy 4 0)
      · have ey92 := cond_f ey92 hy92
        refine oG rfl hy92 (mv rfl) rfl (oG rfl hy92 (mv rfl) rfl (oG rfl hy92 (stp_neq rfl rfl) rfl (oD (stp_pick_f rfl hy92 rfl) rfl ?_)))
        obtain rfl := Option.some.inj ey92
        exact ow_nil (jy 4 0)
    · obtain ⟨y93, ey93, H0⟩ := bind_some H0
      refine oD (mv rfl) rfl (ow_cutY 4 50 y93 ?_ ?_)
      · rcases Bool.eq_false_or_eq_true y92 with hy93 | hy93
        · have ey93 := cond_t ey93 hy93
          refine oO rfl hy93 rfl (oO rfl hy93 rfl (oO rfl hy93 rfl (oD (stp_pick_t rfl hy93 rfl) rfl ?_)))
          obtain rfl := Option.some.inj ey93
          exact ow_nil (jy 4 0)
        · have ey93 := cond_f ey93 hy93
          refine oG rfl hy93 (mv rfl) rfl (oG rfl hy93 (mv rfl) rfl (oG rfl hy93 (stp_neqB Tryz.underlying4 rfl rfl) rfl (oD (stp_pick_f rfl hy93 rfl) rfl ?_)))
          obtain rfl := Option.some.inj ey93
          exact ow_nil (jy 4 0)
      · refine ow_nil (kw_nx (cw_cond rfl (fun h94 => ?_) (fun h94 => ?_)))
        · have H0 := cond_t H0 h94
          refine sr (oD (sg rfl) rfl (nn (cw_ret (kw_nx_ret ?_))))
          have q0 := Option.some.inj H0
          subst q0
          exact kw_ret Tryz.results13 (.cons (.tmp rfl) .nil) [] [] trivial (by decide) ⟨rfl, rfl⟩
        · have H0 := cond_f H0 h94
          obtain ⟨x95, e95, H0⟩ := bind_some H0
          obtain ⟨x116, e116, H0⟩ := bind_some H0
          refine cw_skip (kw_nx (cw_seq (cw_seq (rdr g_mixed [1, 7] [0, 12, 13, 14, 15, 16, 17] { dst := dS [52, 53, 54, 55, 56], pre := gA [] [[], [], [1], [0, 1, 2], rn 0 4], ids := gA [] [[], [], [24, 25, 26, 27, 28]], rs := rL [[(7, 0)], [(1, 0)], [(52, 2)], [(51, 1), (53, 3)], [(54, 4)]], rh := rL [[(17, 0)], [(0, 0)], [], [(12, 0), (13, 0), (14, 0), (15, 0), (16, 0), (24, 3), (25, 3), (26, 3), (27, 3), (28, 3)]], V := fun i g => gA undef [.agg #[.slice p48 ((x47.m.t.b).length) c50, .slice p52 ((x47.m.t.f).length) c54, .slice p56 ((x47.m.c.l).length) c58, .int .i64 x47.m.c.h, .int .i64 x47.m.g.c, .int .i64 x47.m.g.n, .int .i64 x47.m.g.r, .slice p60 ((x47.m.g.o).length) c62, .int .i64 x47.m.s, .slice p64 ((x47.k).length) c66, .int .i64 x47.h], .agg #[.slice p0_0 ((a0.m.t.b).length) c0_0, .slice p0_1 ((a0.m.t.f).length) c0_1, .slice p0_2 ((a0.m.c.l).length) c0_2, .int .i64 a0.m.c.h, .int .i64 a0.m.g.c, .int .i64 a0.m.g.n, .int .i64 a0.m.g.r, .slice p0_3 ((a0.m.g.o).length) c0_3, .int .i64 a0.m.s, .slice p0_4 ((a0.k).length) c0_4, .int .i64 a0.h], .agg #[.slice ((g 2).A 0) ((x95.m.t.b).length) ((g 2).C 0), .slice ((g 2).A 1) ((x95.m.t.f).length) ((g 2).C 1), .slice ((g 2).A 2) ((x95.m.c.l).length) ((g 2).C 2), .int .i64 x95.m.c.h, .int .i64 x95.m.g.c, .int .i64 x95.m.g.n, .int .i64 x95.m.g.r, .slice ((g 2).A 3) ((x95.m.g.o).length) ((g 2).C 3), .int .i64 x95.m.s, .slice ((g 2).A 4) ((x95.k).length) ((g 2).C 4), .int .i64 x95.h], .bool x116, .bool (!x116)] i, U := fun i g => gA [] [[], [], [(24, ((g 2).R 0)), (25, ((g 2).R 1)), (26, ((g 2).R 2)), (27, ((g 2).R 3)), (28, ((g 2).R 4))]] i, Φ := fun i x => gA True [True, True, OwnC (α := Int) 3 (x.A 0) (x.C 0) x95.m.t.b (x.R 0) ∧ OwnC (α := F) 127 (x.A 1) (x.C 1) x95.m.t.f (x.R 1) ∧ OwnC (α := Ln) 112 (x.A 2) (x.C 2) x95.m.c.l (x.R 2) ∧ OwnC (α := Ow) 148 (x.A 3) (x.C 3) x95.m.g.o (x.R 3) ∧ OwnC (α := Bool) 4 (x.A 4) (x.C 4) x95.k (x.R 4)] i } ?_ ?_))))
          · refine ⟨⟨⟨⟨⟨trivial, lc rfl rfl fun hs hh => stp_loadN (us := [_, _, _, _, _, _, _, _, _, _, _]) ts68 (sv hs 7 rfl) (Cells.box (id := 17) (hh.get 17 _ rfl) 11 rfl)⟩, lc rfl rfl fun hs hh => stp_loadN (us := [_, _, _, _, _, _, _, _, _, _, _]) ts83 (sv hs 1 rfl) (Cells.box (id := 0) (hh.get 0 _ rfl) 11 rfl)⟩, ?_⟩, ?_⟩, lc rfl rfl fun hs hh => stp_not (sv hs 54 rfl)⟩
            · refine le rfl rfl (fun g hΦ s h hs hh => (stpU_call (fun i => 24 + i) cf46 (fun w hw => c_l_toMemory fl w a0 p0_0 ((a0.m.t.b).length) c0_0 p0_1 ((a0.m.t.f).length) c0_1 p0_2 ((a0.m.c.l).length) c0_2 p0_3 ((a0.m.g.o).length) c0_3 p0_4 ((a0.k).length) c0_4 rfl (RO.pass hr0_0 hw) rfl (RO.pass hr0_1 hw) rfl (RO.pass hr0_2 hw) rfl (RO.pass hr0_3 hw) rfl (RO.pass hr0_4 hw) x95 e95) (sevs_cons (sv hs 52 rfl) sevs_nil))) ?_
              rintro g _ _ ⟨_, ⟨p96, n97, c98, C99, p100, n101, c102, C103, p104, n105, c106, C107, p108, n109, c110, C111, p112, n113, c114, C115, rfl, rfl, hnn97, o99, hnn101, o103, hnn105, o107, hnn109, o111, hnn113, o115⟩, rfl⟩
              obtain rfl := hnn97
              obtain rfl := hnn101
              obtain rfl := hnn105
              obtain rfl := hnn109
              obtain rfl := hnn113
              exact ⟨⟨[p96, p100, p104, p108, p112], [c98, c102, c106, c110, c114], [C99, C103, C107, C111, C115]⟩, ⟨o99, o103, o107, o111, o115⟩, .inr rfl, rfl⟩
            · refine le rfl rfl (fun g hΦ s h hs hh => (stpU_call (fun i => 29 + i) cf41 (fun w hw => c_l_eqMemory fl w x47 p48 ((x47.m.t.b).length) c50 p52 ((x47.m.t.f).length) c54 p56 ((x47.m.c.l).length) c58 p60 ((x47.m.g.o).length) c62 p64 ((x47.k).length) c66 x95 ((g 2).A 0) ((x95.m.t.b).length) ((g 2).C 0) ((g 2).A 1) ((x95.m.t.f).length) ((g 2).C 1) ((g 2).A 2) ((x95.m.c.l).length) ((g 2).C 2) ((g 2).A 3) ((x95.m.g.o).length) ((g 2).C 3) ((g 2).A 4) ((x95.k).length) ((g 2).C 4) rfl (OwnC.pass (id := 12) (hh.get 12 _ rfl) o51 hw) rfl (OwnC.pass (id := 13) (hh.get 13 _ rfl) o55 hw) rfl (OwnC.pass (id := 14) (hh.get 14 _ rfl) o59 hw) rfl (OwnC.pass (id := 15) (hh.get 15 _ rfl) o63 hw) rfl (OwnC.pass (id := 16) (hh.get 16 _ rfl) o67 hw) rfl (OwnC.pass (id := 24) (hh.get 24 _ rfl) (hΦ 2 rfl).1 hw) rfl (OwnC.pass (id := 25) (hh.get 25 _ rfl) (hΦ 2 rfl).2.1 hw) rfl (OwnC.pass (id := 26) (hh.get 26 _ rfl) (hΦ 2 rfl).2.2.1 hw) rfl (OwnC.pass (id := 27) (hh.get 27 _ rfl) (hΦ 2 rfl).2.2.2.1 hw) rfl (OwnC.pass (id := 28) (hh.get 28 _ rfl) (hΦ 2 rfl).2.2.2.2 hw) x116 e116) (sevs_cons (sv hs 51 rfl) (sevs_cons (sv hs 53 rfl) sevs_nil)))) ?_
              rintro g _ _ ⟨_, ⟨rfl, rfl⟩, rfl⟩
              exact ⟨⟨[], [], []⟩, trivial, .inr rfl, rfl⟩
          · intro g hΦ
            refine kw_gen (ι := Option Addr × Option Addr × Option Addr × Option Addr × Option Addr × Nat × Nat × Nat × Nat × Nat × Res × Res × Res × Res × Res) (((g 2).A 0), ((g 2).A 1), ((g 2).A 2), ((g 2).A 3), ((g 2).A 4), ((g 2).C 0), ((g 2).C 1), ((g 2).C 2), ((g 2).C 3), ((g 2).C 4), ((g 2).R 0), ((g 2).R 1), ((g 2).R 2), ((g 2).R 3), ((g 2).R 4)) (fun | (p96, p100, p104, p108, p112, c98, c102, c106, c110, c114, C99, C103, C107, C111, C115) => OwnC (α := Int) 3 p96 c98 x95.m.t.b C99 ∧ OwnC (α := F) 127 p100 c102 x95.m.t.f C103 ∧ OwnC (α := Ln) 112 p104 c106 x95.m.c.l C107 ∧ OwnC (α := Ow) 148 p108 c110 x95.m.g.o C111 ∧ OwnC (α := Bool) 4 p112 c114 x95.k C115) (fun | (p96, p100, p104, p108, p112, c98, c102, c106, c110, c114, C99, C103, C107, C111, C115) => [(1, .pointer (some ⟨b1, 0, none⟩)), (4, .pointer (some ⟨b46, 0, none⟩)), (5, .int .i64 x25.2.1), (6, .bool x25.2.2), (7, .pointer (some ⟨b68, 0, none⟩)), (8, .pointer (some ⟨b90, 0, none⟩)), (9, .int .i64 x69.2.1), (10, .bool x69.2.2), (55, .bool (!x116))]) (fun | (p96, p100, p104, p108, p112, c98, c102, c106, c110, c114, C99, C103, C107, C111, C115) => [(0, [(b1, .cells #[.slice p0_0 ((a0.m.t.b).length) c0_0, .slice p0_1 ((a0.m.t.f).length) c0_1, .slice p0_2 ((a0.m.c.l).length) c0_2, .int .i64 a0.m.c.h, .int .i64 a0.m.g.c, .int .i64 a0.m.g.n, .int .i64 a0.m.g.r, .slice p0_3 ((a0.m.g.o).length) c0_3, .int .i64 a0.m.s, .slice p0_4 ((a0.k).length) c0_4, .int .i64 a0.h] 83 (0, 0))]), (6, C29), (7, C33), (8, C37), (9, C41), (10, C45), (11, [(b46, .cells #[.slice p26 ((x25.1.m.t.b).length) c28, .slice p30 ((x25.1.m.t.f).length) c32, .slice p34 ((x25.1.m.c.l).length) c36, .int .i64 x25.1.m.c.h, .int .i64 x25.1.m.g.c, .int .i64 x25.1.m.g.n, .int .i64 x25.1.m.g.r, .slice p38 ((x25.1.m.g.o).length) c40, .int .i64 x25.1.m.s, .slice p42 ((x25.1.k).length) c44, .int .i64 x25.1.h] 68 (0, 0))]), (12, C51), (13, C55), (14, C59), (15, C63), (16, C67), (17, [(b68, .cells #[.slice p48 ((x47.m.t.b).length) c50, .slice p52 ((x47.m.t.f).length) c54, .slice p56 ((x47.m.c.l).length) c58, .int .i64 x47.m.c.h, .int .i64 x47.m.g.c, .int .i64 x47.m.g.n, .int .i64 x47.m.g.r, .slice p60 ((x47.m.g.o).length) c62, .int .i64 x47.m.s, .slice p64 ((x47.k).length) c66, .int .i64 x47.h] 68 (0, 0))]), (18, C73), (19, C77), (20, C81), (21, C85), (22, C89), (23, [(b90, .cells #[.slice p70 ((x69.1.m.t.b).length) c72, .slice p74 ((x69.1.m.t.f).length) c76, .slice p78 ((x69.1.m.c.l).length) c80, .int .i64 x69.1.m.c.h, .int .i64 x69.1.m.g.c, .int .i64 x69.1.m.g.n, .int .i64 x69.1.m.g.r, .slice p82 ((x69.1.m.g.o).length) c84, .int .i64 x69.1.m.s, .slice p86 ((x69.1.k).length) c88, .int .i64 x69.1.h] 68 (0, 0))])]) ⟨(hΦ 2 (by decide)).1, (hΦ 2 (by decide)).2.1, (hΦ 2 (by decide)).2.2.1, (hΦ 2 (by decide)).2.2.2.1, (hΦ 2 (by decide)).2.2.2.2⟩ ⟨rfl, rfl, rfl, rfl, rfl, rfl, rfl, rfl, rfl, trivial⟩ ⟨rfl, rfl, rfl, rfl, rfl, rfl, rfl, rfl, rfl, rfl, rfl, rfl, rfl, rfl, rfl, rfl, rfl, rfl, rfl, trivial⟩ ?_
            rintro ⟨p96, p100, p104, p108, p112, c98, c102, c106, c110, c114, C99, C103, C107, C111, C115⟩ ⟨o99, o103, o107, o111, o115⟩
            refine KW.sub (s' := [(1, .pointer (some ⟨b1, 0, none⟩)), (4, .pointer (some ⟨b46, 0, none⟩)), (5, .int .i64 x25.2.1), (6, .bool x25.2.2), (7, .pointer (some ⟨b68, 0, none⟩)), (8, .pointer (some ⟨b90, 0, none⟩)), (9, .int .i64 x69.2.1), (10, .bool x69.2.2), (55, .bool (!x116))]) (h' := [(0, [(b1, .cells #[.slice p0_0 ((a0.m.t.b).length) c0_0, .slice p0_1 ((a0.m.t.f).length) c0_1, .slice p0_2 ((a0.m.c.l).length) c0_2, .int .i64 a0.m.c.h, .int .i64 a0.m.g.c, .int .i64 a0.m.g.n, .int .i64 a0.m.g.r, .slice p0_3 ((a0.m.g.o).length) c0_3, .int .i64 a0.m.s, .slice p0_4 ((a0.k).length) c0_4, .int .i64 a0.h] 83 (0, 0))]), (6, C29), (7, C33), (8, C37), (9, C41), (10, C45), (11, [(b46, .cells #[.slice p26 ((x25.1.m.t.b).length) c28, .slice p30 ((x25.1.m.t.f).length) c32, .slice p34 ((x25.1.m.c.l).length) c36, .int .i64 x25.1.m.c.h, .int .i64 x25.1.m.g.c, .int .i64 x25.1.m.g.n, .int .i64 x25.1.m.g.r, .slice p38 ((x25.1.m.g.o).length) c40, .int .i64 x25.1.m.s, .slice p42 ((x25.1.k).length) c44, .int .i64 x25.1.h] 68 (0, 0))]), (12, C51), (13, C55), (14, C59), (15, C63), (16, C67), (17, [(b68, .cells #[.slice p48 ((x47.m.t.b).length) c50, .slice p52 ((x47.m.t.f).length) c54, .slice p56 ((x47.m.c.l).length) c58, .int .i64 x47.m.c.h, .int .i64 x47.m.g.c, .int .i64 x47.m.g.n, .int .i64 x47.m.g.r, .slice p60 ((x47.m.g.o).length) c62, .int .i64 x47.m.s, .slice p64 ((x47.k).length) c66, .int .i64 x47.h] 68 (0, 0))]), (18, C73), (19, C77), (20, C81), (21, C85), (22, C89), (23, [(b90, .cells #[.slice p70 ((x69.1.m.t.b).length) c72, .slice p74 ((x69.1.m.t.f).length) c76, .slice p78 ((x69.1.m.c.l).length) c80, .int .i64 x69.1.m.c.h, .int .i64 x69.1.m.g.c, .int .i64 x69.1.m.g.n, .int .i64 x69.1.m.g.r, .slice p82 ((x69.1.m.g.o).length) c84, .int .i64 x69.1.m.s, .slice p86 ((x69.1.k).length) c88, .int .i64 x69.1.h] 68 (0, 0))])]) ?_ ⟨rfl, rfl, rfl, rfl, rfl, rfl, rfl, rfl, rfl, trivial⟩ ⟨rfl, rfl, rfl, rfl, rfl, rfl, rfl, rfl, rfl, rfl, rfl, rfl, rfl, rfl, rfl, rfl, rfl, rfl, rfl, trivial⟩
            refine kw_nx (cw_cond rfl (fun h117 => ?_) (fun h117 => ?_))
            · have H0 := cond_t H0 h117
              refine sr (oD (sg rfl) rfl (nn (cw_ret (kw_nx_ret ?_))))
              have q0 := Option.some.inj H0
              subst q0
              exact kw_ret Tryz.results13 (.cons (.tmp rfl) .nil) [] [] trivial (by decide) ⟨rfl, rfl⟩
            · have H0 := cond_f H0 h117
              obtain ⟨x118, e118, H0⟩ := bind_some H0
              refine cw_skip (kw_nx (sr (oD (sg rfl) rfl (nn (sr (oD (stp_loadN (us := [_, _, _, _, _, _, _, _, _, _, _]) ts68 rfl (Cells.box (id := 17) rfl 11 rfl)) rfl (oD (mv rfl) rfl (oE (stpU_callM (fun i => bif Nat.beq i 0 then 12 else bif Nat.beq i 1 then 13 else bif Nat.beq i 2 then 14 else bif Nat.beq i 3 then 15 else bif Nat.beq i 4 then 16 else 29 + i) cf42 (fun w hw hb => c_l_markMemory fl w x47 p48 ((x47.m.t.b).length) c50 C51 p52 ((x47.m.t.f).length) c54 C55 p56 ((x47.m.c.l).length) c58 C59 p60 ((x47.m.g.o).length) c62 C63 p64 ((x47.k).length) c66 C67 1 rfl o51 rfl o55 rfl o59 rfl o63 rfl o67 (hw.pass (js := [12, 13, 14, 15, 16]) ⟨12, [13, 14, 15, 16], rfl, rfl, 13, [14, 15, 16], rfl, rfl, 14, [15, 16], rfl, rfl, 15, [16], rfl, rfl, 16, [], rfl, rfl, trivial⟩ (by decide)) x118 e118) (sevs_cons rfl (sevs_cons rfl sevs_nil)) ⟨rfl, (fun _ _ hp => by obtain ⟨_, _, _, _, _, _, rfl, _⟩ := hp; exact ⟨_, rfl⟩), rfl, (fun _ _ hp => by obtain ⟨_, _, _, _, _, _, rfl, _⟩ := hp; exact ⟨_, rfl⟩), rfl, (fun _ _ hp => by obtain ⟨_, _, _, _, _, _, rfl, _⟩ := hp; exact ⟨_, rfl⟩), rfl, (fun _ _ hp => by obtain ⟨_, _, _, _, _, _, rfl, _⟩ := hp; exact ⟨_, rfl⟩), rfl, (fun _ _ hp => by obtain ⟨_, _, _, _, _, _, rfl, _⟩ := hp; exact ⟨_, rfl⟩), trivial⟩) rfl ?_))))))))
              rintro _ _ ⟨_, ⟨C119, C120, C121, C122, C123, rfl, rfl, hl119, o119, hl120, o120, hl121, o121, hl122, o122, hl123, o123⟩, rfl⟩
              obtain ⟨y124, ey124, H0⟩ := bind_some H0
              refine oD (sg rfl) rfl (nn (cw_seq (sr (oD (mv rfl) rfl (oD (stp_lss rfl rfl) rfl (oD (mv rfl) rfl (ow_cutY 5 66 y124 ?_ ?_)))))))
              · rcases Bool.eq_false_or_eq_true (decide (x118.1 < 0)) with hy124 | hy124
                · have ey124 := cond_t ey124 hy124
                  refine oO rfl hy124 rfl (oO rfl hy124 rfl (oO rfl hy124 rfl (oO rfl hy124 rfl (oD (stp_pick_t rfl hy124 rfl) rfl ?_))))
                  obtain rfl := Option.some.inj ey124
                  exact ow_nil (jy 5 0)
                · have ey124 := cond_f ey124 hy124
                  refine oG rfl hy124 (stp_loadN (us := [_, _, _, _, _, _, _, _, _, _, _]) ts68 rfl (Cells.box (id := 23) rfl 11 rfl)) rfl (oG rfl hy124 (stp_loadN (us := [_, _, _, _, _, _, _, _, _, _, _]) ts68 rfl (Cells.box (id := 11) rfl 11 rfl)) rfl (ow_eff (.some rfl hy124) (stpU_call (fun i => 34 + i) cf41 (fun w hw => c_l_eqMemory fl w x69.1 p70 ((x69.1.m.t.b).length) c72 p74 ((x69.1.m.t.f).length) c76 p78 ((x69.1.m.c.l).length) c80 p82 ((x69.1.m.g.o).length) c84 p86 ((x69.1.k).length) c88 x25.1 p26 ((x25.1.m.t.b).length) c28 p30 ((x25.1.m.t.f).length) c32 p34 ((x25.1.m.c.l).length) c36 p38 ((x25.1.m.g.o).length) c40 p42 ((x25.1.k).length) c44 rfl (OwnC.pass (id := 18) rfl o73 hw) rfl (OwnC.pass (id := 19) rfl o77 hw) rfl (OwnC.pass (id := 20) rfl o81 hw) rfl (OwnC.pass (id := 21) rfl o85 hw) rfl (OwnC.pass (id := 22) rfl o89 hw) rfl (OwnC.pass (id := 6) rfl o29 hw) rfl (OwnC.pass (id := 7) rfl o33 hw) rfl (OwnC.pass (id := 8) rfl o37 hw) rfl (OwnC.pass (id := 9) rfl o41 hw) rfl (OwnC.pass (id := 10) rfl o45 hw) x91 e91) (sevs_cons rfl (sevs_cons rfl sevs_nil))) rfl ?_))
                  rintro _ _ ⟨_, ⟨rfl, rfl⟩, rfl⟩
                  refine oG rfl hy124 (stp_not rfl) rfl (oD (stp_pick_f rfl hy124 rfl) rfl ?_)
                  obtain rfl := Option.some.inj ey124
                  exact ow_nil (jy 5 0)
              · obtain ⟨y125, ey125, H0⟩ := bind_some H0
                refine oD (mv rfl) rfl (ow_cutY 4 71 y125 ?_ ?_)
                · rcases Bool.eq_false_or_eq_true y124 with hy125 | hy125
                  · have ey125 := cond_t ey125 hy125
                    refine oO rfl hy125 rfl (oO rfl hy125 rfl (oO rfl hy125 rfl (oD (stp_pick_t rfl hy125 rfl) rfl ?_)))
                    obtain rfl := Option.some.inj ey125
                    exact ow_nil (jy 4 0)
                  · have ey125 := cond_f ey125 hy125
                    refine oG rfl hy125 (mv rfl) rfl (oG rfl hy125 (mv rfl) rfl (oG rfl hy125 (stp_neq rfl rfl) rfl (oD (stp_pick_f rfl hy125 rfl) rfl ?_)))
                    obtain rfl := Option.some.inj ey125
                    exact ow_nil (jy 4 0)
                · obtain ⟨y126, ey126, H0⟩ := bind_some H0
                  refine oD (mv rfl) rfl (ow_cutY 4 76 y126 ?_ ?_)
                  · rcases Bool.eq_false_or_eq_true y125 with hy126 | hy126
                    · have ey126 := cond_t ey126 hy126
                      refine oO rfl hy126 rfl (oO rfl hy126 rfl (oO rfl hy126 rfl (oD (stp_pick_t rfl hy126 rfl) rfl ?_)))
                      obtain rfl := Option.some.inj ey126
                      exact ow_nil (jy 4 0)
                    · have ey126 := cond_f ey126 hy126
                      refine oG rfl hy126 (mv rfl) rfl (oG rfl hy126 (mv rfl) rfl (oG rfl hy126 (stp_neqB Tryz.underlying4 rfl rfl) rfl (oD (stp_pick_f rfl hy126 rfl) rfl ?_)))
                      obtain rfl := Option.some.inj ey126
                      exact ow_nil (jy 4 0)
                  · refine ow_nil (kw_nx (cw_cond rfl (fun h127 => ?_) (fun h127 => ?_)))
                    · have H0 := cond_t H0 h127
                      refine sr (oD (sg rfl) rfl (nn (cw_ret (kw_nx_ret ?_))))
                      have q0 := Option.some.inj H0
                      subst q0
                      exact kw_ret Tryz.results13 (.cons (.tmp rfl) .nil) [] [] trivial (by decide) ⟨rfl, rfl⟩
                    · have H0 := cond_f H0 h127
                      obtain ⟨x128, e128, H0⟩ := bind_some H0
                      refine cw_skip (kw_nx (sr (oD (sg rfl) rfl (nn (sr (oD (stp_loadN (us := [_, _, _, _, _, _, _, _, _, _, _]) ts68 rfl (Cells.box (id := 23) rfl 11 rfl)) rfl (oD (mv rfl) rfl (oE (stpU_callM (fun i => bif Nat.beq i 0 then 18 else bif Nat.beq i 1 then 19 else bif Nat.beq i 2 then 20 else bif Nat.beq i 3 then 21 else bif Nat.beq i 4 then 22 else 34 + i) cf42 (fun w hw hb => c_l_markMemory fl w x69.1 p70 ((x69.1.m.t.b).length) c72 C73 p74 ((x69.1.m.t.f).length) c76 C77 p78 ((x69.1.m.c.l).length) c80 C81 p82 ((x69.1.m.g.o).length) c84 C85 p86 ((x69.1.k).length) c88 C89 1 rfl o73 rfl o77 rfl o81 rfl o85 rfl o89 (hw.pass (js := [18, 19, 20, 21, 22]) ⟨18, [19, 20, 21, 22], rfl, rfl, 19, [20, 21, 22], rfl, rfl, 20, [21, 22], rfl, rfl, 21, [22], rfl, rfl, 22, [], rfl, rfl, trivial⟩ (by decide)) x128 e128) (sevs_cons rfl (sevs_cons rfl sevs_nil)) ⟨rfl, (fun _ _ hp => by obtain ⟨_, _, _, _, _, _, rfl, _⟩ := hp; exact ⟨_, rfl⟩), rfl, (fun _ _ hp => by obtain ⟨_, _, _, _, _, _, rfl, _⟩ := hp; exact ⟨_, rfl⟩), rfl, (fun _ _ hp => by obtain ⟨_, _, _, _, _, _, rfl, _⟩ := hp; exact ⟨_, rfl⟩), rfl, (fun _ _ hp => by obtain ⟨_, _, _, _, _, _, rfl, _⟩ := hp; exact ⟨_, rfl⟩), rfl, (fun _ _ hp => by obtain ⟨_, _, _, _, _, _, rfl, _⟩ := hp; exact ⟨_, rfl⟩), trivial⟩) rfl ?_))))))))
                      rintro _ _ ⟨_, ⟨C129, C130, C131, C132, C133, rfl, rfl, hl129, o129, hl130, o130, hl131, o131, hl132, o132, hl133, o133⟩, rfl⟩
                      obtain ⟨x134, e134, H0⟩ := bind_some H0
                      refine oD (sg rfl) rfl (nn (sr (oD (sg rfl) rfl (nn (sr (oD (stp_loadN (us := [_, _, _, _, _, _, _, _, _, _, _]) ts68 rfl (Cells.box (id := 23) rfl 11 rfl)) rfl (oD (mv rfl) rfl (oE (stpU_call (fun i => 39 + i) cf43 (fun w hw => c_l_heldMemory fl w (⟨(⟨(⟨x128.2.1, x128.2.2.1⟩ : T), (⟨x128.2.2.2.1, x69.1.m.c.h⟩ : Ca), (⟨x69.1.m.g.c, x69.1.m.g.n, x69.1.m.g.r, x128.2.2.2.2.1⟩ : Tg), x69.1.m.s⟩ : Mc), x128.2.2.2.2.2, x69.1.h⟩ : Mm) p70 ((x69.1.m.t.b).length) c72 p74 ((x69.1.m.t.f).length) c76 p78 ((x69.1.m.c.l).length) c80 p82 ((x69.1.m.g.o).length) c84 p86 ((x69.1.k).length) c88 1 (by simp [hl129]) (OwnC.pass (id := 18) rfl o129 hw) (by simp [hl130]) (OwnC.pass (id := 19) rfl o130 hw) (by simp [hl131]) (OwnC.pass (id := 20) rfl o131 hw) (by simp [hl132]) (OwnC.pass (id := 21) rfl o132 hw) (by simp [hl133]) (OwnC.pass (id := 22) rfl o133 hw) x134 e134) (sevs_cons rfl (sevs_cons rfl sevs_nil))) rfl ?_))))))))
                      rintro _ _ ⟨_, ⟨rfl, rfl⟩, rfl⟩
                      refine oD (sg rfl) rfl (nn (cw_seq (sr (oD (mv rfl) rfl (oD (stp_lss rfl rfl) rfl (nn (cw_cond rfl (fun h135 => ?_) (fun h135 => ?_))))))))
                      · have H0 := cond_t H0 h135
                        refine sr (oD (sg rfl) rfl (nn (cw_ret (kw_nx_ret ?_))))
                        have q0 := Option.some.inj H0
                        subst q0
                        exact kw_ret Tryz.results13 (.cons (.tmp rfl) .nil) [] [] trivial (by decide) ⟨rfl, rfl⟩
                      · have H0 := cond_f H0 h135
                        refine cw_skip (kw_nx (cw_seq (sr (oD (mv rfl) rfl (oD (mv rfl) rfl (oD (stp_neq rfl rfl) rfl (nn (cw_cond rfl (fun h136 => ?_) (fun h136 => ?_)))))))))
                        · have H0 := cond_t H0 h136
                          refine sr (oD (sg rfl) rfl (nn (cw_ret (kw_nx_ret ?_))))
                          have q0 := Option.some.inj H0
                          subst q0
                          exact kw_ret Tryz.results13 (.cons (.tmp rfl) .nil) [] [] trivial (by decide) ⟨rfl, rfl⟩
                        · have H0 := cond_f H0 h136
                          obtain ⟨x137, e137, H0⟩ := bind_some H0
                          refine cw_skip (kw_nx (sr (oD (stp_loadN (us := [_, _, _, _, _, _, _, _, _, _, _]) ts83 rfl (Cells.box (id := 0) rfl 11 rfl)) rfl (oE (stpU_call (fun i => 39 + i) cf46 (fun w hw => c_l_toMemory fl w a0 p0_0 ((a0.m.t.b).length) c0_0 p0_1 ((a0.m.t.f).length) c0_1 p0_2 ((a0.m.c.l).length) c0_2 p0_3 ((a0.m.g.o).length) c0_3 p0_4 ((a0.k).length) c0_4 rfl (RO.pass hr0_0 hw) rfl (RO.pass hr0_1 hw) rfl (RO.pass hr0_2 hw) rfl (RO.pass hr0_3 hw) rfl (RO.pass hr0_4 hw) x137 e137) (sevs_cons rfl sevs_nil)) rfl ?_))))
                          rintro _ _ ⟨_, ⟨p138, n139, c140, C141, p142, n143, c144, C145, p146, n147, c148, C149, p150, n151, c152, C153, p154, n155, c156, C157, rfl, rfl, hnn139, o141, hnn143, o145, hnn147, o149, hnn151, o153, hnn155, o157⟩, rfl⟩
                          obtain rfl := hnn139
                          obtain rfl := hnn143
                          obtain rfl := hnn147
                          obtain rfl := hnn151
                          obtain rfl := hnn155
                          obtain ⟨x158, e158, H0⟩ := bind_some H0
                          refine oE (stpU_call (fun i => 44 + i) cf49 (fun w hw => c_i_FrameVictim fl w x137 p138 ((x137.m.t.b).length) c140 p142 ((x137.m.t.f).length) c144 p146 ((x137.m.c.l).length) c148 p150 ((x137.m.g.o).length) c152 p154 ((x137.k).length) c156 rfl (OwnC.pass (id := 39) rfl o141 hw) rfl (OwnC.pass (id := 40) rfl o145 hw) rfl (OwnC.pass (id := 41) rfl o149 hw) rfl (OwnC.pass (id := 42) rfl o153 hw) rfl (OwnC.pass (id := 43) rfl o157 hw) (RO.pass hg hw) x158 e158) (sevs_cons rfl sevs_nil)) rfl ?_
                          rintro _ _ ⟨_, ⟨p159, n160, c161, C162, p163, n164, c165, C166, p167, n168, c169, C170, p171, n172, c173, C174, p175, n176, c177, C178, rfl, rfl, hnn160, o162, hnn164, o166, hnn168, o170, hnn172, o174, hnn176, o178⟩, rfl⟩
                          obtain rfl := hnn160
                          obtain rfl := hnn164
                          obtain rfl := hnn168
                          obtain rfl := hnn172
                          obtain rfl := hnn176
                          refine oD (mv rfl) rfl (oD (stp_extract rfl rfl) rfl (oD (stp_extract rfl rfl) rfl (oD (stp_extract rfl rfl) rfl (oE (stpU_alloc 49 tz68 rfl) rfl ?_))))
                          rintro _ _ ⟨b179, rfl, rfl⟩
                          refine oF (stpU_store (id := 49) (cs' := [.slice p159 ((x158.1.m.t.b).length) c161, .slice p163 ((x158.1.m.t.f).length) c165, .slice p167 ((x158.1.m.c.l).length) c169, .int .i64 x158.1.m.c.h, .int .i64 x158.1.m.g.c, .int .i64 x158.1.m.g.n, .int .i64 x158.1.m.g.r, .slice p171 ((x158.1.m.g.o).length) c173, .int .i64 x158.1.m.s, .slice p175 ((x158.1.k).length) c177, .int .i64 x158.1.h]) ts68 rfl rfl rfl rfl rfl rfl rfl) ?_
                          rintro _ _ rfl
                          obtain ⟨x180, e180, H0⟩ := bind_some H0
                          refine oD (sg rfl) rfl (oD (sg rfl) rfl (nn (cw_seq (sr (oD (stp_loadN (us := [_, _, _, _, _, _, _, _, _, _, _]) ts68 rfl (Cells.box (id := 49) rfl 11 rfl)) rfl (oD (stp_loadN (us := [_, _, _, _, _, _, _, _, _, _, _]) ts68 rfl (Cells.box (id := 11) rfl 11 rfl)) rfl (oE (stpU_call (fun i => 50 + i) cf41 (fun w hw => c_l_eqMemory fl w x158.1 p159 ((x158.1.m.t.b).length) c161 p163 ((x158.1.m.t.f).length) c165 p167 ((x158.1.m.c.l).length) c169 p171 ((x158.1.m.g.o).length) c173 p175 ((x158.1.k).length) c177 x25.1 p26 ((x25.1.m.t.b).length) c28 p30 ((x25.1.m.t.f).length) c32 p34 ((x25.1.m.c.l).length) c36 p38 ((x25.1.m.g.o).length) c40 p42 ((x25.1.k).length) c44 rfl (OwnC.pass (id := 44) rfl o162 hw) rfl (OwnC.pass (id := 45) rfl o166 hw) rfl (OwnC.pass (id := 46) rfl o170 hw) rfl (OwnC.pass (id := 47) rfl o174 hw) rfl (OwnC.pass (id := 48) rfl o178 hw) rfl (OwnC.pass (id := 6) rfl o29 hw) rfl (OwnC.pass (id := 7) rfl o33 hw) rfl (OwnC.pass (id := 8) rfl o37 hw) rfl (OwnC.pass (id := 9) rfl o41 hw) rfl (OwnC.pass (id := 10) rfl o45 hw) x180 e180) (sevs_cons rfl (sevs_cons rfl sevs_nil))) rfl ?_)))))))
                          rintro _ _ ⟨_, ⟨rfl, rfl⟩, rfl⟩
                          obtain ⟨y181, ey181, H0⟩ := bind_some H0
                          refine oD (stp_not rfl) rfl (oD (mv rfl) rfl (ow_cutY 4 103 y181 ?_ ?_))
                          · rcases Bool.eq_false_or_eq_true (!x180) with hy181 | hy181
                            · have ey181 := cond_t ey181 hy181
                              refine oO rfl hy181 rfl (oO rfl hy181 rfl (oO rfl hy181 rfl (oD (stp_pick_t rfl hy181 rfl) rfl ?_)))
                              obtain rfl := Option.some.inj ey181
                              exact ow_nil (jy 4 0)
                            · have ey181 := cond_f ey181 hy181
                              refine oG rfl hy181 (mv rfl) rfl (oG rfl hy181 (mv rfl) rfl (oG rfl hy181 (stp_neq rfl rfl) rfl (oD (stp_pick_f rfl hy181 rfl) rfl ?_)))
                              obtain rfl := Option.some.inj ey181
                              exact ow_nil (jy 4 0)
                          · obtain ⟨y182, ey182, H0⟩ := bind_some H0
                            refine oD (mv rfl) rfl (ow_cutY 4 108 y182 ?_ ?_)
                            · rcases Bool.eq_false_or_eq_true y181 with hy182 | hy182
                              · have ey182 := cond_t ey182 hy182
                                refine oO rfl hy182 rfl (oO rfl hy182 rfl (oO rfl hy182 rfl (oD (stp_pick_t rfl hy182 rfl) rfl ?_)))
                                obtain rfl := Option.some.inj ey182
                                exact ow_nil (jy 4 0)
                              · have ey182 := cond_f ey182 hy182
                                refine oG rfl hy182 (mv rfl) rfl (oG rfl hy182 (mv rfl) rfl (oG rfl hy182 (stp_neqB Tryz.underlying4 rfl rfl) rfl (oD (stp_pick_f rfl hy182 rfl) rfl ?_)))
                                obtain rfl := Option.some.inj ey182
                                exact ow_nil (jy 4 0)
                            · refine ow_nil (kw_nx (cw_cond rfl (fun h183 => ?_) (fun h183 => ?_)))
                              · have H0 := cond_t H0 h183
                                refine sr (oD (sg rfl) rfl (nn (cw_ret (kw_nx_ret ?_))))
                                have q0 := Option.some.inj H0
                                subst q0
                                exact kw_ret Tryz.results13 (.cons (.tmp rfl) .nil) [] [] trivial (by decide) ⟨rfl, rfl⟩
                              · have H0 := cond_f H0 h183
                                refine cw_skip (kw_nx (sr (oD (sg rfl) rfl (nn (sr (oD (stp_loadN (us := [_, _, _, _, _, _, _, _, _, _, _]) ts68 rfl (Cells.box (id := 23) rfl 11 rfl)) rfl (oD (mv rfl) rfl (oE (stpU_call (fun i => 50 + i) cf43 (fun w hw => c_l_heldMemory fl w (⟨(⟨(⟨x128.2.1, x128.2.2.1⟩ : T), (⟨x128.2.2.2.1, x69.1.m.c.h⟩ : Ca), (⟨x69.1.m.g.c, x69.1.m.g.n, x69.1.m.g.r, x128.2.2.2.2.1⟩ : Tg), x69.1.m.s⟩ : Mc), x128.2.2.2.2.2, x69.1.h⟩ : Mm) p70 ((x69.1.m.t.b).length) c72 p74 ((x69.1.m.t.f).length) c76 p78 ((x69.1.m.c.l).length) c80 p82 ((x69.1.m.g.o).length) c84 p86 ((x69.1.k).length) c88 1 (by simp [hl129]) (OwnC.pass (id := 18) rfl o129 hw) (by simp [hl130]) (OwnC.pass (id := 19) rfl o130 hw) (by simp [hl131]) (OwnC.pass (id := 20) rfl o131 hw) (by simp [hl132]) (OwnC.pass (id := 21) rfl o132 hw) (by simp [hl133]) (OwnC.pass (id := 22) rfl o133 hw) x134 e134) (sevs_cons rfl (sevs_cons rfl sevs_nil))) rfl ?_))))))))
                                rintro _ _ ⟨_, ⟨rfl, rfl⟩, rfl⟩
                                refine oD (sg rfl) rfl (nn (cw_seq (sr (oD (mv rfl) rfl (oD (stp_lss rfl rfl) rfl (nn (cw_cond rfl (fun h184 => ?_) (fun h184 => ?_))))))))
                                · have H0 := cond_t H0 h184
                                  refine sr (oD (sg rfl) rfl (nn (cw_ret (kw_nx_ret ?_))))
                                  have q0 := Option.some.inj H0
                                  subst q0
                                  exact kw_ret Tryz.results13 (.cons (.tmp rfl) .nil) [] [] trivial (by decide) ⟨rfl, rfl⟩
                                · have H0 := cond_f H0 h184
                                  refine cw_skip (kw_nx (cw_seq (sr (oD (mv rfl) rfl (oD (mv rfl) rfl (oD (stp_neq rfl rfl) rfl (nn (cw_cond rfl (fun h185 => ?_) (fun h185 => ?_)))))))))
                                  · have H0 := cond_t H0 h185
                                    refine sr (oD (sg rfl) rfl (nn (cw_ret (kw_nx_ret ?_))))
                                    have q0 := Option.some.inj H0
                                    subst q0
                                    exact kw_ret Tryz.results13 (.cons (.tmp rfl) .nil) [] [] trivial (by decide) ⟨rfl, rfl⟩
                                  · have H0 := cond_f H0 h185
                                    refine cw_skip (kw_nx (sr (oD (sg rfl) rfl (nn (cw_ret ?_)))))
                                    have q0 := Option.some.inj H0
                                    subst q0
                                    exact kw_ret Tryz.results13 (.cons (.tmp rfl) .nil) [] [] trivial (by decide) ⟨rfl, rfl⟩
end Go.Proofs.YtbgodaeccgjdgaaGreatDoor
