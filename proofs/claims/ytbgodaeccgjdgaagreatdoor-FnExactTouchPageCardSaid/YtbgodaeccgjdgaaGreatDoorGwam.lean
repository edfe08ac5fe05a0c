/- The walks: functions of the program return what their pure functions say. Printed by a program (gen.py). -/
import Derived.Test.YtbgodaeccgjdgaaGreatDoorGp
import Derived.Test.YtbgodaeccgjdgaaGreatDoorGt
import Derived.Test.YtbgodaeccgjdgaaGreatDoorMan
import Derived.Test.YtbgodaeccgjdgaaGreatDoorMap
import Derived.Test.YtbgodaeccgjdgaaGreatDoorGwaa
import Derived.Test.YtbgodaeccgjdgaaGreatDoorGwac
import Derived.Test.YtbgodaeccgjdgaaGreatDoorGwal
set_option linter.unusedSimpArgs false
set_option linter.unusedVariables false
set_option linter.unusedSectionVars false
namespace Go.Proofs.YtbgodaeccgjdgaaGreatDoor
open Go.RowKit
set_option maxHeartbeats 4000000 in
set_option maxRecDepth 20000 in
theorem c_l_FnExactTouchPage (fl : Nat) (w : World) (a0 : Mc) (p0_0 : Option Addr) (n0_0 c0_0 : Nat) (p0_1 : Option Addr) (n0_1 c0_1 : Nat) (p0_2 : Option Addr) (n0_2 c0_2 : Nat) (p0_3 : Option Addr) (n0_3 c0_3 : Nat) (a1 : Int) (a2 : Int) (hn0_0 : n0_0 = (a0.t.b).length) (hr0_0 : RO w (hkeys []) (RdL p0_0 c0_0 a0.t.b)) (hn0_1 : n0_1 = (a0.t.f).length) (hr0_1 : RO w (hkeys []) (RdL p0_1 c0_1 a0.t.f)) (hn0_2 : n0_2 = (a0.c.l).length) (hr0_2 : RO w (hkeys []) (RdL p0_2 c0_2 a0.c.l)) (hn0_3 : n0_3 = (a0.g.o).length) (hr0_3 : RO w (hkeys []) (RdL p0_3 c0_3 a0.g.o)) (hg : RO w (hkeys []) (fun w' => w'.rangeAt 0 0 [.bool false, .int .i64 0, .int .i64 0, .int .i64 0, .int .i64 (-1)])) (r : Bool) (H0 : l_FnExactTouchPage fl a0 a1 a2 = some r) :
    Ct Tryz.prog 7 [.agg #[.slice p0_0 n0_0 c0_0, .slice p0_1 n0_1 c0_1, .slice p0_2 n0_2 c0_2, .int .i64 a0.c.h, .int .i64 a0.g.c, .int .i64 a0.g.n, .int .i64 a0.g.r, .slice p0_3 n0_3 c0_3, .int .i64 a0.s], .int .i64 a1, .int .i64 a2] w [] (fun rv h' => rv = .bool r ∧ h' = []) := by
  obtain rfl := hn0_0
  obtain rfl := hn0_1
  obtain rfl := hn0_2
  obtain rfl := hn0_3
  unfold l_FnExactTouchPage at H0
  refine ct_of_cw Tryz.func7 rfl Tryz.ntmps7 rfl (Sat.refl _ _) ?_
  refine sr (oE (stpU_box 0 rfl rfl) rfl ?_)
  rintro _ _ ⟨b1, rfl, rfl⟩
  obtain ⟨x2, e2, H0⟩ := bind_some H0
  refine oD (sg rfl) rfl (nn (sr (oD (sg rfl) rfl (nn (sr (oD (stp_loadN (us := [_, _, _, _, _, _, _, _, _]) ts33 rfl (Cells.box (id := 0) rfl 9 rfl)) rfl (oD (mv rfl) rfl (oE (stpU_call (fun i => 1 + i) cf14 (fun w hw => c_l_szMachine fl w a0 p0_0 ((a0.t.b).length) c0_0 p0_1 ((a0.t.f).length) c0_1 p0_2 ((a0.c.l).length) c0_2 p0_3 ((a0.g.o).length) c0_3 1048576 rfl (RO.pass hr0_0 hw) rfl (RO.pass hr0_1 hw) rfl (RO.pass hr0_2 hw) rfl (RO.pass hr0_3 hw) x2 e2) (sevs_cons rfl (sevs_cons rfl sevs_nil))) rfl ?_))))))))
  rintro _ _ ⟨_, ⟨rfl, rfl⟩, rfl⟩
  refine oD (sg rfl) rfl (nn (cw_seq (sr (oD (mv rfl) rfl (oD (stp_lss rfl rfl) rfl (nn (cw_cond rfl (fun h3 => ?_) (fun h3 => ?_))))))))
  · have H0 := cond_t H0 h3
    refine sr (oD (sg rfl) rfl (nn (cw_ret (kw_nx_ret ?_))))
    have q0 := Option.some.inj H0
    subst q0
    exact kw_ret Tryz.results7 (.cons (.tmp rfl) .nil) [] [] trivial (by decide) ⟨rfl, rfl⟩
  · have H0 := cond_f H0 h3
    obtain ⟨x4, e4, H0⟩ := bind_some H0
    refine cw_skip (kw_nx (sr (oD (stp_loadN (us := [_, _, _, _, _, _, _, _, _]) ts33 rfl (Cells.box (id := 0) rfl 9 rfl)) rfl (oE (stpU_call (fun i => 1 + i) cf16 (fun w hw => c_l_toMachine fl w a0 p0_0 ((a0.t.b).length) c0_0 p0_1 ((a0.t.f).length) c0_1 p0_2 ((a0.c.l).length) c0_2 p0_3 ((a0.g.o).length) c0_3 rfl (RO.pass hr0_0 hw) rfl (RO.pass hr0_1 hw) rfl (RO.pass hr0_2 hw) rfl (RO.pass hr0_3 hw) x4 e4) (sevs_cons rfl sevs_nil)) rfl ?_))))
    rintro _ _ ⟨_, ⟨p5, n6, c7, C8, p9, n10, c11, C12, p13, n14, c15, C16, p17, n18, c19, C20, rfl, rfl, hnn6, o8, hnn10, o12, hnn14, o16, hnn18, o20⟩, rfl⟩
    obtain rfl := hnn6
    obtain rfl := hnn10
    obtain rfl := hnn14
    obtain rfl := hnn18
    obtain ⟨x21, e21, H0⟩ := bind_some H0
    refine oD (mv rfl) rfl (oD (mv rfl) rfl (oE (stpU_call (fun i => 5 + i) cf28 (fun w hw => c_s_TouchPage fl w x4 p5 ((x4.t.b).length) c7 p9 ((x4.t.f).length) c11 p13 ((x4.c.l).length) c15 p17 ((x4.g.o).length) c19 a1 a2 rfl (OwnC.pass (id := 1) rfl o8 hw) rfl (OwnC.pass (id := 2) rfl o12 hw) rfl (OwnC.pass (id := 3) rfl o16 hw) rfl (OwnC.pass (id := 4) rfl o20 hw) x21 e21) (sevs_cons rfl (sevs_cons rfl (sevs_cons rfl sevs_nil)))) rfl ?_))
    rintro _ _ ⟨_, ⟨p22, n23, c24, C25, p26, n27, c28, C29, p30, n31, c32, C33, p34, n35, c36, C37, rfl, rfl, hnn23, o25, hnn27, o29, hnn31, o33, hnn35, o37⟩, rfl⟩
    obtain rfl := hnn23
    obtain rfl := hnn27
    obtain rfl := hnn31
    obtain rfl := hnn35
    refine oD (mv rfl) rfl (oD (stp_extract rfl rfl) rfl (oD (stp_extract rfl rfl) rfl (oD (stp_extract rfl rfl) rfl (oD (stp_extract rfl rfl) rfl (oE (stpU_alloc 9 tz47 rfl) rfl ?_)))))
    rintro _ _ ⟨b38, rfl, rfl⟩
    refine oF (stpU_store (id := 9) (cs' := [.slice p22 ((x21.1.t.b).length) c24, .slice p26 ((x21.1.t.f).length) c28, .slice p30 ((x21.1.c.l).length) c32, .int .i64 x21.1.c.h, .int .i64 x21.1.g.c, .int .i64 x21.1.g.n, .int .i64 x21.1.g.r, .slice p34 ((x21.1.g.o).length) c36, .int .i64 x21.1.s]) ts47 rfl rfl rfl rfl rfl rfl rfl) ?_
    rintro _ _ rfl
    obtain ⟨x39, e39, H0⟩ := bind_some H0
    refine oD (sg rfl) rfl (oD (sg rfl) rfl (oD (sg rfl) rfl (nn (sr (oD (stp_loadN (us := [_, _, _, _, _, _, _, _, _]) ts33 rfl (Cells.box (id := 0) rfl 9 rfl)) rfl (oE (stpU_call (fun i => 10 + i) cf16 (fun w hw => c_l_toMachine fl w a0 p0_0 ((a0.t.b).length) c0_0 p0_1 ((a0.t.f).length) c0_1 p0_2 ((a0.c.l).length) c0_2 p0_3 ((a0.g.o).length) c0_3 rfl (RO.pass hr0_0 hw) rfl (RO.pass hr0_1 hw) rfl (RO.pass hr0_2 hw) rfl (RO.pass hr0_3 hw) x39 e39) (sevs_cons rfl sevs_nil)) rfl ?_))))))
    rintro _ _ ⟨_, ⟨p40, n41, c42, C43, p44, n45, c46, C47, p48, n49, c50, C51, p52, n53, c54, C55, rfl, rfl, hnn41, o43, hnn45, o47, hnn49, o51, hnn53, o55⟩, rfl⟩
    obtain rfl := hnn41
    obtain rfl := hnn45
    obtain rfl := hnn49
    obtain rfl := hnn53
    refine oE (stpU_alloc 14 tz47 rfl) rfl ?_
    rintro _ _ ⟨b56, rfl, rfl⟩
    refine oF (stpU_store (id := 14) (cs' := [.slice p40 ((x39.t.b).length) c42, .slice p44 ((x39.t.f).length) c46, .slice p48 ((x39.c.l).length) c50, .int .i64 x39.c.h, .int .i64 x39.g.c, .int .i64 x39.g.n, .int .i64 x39.g.r, .slice p52 ((x39.g.o).length) c54, .int .i64 x39.s]) ts47 rfl rfl rfl rfl rfl rfl rfl) ?_
    rintro _ _ rfl
    obtain ⟨x57, e57, H0⟩ := bind_some H0
    refine nn (sr (oD (stp_loadN (us := [_, _, _, _, _, _, _, _, _]) ts47 rfl (Cells.box (id := 14) rfl 9 rfl)) rfl (oD (mv rfl) rfl (oD (mv rfl) rfl (oE (stpU_call (fun i => 15 + i) cf29 (fun w hw => c_i_TouchPage fl w x39 p40 ((x39.t.b).length) c42 p44 ((x39.t.f).length) c46 p48 ((x39.c.l).length) c50 p52 ((x39.g.o).length) c54 a1 a2 rfl (OwnC.pass (id := 10) rfl o43 hw) rfl (OwnC.pass (id := 11) rfl o47 hw) rfl (OwnC.pass (id := 12) rfl o51 hw) rfl (OwnC.pass (id := 13) rfl o55 hw) (RO.pass hg hw) x57 e57) (sevs_cons rfl (sevs_cons rfl (sevs_cons rfl sevs_nil)))) rfl ?_)))))
    rintro _ _ ⟨_, ⟨p58, n59, c60, C61, p62, n63, c64, C65, p66, n67, c68, C69, p70, n71, c72, C73, rfl, rfl, hnn59, o61, hnn63, o65, hnn67, o69, hnn71, o73⟩, rfl⟩
    obtain rfl := hnn59
    obtain rfl := hnn63
    obtain rfl := hnn67
    obtain rfl := hnn71
    refine oD (mv rfl) rfl (oD (stp_extract rfl rfl) rfl (oD (stp_extract rfl rfl) rfl (oD (stp_extract rfl rfl) rfl (oD (stp_extract rfl rfl) rfl (oE (stpU_alloc 19 tz47 rfl) rfl ?_)))))
    rintro _ _ ⟨b74, rfl, rfl⟩
    refine oF (stpU_store (id := 19) (cs' := [.slice p58 ((x57.1.t.b).length) c60, .slice p62 ((x57.1.t.f).length) c64, .slice p66 ((x57.1.c.l).length) c68, .int .i64 x57.1.c.h, .int .i64 x57.1.g.c, .int .i64 x57.1.g.n, .int .i64 x57.1.g.r, .slice p70 ((x57.1.g.o).length) c72, .int .i64 x57.1.s]) ts47 rfl rfl rfl rfl rfl rfl rfl) ?_
    rintro _ _ rfl
    obtain ⟨x75, e75, H0⟩ := bind_some H0
    refine oD (sg rfl) rfl (oD (sg rfl) rfl (oD (sg rfl) rfl (nn (cw_seq (sr (oD (stp_loadN (us := [_, _, _, _, _, _, _, _, _]) ts47 rfl (Cells.box (id := 19) rfl 9 rfl)) rfl (oD (stp_loadN (us := [_, _, _, _, _, _, _, _, _]) ts47 rfl (Cells.box (id := 9) rfl 9 rfl)) rfl (oE (stpU_call (fun i => 20 + i) cf19 (fun w hw => c_l_eqMachine fl w x57.1 p58 ((x57.1.t.b).length) c60 p62 ((x57.1.t.f).length) c64 p66 ((x57.1.c.l).length) c68 p70 ((x57.1.g.o).length) c72 x21.1 p22 ((x21.1.t.b).length) c24 p26 ((x21.1.t.f).length) c28 p30 ((x21.1.c.l).length) c32 p34 ((x21.1.g.o).length) c36 rfl (OwnC.pass (id := 15) rfl o61 hw) rfl (OwnC.pass (id := 16) rfl o65 hw) rfl (OwnC.pass (id := 17) rfl o69 hw) rfl (OwnC.pass (id := 18) rfl o73 hw) rfl (OwnC.pass (id := 5) rfl o25 hw) rfl (OwnC.pass (id := 6) rfl o29 hw) rfl (OwnC.pass (id := 7) rfl o33 hw) rfl (OwnC.pass (id := 8) rfl o37 hw) x75 e75) (sevs_cons rfl (sevs_cons rfl sevs_nil))) rfl ?_))))))))
    rintro _ _ ⟨_, ⟨rfl, rfl⟩, rfl⟩
    obtain ⟨y76, ey76, H0⟩ := bind_some H0
    refine oD (stp_not rfl) rfl (oD (mv rfl) rfl (ow_cutY 4 58 y76 ?_ ?_))
    · rcases Bool.eq_false_or_eq_true (!x75) with hy76 | hy76
      · have ey76 := cond_t ey76 hy76
        refine oO rfl hy76 rfl (oO rfl hy76 rfl (oO rfl hy76 rfl (oD (stp_pick_t rfl hy76 rfl) rfl ?_)))
        obtain rfl := Option.some.inj ey76
        exact ow_nil (jy 4 0)
      · have ey76 := cond_f ey76 hy76
        refine oG rfl hy76 (mv rfl) rfl (oG rfl hy76 (mv rfl) rfl (oG rfl hy76 (stp_neq rfl rfl) rfl (oD (stp_pick_f rfl hy76 rfl) rfl ?_)))
        obtain rfl := Option.some.inj ey76
        exact ow_nil (jy 4 0)
    · obtain ⟨y77, ey77, H0⟩ := bind_some H0
      refine oD (mv rfl) rfl (ow_cutY 4 63 y77 ?_ ?_)
      · rcases Bool.eq_false_or_eq_true y76 with hy77 | hy77
        · have ey77 := cond_t ey77 hy77
          refine oO rfl hy77 rfl (oO rfl hy77 rfl (oO rfl hy77 rfl (oD (stp_pick_t rfl hy77 rfl) rfl ?_)))
          obtain rfl := Option.some.inj ey77
          exact ow_nil (jy 4 0)
        · have ey77 := cond_f ey77 hy77
          refine oG rfl hy77 (mv rfl) rfl (oG rfl hy77 (mv rfl) rfl (oG rfl hy77 (stp_neq rfl rfl) rfl (oD (stp_pick_f rfl hy77 rfl) rfl ?_)))
          obtain rfl := Option.some.inj ey77
          exact ow_nil (jy 4 0)
      · obtain ⟨y78, ey78, H0⟩ := bind_some H0
        refine oD (mv rfl) rfl (ow_cutY 4 68 y78 ?_ ?_)
        · rcases Bool.eq_false_or_eq_true y77 with hy78 | hy78
          · have ey78 := cond_t ey78 hy78
            refine oO rfl hy78 rfl (oO rfl hy78 rfl (oO rfl hy78 rfl (oD (stp_pick_t rfl hy78 rfl) rfl ?_)))
            obtain rfl := Option.some.inj ey78
            exact ow_nil (jy 4 0)
          · have ey78 := cond_f ey78 hy78
            refine oG rfl hy78 (mv rfl) rfl (oG rfl hy78 (mv rfl) rfl (oG rfl hy78 (stp_neqB Tryz.underlying4 rfl rfl) rfl (oD (stp_pick_f rfl hy78 rfl) rfl ?_)))
            obtain rfl := Option.some.inj ey78
            exact ow_nil (jy 4 0)
        · refine ow_nil (kw_nx (cw_cond rfl (fun h79 => ?_) (fun h79 => ?_)))
          · have H0 := cond_t H0 h79
            refine sr (oD (sg rfl) rfl (nn (cw_ret (kw_nx_ret ?_))))
            have q0 := Option.some.inj H0
            subst q0
            exact kw_ret Tryz.results7 (.cons (.tmp rfl) .nil) [] [] trivial (by decide) ⟨rfl, rfl⟩
          · have H0 := cond_f H0 h79
            obtain ⟨x80, e80, H0⟩ := bind_some H0
            obtain ⟨x97, e97, H0⟩ := bind_some H0
            refine cw_skip (kw_nx (cw_seq (cw_seq (rdr g_mixed [3, 12] [0, 10, 11, 12, 13, 14] { dst := dS [70, 71, 72, 73, 74], pre := gA [] [[], [], [1], [0, 1, 2], rn 0 4], ids := gA [] [[], [], [20, 21, 22, 23]], rs := rL [[(12, 0)], [(3, 0)], [(70, 2)], [(69, 1), (71, 3)], [(72, 4)]], rh := rL [[(14, 0)], [(0, 0)], [], [(10, 0), (11, 0), (12, 0), (13, 0), (20, 3), (21, 3), (22, 3), (23, 3)]], V := fun i g => gA undef [.agg #[.slice p40 ((x39.t.b).length) c42, .slice p44 ((x39.t.f).length) c46, .slice p48 ((x39.c.l).length) c50, .int .i64 x39.c.h, .int .i64 x39.g.c, .int .i64 x39.g.n, .int .i64 x39.g.r, .slice p52 ((x39.g.o).length) c54, .int .i64 x39.s], .agg #[.slice p0_0 ((a0.t.b).length) c0_0, .slice p0_1 ((a0.t.f).length) c0_1, .slice p0_2 ((a0.c.l).length) c0_2, .int .i64 a0.c.h, .int .i64 a0.g.c, .int .i64 a0.g.n, .int .i64 a0.g.r, .slice p0_3 ((a0.g.o).length) c0_3, .int .i64 a0.s], .agg #[.slice ((g 2).A 0) ((x80.t.b).length) ((g 2).C 0), .slice ((g 2).A 1) ((x80.t.f).length) ((g 2).C 1), .slice ((g 2).A 2) ((x80.c.l).length) ((g 2).C 2), .int .i64 x80.c.h, .int .i64 x80.g.c, .int .i64 x80.g.n, .int .i64 x80.g.r, .slice ((g 2).A 3) ((x80.g.o).length) ((g 2).C 3), .int .i64 x80.s], .bool x97, .bool (!x97)] i, U := fun i g => gA [] [[], [], [(20, ((g 2).R 0)), (21, ((g 2).R 1)), (22, ((g 2).R 2)), (23, ((g 2).R 3))]] i, Φ := fun i x => gA True [True, True, OwnC (α := Int) 3 (x.A 0) (x.C 0) x80.t.b (x.R 0) ∧ OwnC (α := F) 127 (x.A 1) (x.C 1) x80.t.f (x.R 1) ∧ OwnC (α := Ln) 112 (x.A 2) (x.C 2) x80.c.l (x.R 2) ∧ OwnC (α := Ow) 148 (x.A 3) (x.C 3) x80.g.o (x.R 3)] i } ?_ ?_))))
            · refine ⟨⟨⟨⟨⟨trivial, lc rfl rfl fun hs hh => stp_loadN (us := [_, _, _, _, _, _, _, _, _]) ts47 (sv hs 12 rfl) (Cells.box (id := 14) (hh.get 14 _ rfl) 9 rfl)⟩, lc rfl rfl fun hs hh => stp_loadN (us := [_, _, _, _, _, _, _, _, _]) ts33 (sv hs 3 rfl) (Cells.box (id := 0) (hh.get 0 _ rfl) 9 rfl)⟩, ?_⟩, ?_⟩, lc rfl rfl fun hs hh => stp_not (sv hs 72 rfl)⟩
              · refine le rfl rfl (fun g hΦ s h hs hh => (stpU_call (fun i => 20 + i) cf16 (fun w hw => c_l_toMachine fl w a0 p0_0 ((a0.t.b).length) c0_0 p0_1 ((a0.t.f).length) c0_1 p0_2 ((a0.c.l).length) c0_2 p0_3 ((a0.g.o).length) c0_3 rfl (RO.pass hr0_0 hw) rfl (RO.pass hr0_1 hw) rfl (RO.pass hr0_2 hw) rfl (RO.pass hr0_3 hw) x80 e80) (sevs_cons (sv hs 70 rfl) sevs_nil))) ?_
                rintro g _ _ ⟨_, ⟨p81, n82, c83, C84, p85, n86, c87, C88, p89, n90, c91, C92, p93, n94, c95, C96, rfl, rfl, hnn82, o84, hnn86, o88, hnn90, o92, hnn94, o96⟩, rfl⟩
                obtain rfl := hnn82
                obtain rfl := hnn86
                obtain rfl := hnn90
                obtain rfl := hnn94
                exact ⟨⟨[p81, p85, p89, p93], [c83, c87, c91, c95], [C84, C88, C92, C96]⟩, ⟨o84, o88, o92, o96⟩, .inr rfl, rfl⟩
              · refine le rfl rfl (fun g hΦ s h hs hh => (stpU_call (fun i => 24 + i) cf19 (fun w hw => c_l_eqMachine fl w x39 p40 ((x39.t.b).length) c42 p44 ((x39.t.f).length) c46 p48 ((x39.c.l).length) c50 p52 ((x39.g.o).length) c54 x80 ((g 2).A 0) ((x80.t.b).length) ((g 2).C 0) ((g 2).A 1) ((x80.t.f).length) ((g 2).C 1) ((g 2).A 2) ((x80.c.l).length) ((g 2).C 2) ((g 2).A 3) ((x80.g.o).length) ((g 2).C 3) rfl (OwnC.pass (id := 10) (hh.get 10 _ rfl) o43 hw) rfl (OwnC.pass (id := 11) (hh.get 11 _ rfl) o47 hw) rfl (OwnC.pass (id := 12) (hh.get 12 _ rfl) o51 hw) rfl (OwnC.pass (id := 13) (hh.get 13 _ rfl) o55 hw) rfl (OwnC.pass (id := 20) (hh.get 20 _ rfl) (hΦ 2 rfl).1 hw) rfl (OwnC.pass (id := 21) (hh.get 21 _ rfl) (hΦ 2 rfl).2.1 hw) rfl (OwnC.pass (id := 22) (hh.get 22 _ rfl) (hΦ 2 rfl).2.2.1 hw) rfl (OwnC.pass (id := 23) (hh.get 23 _ rfl) (hΦ 2 rfl).2.2.2 hw) x97 e97) (sevs_cons (sv hs 69 rfl) (sevs_cons (sv hs 71 rfl) sevs_nil)))) ?_
                rintro g _ _ ⟨_, ⟨rfl, rfl⟩, rfl⟩
                exact ⟨⟨[], [], []⟩, trivial, .inr rfl, rfl⟩
            · intro g hΦ
              refine kw_gen (ι := Option Addr × Option Addr × Option Addr × Option Addr × Nat × Nat × Nat × Nat × Res × Res × Res × Res) (((g 2).A 0), ((g 2).A 1), ((g 2).A 2), ((g 2).A 3), ((g 2).C 0), ((g 2).C 1), ((g 2).C 2), ((g 2).C 3), ((g 2).R 0), ((g 2).R 1), ((g 2).R 2), ((g 2).R 3)) (fun | (p81, p85, p89, p93, c83, c87, c91, c95, C84, C88, C92, C96) => OwnC (α := Int) 3 p81 c83 x80.t.b C84 ∧ OwnC (α := F) 127 p85 c87 x80.t.f C88 ∧ OwnC (α := Ln) 112 p89 c91 x80.c.l C92 ∧ OwnC (α := Ow) 148 p93 c95 x80.g.o C96) (fun | (p81, p85, p89, p93, c83, c87, c91, c95, C84, C88, C92, C96) => [(1, .int .i64 a1), (2, .int .i64 a2), (3, .pointer (some ⟨b1, 0, none⟩)), (8, .pointer (some ⟨b38, 0, none⟩)), (9, .int .i64 x21.2.1), (10, .int .i64 x21.2.2.1), (11, .bool x21.2.2.2), (12, .pointer (some ⟨b56, 0, none⟩)), (13, .pointer (some ⟨b74, 0, none⟩)), (14, .int .i64 x57.2.1), (15, .int .i64 x57.2.2.1), (16, .bool x57.2.2.2), (73, .bool (!x97))]) (fun | (p81, p85, p89, p93, c83, c87, c91, c95, C84, C88, C92, C96) => [(0, [(b1, .cells #[.slice p0_0 ((a0.t.b).length) c0_0, .slice p0_1 ((a0.t.f).length) c0_1, .slice p0_2 ((a0.c.l).length) c0_2, .int .i64 a0.c.h, .int .i64 a0.g.c, .int .i64 a0.g.n, .int .i64 a0.g.r, .slice p0_3 ((a0.g.o).length) c0_3, .int .i64 a0.s] 33 (0, 0))]), (5, C25), (6, C29), (7, C33), (8, C37), (9, [(b38, .cells #[.slice p22 ((x21.1.t.b).length) c24, .slice p26 ((x21.1.t.f).length) c28, .slice p30 ((x21.1.c.l).length) c32, .int .i64 x21.1.c.h, .int .i64 x21.1.g.c, .int .i64 x21.1.g.n, .int .i64 x21.1.g.r, .slice p34 ((x21.1.g.o).length) c36, .int .i64 x21.1.s] 47 (0, 0))]), (10, C43), (11, C47), (12, C51), (13, C55), (14, [(b56, .cells #[.slice p40 ((x39.t.b).length) c42, .slice p44 ((x39.t.f).length) c46, .slice p48 ((x39.c.l).length) c50, .int .i64 x39.c.h, .int .i64 x39.g.c, .int .i64 x39.g.n, .int .i64 x39.g.r, .slice p52 ((x39.g.o).length) c54, .int .i64 x39.s] 47 (0, 0))]), (15, C61), (16, C65), (17, C69), (18, C73), (19, [(b74, .cells #[.slice p58 ((x57.1.t.b).length) c60, .slice p62 ((x57.1.t.f).length) c64, .slice p66 ((x57.1.c.l).length) c68, .int .i64 x57.1.c.h, .int .i64 x57.1.g.c, .int .i64 x57.1.g.n, .int .i64 x57.1.g.r, .slice p70 ((x57.1.g.o).length) c72, .int .i64 x57.1.s] 47 (0, 0))])]) ⟨(hΦ 2 (by decide)).1, (hΦ 2 (by decide)).2.1, (hΦ 2 (by decide)).2.2.1, (hΦ 2 (by decide)).2.2.2⟩ ⟨rfl, rfl, rfl, rfl, rfl, rfl, rfl, rfl, rfl, rfl, rfl, rfl, rfl, trivial⟩ ⟨rfl, rfl, rfl, rfl, rfl, rfl, rfl, rfl, rfl, rfl, rfl, rfl, rfl, rfl, rfl, rfl, trivial⟩ ?_
              rintro ⟨p81, p85, p89, p93, c83, c87, c91, c95, C84, C88, C92, C96⟩ ⟨o84, o88, o92, o96⟩
              refine KW.sub (s' := [(1, .int .i64 a1), (2, .int .i64 a2), (3, .pointer (some ⟨b1, 0, none⟩)), (8, .pointer (some ⟨b38, 0, none⟩)), (9, .int .i64 x21.2.1), (10, .int .i64 x21.2.2.1), (11, .bool x21.2.2.2), (12, .pointer (some ⟨b56, 0, none⟩)), (13, .pointer (some ⟨b74, 0, none⟩)), (14, .int .i64 x57.2.1), (15, .int .i64 x57.2.2.1), (16, .bool x57.2.2.2), (73, .bool (!x97))]) (h' := [(0, [(b1, .cells #[.slice p0_0 ((a0.t.b).length) c0_0, .slice p0_1 ((a0.t.f).length) c0_1, .slice p0_2 ((a0.c.l).length) c0_2, .int .i64 a0.c.h, .int .i64 a0.g.c, .int .i64 a0.g.n, .int .i64 a0.g.r, .slice p0_3 ((a0.g.o).length) c0_3, .int .i64 a0.s] 33 (0, 0))]), (5, C25), (6, C29), (7, C33), (8, C37), (9, [(b38, .cells #[.slice p22 ((x21.1.t.b).length) c24, .slice p26 ((x21.1.t.f).length) c28, .slice p30 ((x21.1.c.l).length) c32, .int .i64 x21.1.c.h, .int .i64 x21.1.g.c, .int .i64 x21.1.g.n, .int .i64 x21.1.g.r, .slice p34 ((x21.1.g.o).length) c36, .int .i64 x21.1.s] 47 (0, 0))]), (10, C43), (11, C47), (12, C51), (13, C55), (14, [(b56, .cells #[.slice p40 ((x39.t.b).length) c42, .slice p44 ((x39.t.f).length) c46, .slice p48 ((x39.c.l).length) c50, .int .i64 x39.c.h, .int .i64 x39.g.c, .int .i64 x39.g.n, .int .i64 x39.g.r, .slice p52 ((x39.g.o).length) c54, .int .i64 x39.s] 47 (0, 0))]), (15, C61), (16, C65), (17, C69), (18, C73), (19, [(b74, .cells #[.slice p58 ((x57.1.t.b).length) c60, .slice p62 ((x57.1.t.f).length) c64, .slice p66 ((x57.1.c.l).length) c68, .int .i64 x57.1.c.h, .int .i64 x57.1.g.c, .int .i64 x57.1.g.n, .int .i64 x57.1.g.r, .slice p70 ((x57.1.g.o).length) c72, .int .i64 x57.1.s] 47 (0, 0))])]) ?_ ⟨rfl, rfl, rfl, rfl, rfl, rfl, rfl, rfl, rfl, rfl, rfl, rfl, rfl, trivial⟩ ⟨rfl, rfl, rfl, rfl, rfl, rfl, rfl, rfl, rfl, rfl, rfl, rfl, rfl, rfl, rfl, rfl, trivial⟩
              refine kw_nx (cw_cond rfl (fun h98 => ?_) (fun h98 => ?_))
              · have H0 := cond_t H0 h98
                refine sr (oD (sg rfl) rfl (nn (cw_ret (kw_nx_ret ?_))))
                have q0 := Option.some.inj H0
                subst q0
                exact kw_ret Tryz.results7 (.cons (.tmp rfl) .nil) [] [] trivial (by decide) ⟨rfl, rfl⟩
              · have H0 := cond_f H0 h98
                obtain ⟨x99, e99, H0⟩ := bind_some H0
                refine cw_skip (kw_nx (sr (oD (sg rfl) rfl (nn (sr (oD (stp_loadN (us := [_, _, _, _, _, _, _, _, _]) ts47 rfl (Cells.box (id := 14) rfl 9 rfl)) rfl (oD (mv rfl) rfl (oE (stpU_callM (fun i => bif Nat.beq i 0 then 10 else bif Nat.beq i 1 then 11 else bif Nat.beq i 2 then 12 else bif Nat.beq i 3 then 13 else 24 + i) cf20 (fun w hw hb => c_l_markMachine fl w x39 p40 ((x39.t.b).length) c42 C43 p44 ((x39.t.f).length) c46 C47 p48 ((x39.c.l).length) c50 C51 p52 ((x39.g.o).length) c54 C55 1 rfl o43 rfl o47 rfl o51 rfl o55 (hw.pass (js := [10, 11, 12, 13]) ⟨10, [11, 12, 13], rfl, rfl, 11, [12, 13], rfl, rfl, 12, [13], rfl, rfl, 13, [], rfl, rfl, trivial⟩ (by decide)) x99 e99) (sevs_cons rfl (sevs_cons rfl sevs_nil)) ⟨rfl, (fun _ _ hp => by obtain ⟨_, _, _, _, _, rfl, _⟩ := hp; exact ⟨_, rfl⟩), rfl, (fun _ _ hp => by obtain ⟨_, _, _, _, _, rfl, _⟩ := hp; exact ⟨_, rfl⟩), rfl, (fun _ _ hp => by obtain ⟨_, _, _, _, _, rfl, _⟩ := hp; exact ⟨_, rfl⟩), rfl, (fun _ _ hp => by obtain ⟨_, _, _, _, _, rfl, _⟩ := hp; exact ⟨_, rfl⟩), trivial⟩) rfl ?_))))))))
                rintro _ _ ⟨_, ⟨C100, C101, C102, C103, rfl, rfl, hl100, o100, hl101, o101, hl102, o102, hl103, o103⟩, rfl⟩
                obtain ⟨y104, ey104, H0⟩ := bind_some H0
                refine oD (sg rfl) rfl (nn (cw_seq (sr (oD (mv rfl) rfl (oD (stp_lss rfl rfl) rfl (oD (mv rfl) rfl (ow_cutY 5 84 y104 ?_ ?_)))))))
                · rcases Bool.eq_false_or_eq_true (decide (x99.1 < 0)) with hy104 | hy104
                  · have ey104 := cond_t ey104 hy104
                    refine oO rfl hy104 rfl (oO rfl hy104 rfl (oO rfl hy104 rfl (oO rfl hy104 rfl (oD (stp_pick_t rfl hy104 rfl) rfl ?_))))
                    obtain rfl := Option.some.inj ey104
                    exact ow_nil (jy 5 0)
                  · have ey104 := cond_f ey104 hy104
                    refine oG rfl hy104 (stp_loadN (us := [_, _, _, _, _, _, _, _, _]) ts47 rfl (Cells.box (id := 19) rfl 9 rfl)) rfl (oG rfl hy104 (stp_loadN (us := [_, _, _, _, _, _, _, _, _]) ts47 rfl (Cells.box (id := 9) rfl 9 rfl)) rfl (ow_eff (.some rfl hy104) (stpU_call (fun i => 28 + i) cf19 (fun w hw => c_l_eqMachine fl w x57.1 p58 ((x57.1.t.b).length) c60 p62 ((x57.1.t.f).length) c64 p66 ((x57.1.c.l).length) c68 p70 ((x57.1.g.o).length) c72 x21.1 p22 ((x21.1.t.b).length) c24 p26 ((x21.1.t.f).length) c28 p30 ((x21.1.c.l).length) c32 p34 ((x21.1.g.o).length) c36 rfl (OwnC.pass (id := 15) rfl o61 hw) rfl (OwnC.pass (id := 16) rfl o65 hw) rfl (OwnC.pass (id := 17) rfl o69 hw) rfl (OwnC.pass (id := 18) rfl o73 hw) rfl (OwnC.pass (id := 5) rfl o25 hw) rfl (OwnC.pass (id := 6) rfl o29 hw) rfl (OwnC.pass (id := 7) rfl o33 hw) rfl (OwnC.pass (id := 8) rfl o37 hw) x75 e75) (sevs_cons rfl (sevs_cons rfl sevs_nil))) rfl ?_))
                    rintro _ _ ⟨_, ⟨rfl, rfl⟩, rfl⟩
                    refine oG rfl hy104 (stp_not rfl) rfl (oD (stp_pick_f rfl hy104 rfl) rfl ?_)
                    obtain rfl := Option.some.inj ey104
                    exact ow_nil (jy 5 0)
                · obtain ⟨y105, ey105, H0⟩ := bind_some H0
                  refine oD (mv rfl) rfl (ow_cutY 4 89 y105 ?_ ?_)
                  · rcases Bool.eq_false_or_eq_true y104 with hy105 | hy105
                    · have ey105 := cond_t ey105 hy105
                      refine oO rfl hy105 rfl (oO rfl hy105 rfl (oO rfl hy105 rfl (oD (stp_pick_t rfl hy105 rfl) rfl ?_)))
                      obtain rfl := Option.some.inj ey105
                      exact ow_nil (jy 4 0)
                    · have ey105 := cond_f ey105 hy105
                      refine oG rfl hy105 (mv rfl) rfl (oG rfl hy105 (mv rfl) rfl (oG rfl hy105 (stp_neq rfl rfl) rfl (oD (stp_pick_f rfl hy105 rfl) rfl ?_)))
                      obtain rfl := Option.some.inj ey105
                      exact ow_nil (jy 4 0)
                  · obtain ⟨y106, ey106, H0⟩ := bind_some H0
                    refine oD (mv rfl) rfl (ow_cutY 4 94 y106 ?_ ?_)
                    · rcases Bool.eq_false_or_eq_true y105 with hy106 | hy106
                      · have ey106 := cond_t ey106 hy106
                        refine oO rfl hy106 rfl (oO rfl hy106 rfl (oO rfl hy106 rfl (oD (stp_pick_t rfl hy106 rfl) rfl ?_)))
                        obtain rfl := Option.some.inj ey106
                        exact ow_nil (jy 4 0)
                      · have ey106 := cond_f ey106 hy106
                        refine oG rfl hy106 (mv rfl) rfl (oG rfl hy106 (mv rfl) rfl (oG rfl hy106 (stp_neq rfl rfl) rfl (oD (stp_pick_f rfl hy106 rfl) rfl ?_)))
                        obtain rfl := Option.some.inj ey106
                        exact ow_nil (jy 4 0)
                    · obtain ⟨y107, ey107, H0⟩ := bind_some H0
                      refine oD (mv rfl) rfl (ow_cutY 4 99 y107 ?_ ?_)
                      · rcases Bool.eq_false_or_eq_true y106 with hy107 | hy107
                        · have ey107 := cond_t ey107 hy107
                          refine oO rfl hy107 rfl (oO rfl hy107 rfl (oO rfl hy107 rfl (oD (stp_pick_t rfl hy107 rfl) rfl ?_)))
                          obtain rfl := Option.some.inj ey107
                          exact ow_nil (jy 4 0)
                        · have ey107 := cond_f ey107 hy107
                          refine oG rfl hy107 (mv rfl) rfl (oG rfl hy107 (mv rfl) rfl (oG rfl hy107 (stp_neqB Tryz.underlying4 rfl rfl) rfl (oD (stp_pick_f rfl hy107 rfl) rfl ?_)))
                          obtain rfl := Option.some.inj ey107
                          exact ow_nil (jy 4 0)
                      · refine ow_nil (kw_nx (cw_cond rfl (fun h108 => ?_) (fun h108 => ?_)))
                        · have H0 := cond_t H0 h108
                          refine sr (oD (sg rfl) rfl (nn (cw_ret (kw_nx_ret ?_))))
                          have q0 := Option.some.inj H0
                          subst q0
                          exact kw_ret Tryz.results7 (.cons (.tmp rfl) .nil) [] [] trivial (by decide) ⟨rfl, rfl⟩
                        · have H0 := cond_f H0 h108
                          obtain ⟨x109, e109, H0⟩ := bind_some H0
                          refine cw_skip (kw_nx (sr (oD (sg rfl) rfl (nn (sr (oD (stp_loadN (us := [_, _, _, _, _, _, _, _, _]) ts47 rfl (Cells.box (id := 19) rfl 9 rfl)) rfl (oD (mv rfl) rfl (oE (stpU_callM (fun i => bif Nat.beq i 0 then 15 else bif Nat.beq i 1 then 16 else bif Nat.beq i 2 then 17 else bif Nat.beq i 3 then 18 else 28 + i) cf20 (fun w hw hb => c_l_markMachine fl w x57.1 p58 ((x57.1.t.b).length) c60 C61 p62 ((x57.1.t.f).length) c64 C65 p66 ((x57.1.c.l).length) c68 C69 p70 ((x57.1.g.o).length) c72 C73 1 rfl o61 rfl o65 rfl o69 rfl o73 (hw.pass (js := [15, 16, 17, 18]) ⟨15, [16, 17, 18], rfl, rfl, 16, [17, 18], rfl, rfl, 17, [18], rfl, rfl, 18, [], rfl, rfl, trivial⟩ (by decide)) x109 e109) (sevs_cons rfl (sevs_cons rfl sevs_nil)) ⟨rfl, (fun _ _ hp => by obtain ⟨_, _, _, _, _, rfl, _⟩ := hp; exact ⟨_, rfl⟩), rfl, (fun _ _ hp => by obtain ⟨_, _, _, _, _, rfl, _⟩ := hp; exact ⟨_, rfl⟩), rfl, (fun _ _ hp => by obtain ⟨_, _, _, _, _, rfl, _⟩ := hp; exact ⟨_, rfl⟩), rfl, (fun _ _ hp => by obtain ⟨_, _, _, _, _, rfl, _⟩ := hp; exact ⟨_, rfl⟩), trivial⟩) rfl ?_))))))))
                          rintro _ _ ⟨_, ⟨C110, C111, C112, C113, rfl, rfl, hl110, o110, hl111, o111, hl112, o112, hl113, o113⟩, rfl⟩
                          obtain ⟨x114, e114, H0⟩ := bind_some H0
                          refine oD (sg rfl) rfl (nn (sr (oD (sg rfl) rfl (nn (sr (oD (stp_loadN (us := [_, _, _, _, _, _, _, _, _]) ts47 rfl (Cells.box (id := 19) rfl 9 rfl)) rfl (oD (mv rfl) rfl (oE (stpU_call (fun i => 32 + i) cf21 (fun w hw => c_l_heldMachine fl w (⟨(⟨x109.2.1, x109.2.2.1⟩ : T), (⟨x109.2.2.2.1, x57.1.c.h⟩ : Ca), (⟨x57.1.g.c, x57.1.g.n, x57.1.g.r, x109.2.2.2.2⟩ : Tg), x57.1.s⟩ : Mc) p58 ((x57.1.t.b).length) c60 p62 ((x57.1.t.f).length) c64 p66 ((x57.1.c.l).length) c68 p70 ((x57.1.g.o).length) c72 1 (by simp [hl110]) (OwnC.pass (id := 15) rfl o110 hw) (by simp [hl111]) (OwnC.pass (id := 16) rfl o111 hw) (by simp [hl112]) (OwnC.pass (id := 17) rfl o112 hw) (by simp [hl113]) (OwnC.pass (id := 18) rfl o113 hw) x114 e114) (sevs_cons rfl (sevs_cons rfl sevs_nil))) rfl ?_))))))))
                          rintro _ _ ⟨_, ⟨rfl, rfl⟩, rfl⟩
                          refine oD (sg rfl) rfl (nn (cw_seq (sr (oD (mv rfl) rfl (oD (stp_lss rfl rfl) rfl (nn (cw_cond rfl (fun h115 => ?_) (fun h115 => ?_))))))))
                          · have H0 := cond_t H0 h115
                            refine sr (oD (sg rfl) rfl (nn (cw_ret (kw_nx_ret ?_))))
                            have q0 := Option.some.inj H0
                            subst q0
                            exact kw_ret Tryz.results7 (.cons (.tmp rfl) .nil) [] [] trivial (by decide) ⟨rfl, rfl⟩
                          · have H0 := cond_f H0 h115
                            refine cw_skip (kw_nx (cw_seq (sr (oD (mv rfl) rfl (oD (mv rfl) rfl (oD (stp_neq rfl rfl) rfl (nn (cw_cond rfl (fun h116 => ?_) (fun h116 => ?_)))))))))
                            · have H0 := cond_t H0 h116
                              refine sr (oD (sg rfl) rfl (nn (cw_ret (kw_nx_ret ?_))))
                              have q0 := Option.some.inj H0
                              subst q0
                              exact kw_ret Tryz.results7 (.cons (.tmp rfl) .nil) [] [] trivial (by decide) ⟨rfl, rfl⟩
                            · have H0 := cond_f H0 h116
                              obtain ⟨x117, e117, H0⟩ := bind_some H0
                              refine cw_skip (kw_nx (sr (oD (stp_loadN (us := [_, _, _, _, _, _, _, _, _]) ts33 rfl (Cells.box (id := 0) rfl 9 rfl)) rfl (oE (stpU_call (fun i => 32 + i) cf16 (fun w hw => c_l_toMachine fl w a0 p0_0 ((a0.t.b).length) c0_0 p0_1 ((a0.t.f).length) c0_1 p0_2 ((a0.c.l).length) c0_2 p0_3 ((a0.g.o).length) c0_3 rfl (RO.pass hr0_0 hw) rfl (RO.pass hr0_1 hw) rfl (RO.pass hr0_2 hw) rfl (RO.pass hr0_3 hw) x117 e117) (sevs_cons rfl sevs_nil)) rfl ?_))))
                              rintro _ _ ⟨_, ⟨p118, n119, c120, C121, p122, n123, c124, C125, p126, n127, c128, C129, p130, n131, c132, C133, rfl, rfl, hnn119, o121, hnn123, o125, hnn127, o129, hnn131, o133⟩, rfl⟩
                              obtain rfl := hnn119
                              obtain rfl := hnn123
                              obtain rfl := hnn127
                              obtain rfl := hnn131
                              obtain ⟨x134, e134, H0⟩ := bind_some H0
                              refine oD (mv rfl) rfl (oD (mv rfl) rfl (oE (stpU_call (fun i => 36 + i) cf29 (fun w hw => c_i_TouchPage fl w x117 p118 ((x117.t.b).length) c120 p122 ((x117.t.f).length) c124 p126 ((x117.c.l).length) c128 p130 ((x117.g.o).length) c132 a1 a2 rfl (OwnC.pass (id := 32) rfl o121 hw) rfl (OwnC.pass (id := 33) rfl o125 hw) rfl (OwnC.pass (id := 34) rfl o129 hw) rfl (OwnC.pass (id := 35) rfl o133 hw) (RO.pass hg hw) x134 e134) (sevs_cons rfl (sevs_cons rfl (sevs_cons rfl sevs_nil)))) rfl ?_))
                              rintro _ _ ⟨_, ⟨p135, n136, c137, C138, p139, n140, c141, C142, p143, n144, c145, C146, p147, n148, c149, C150, rfl, rfl, hnn136, o138, hnn140, o142, hnn144, o146, hnn148, o150⟩, rfl⟩
                              obtain rfl := hnn136
                              obtain rfl := hnn140
                              obtain rfl := hnn144
                              obtain rfl := hnn148
                              refine oD (mv rfl) rfl (oD (stp_extract rfl rfl) rfl (oD (stp_extract rfl rfl) rfl (oD (stp_extract rfl rfl) rfl (oD (stp_extract rfl rfl) rfl (oE (stpU_alloc 40 tz47 rfl) rfl ?_)))))
                              rintro _ _ ⟨b151, rfl, rfl⟩
                              refine oF (stpU_store (id := 40) (cs' := [.slice p135 ((x134.1.t.b).length) c137, .slice p139 ((x134.1.t.f).length) c141, .slice p143 ((x134.1.c.l).length) c145, .int .i64 x134.1.c.h, .int .i64 x134.1.g.c, .int .i64 x134.1.g.n, .int .i64 x134.1.g.r, .slice p147 ((x134.1.g.o).length) c149, .int .i64 x134.1.s]) ts47 rfl rfl rfl rfl rfl rfl rfl) ?_
                              rintro _ _ rfl
                              obtain ⟨x152, e152, H0⟩ := bind_some H0
                              refine oD (sg rfl) rfl (oD (sg rfl) rfl (oD (sg rfl) rfl (nn (cw_seq (sr (oD (stp_loadN (us := [_, _, _, _, _, _, _, _, _]) ts47 rfl (Cells.box (id := 40) rfl 9 rfl)) rfl (oD (stp_loadN (us := [_, _, _, _, _, _, _, _, _]) ts47 rfl (Cells.box (id := 9) rfl 9 rfl)) rfl (oE (stpU_call (fun i => 41 + i) cf19 (fun w hw => c_l_eqMachine fl w x134.1 p135 ((x134.1.t.b).length) c137 p139 ((x134.1.t.f).length) c141 p143 ((x134.1.c.l).length) c145 p147 ((x134.1.g.o).length) c149 x21.1 p22 ((x21.1.t.b).length) c24 p26 ((x21.1.t.f).length) c28 p30 ((x21.1.c.l).length) c32 p34 ((x21.1.g.o).length) c36 rfl (OwnC.pass (id := 36) rfl o138 hw) rfl (OwnC.pass (id := 37) rfl o142 hw) rfl (OwnC.pass (id := 38) rfl o146 hw) rfl (OwnC.pass (id := 39) rfl o150 hw) rfl (OwnC.pass (id := 5) rfl o25 hw) rfl (OwnC.pass (id := 6) rfl o29 hw) rfl (OwnC.pass (id := 7) rfl o33 hw) rfl (OwnC.pass (id := 8) rfl o37 hw) x152 e152) (sevs_cons rfl (sevs_cons rfl sevs_nil))) rfl ?_))))))))
                              rintro _ _ ⟨_, ⟨rfl, rfl⟩, rfl⟩
                              obtain ⟨y153, ey153, H0⟩ := bind_some H0
                              refine oD (stp_not rfl) rfl (oD (mv rfl) rfl (ow_cutY 4 129 y153 ?_ ?_))
                              · rcases Bool.eq_false_or_eq_true (!x152) with hy153 | hy153
                                · have ey153 := cond_t ey153 hy153
                                  refine oO rfl hy153 rfl (oO rfl hy153 rfl (oO rfl hy153 rfl (oD (stp_pick_t rfl hy153 rfl) rfl ?_)))
                                  obtain rfl := Option.some.inj ey153
                                  exact ow_nil (jy 4 0)
                                · have ey153 := cond_f ey153 hy153
                                  refine oG rfl hy153 (mv rfl) rfl (oG rfl hy153 (mv rfl) rfl (oG rfl hy153 (stp_neq rfl rfl) rfl (oD (stp_pick_f rfl hy153 rfl) rfl ?_)))
                                  obtain rfl := Option.some.inj ey153
                                  exact ow_nil (jy 4 0)
                              · obtain ⟨y154, ey154, H0⟩ := bind_some H0
                                refine oD (mv rfl) rfl (ow_cutY 4 134 y154 ?_ ?_)
                                · rcases Bool.eq_false_or_eq_true y153 with hy154 | hy154
                                  · have ey154 := cond_t ey154 hy154
                                    refine oO rfl hy154 rfl (oO rfl hy154 rfl (oO rfl hy154 rfl (oD (stp_pick_t rfl hy154 rfl) rfl ?_)))
                                    obtain rfl := Option.some.inj ey154
                                    exact ow_nil (jy 4 0)
                                  · have ey154 := cond_f ey154 hy154
                                    refine oG rfl hy154 (mv rfl) rfl (oG rfl hy154 (mv rfl) rfl (oG rfl hy154 (stp_neq rfl rfl) rfl (oD (stp_pick_f rfl hy154 rfl) rfl ?_)))
                                    obtain rfl := Option.some.inj ey154
                                    exact ow_nil (jy 4 0)
                                · obtain ⟨y155, ey155, H0⟩ := bind_some H0
                                  refine oD (mv rfl) rfl (ow_cutY 4 139 y155 ?_ ?_)
                                  · rcases Bool.eq_false_or_eq_true y154 with hy155 | hy155
                                    · have ey155 := cond_t ey155 hy155
                                      refine oO rfl hy155 rfl (oO rfl hy155 rfl (oO rfl hy155 rfl (oD (stp_pick_t rfl hy155 rfl) rfl ?_)))
                                      obtain rfl := Option.some.inj ey155
                                      exact ow_nil (jy 4 0)
                                    · have ey155 := cond_f ey155 hy155
                                      refine oG rfl hy155 (mv rfl) rfl (oG rfl hy155 (mv rfl) rfl (oG rfl hy155 (stp_neqB Tryz.underlying4 rfl rfl) rfl (oD (stp_pick_f rfl hy155 rfl) rfl ?_)))
                                      obtain rfl := Option.some.inj ey155
                                      exact ow_nil (jy 4 0)
                                  · refine ow_nil (kw_nx (cw_cond rfl (fun h156 => ?_) (fun h156 => ?_)))
                                    · have H0 := cond_t H0 h156
                                      refine sr (oD (sg rfl) rfl (nn (cw_ret (kw_nx_ret ?_))))
                                      have q0 := Option.some.inj H0
                                      subst q0
                                      exact kw_ret Tryz.results7 (.cons (.tmp rfl) .nil) [] [] trivial (by decide) ⟨rfl, rfl⟩
                                    · have H0 := cond_f H0 h156
                                      refine cw_skip (kw_nx (sr (oD (sg rfl) rfl (nn (sr (oD (stp_loadN (us := [_, _, _, _, _, _, _, _, _]) ts47 rfl (Cells.box (id := 19) rfl 9 rfl)) rfl (oD (mv rfl) rfl (oE (stpU_call (fun i => 41 + i) cf21 (fun w hw => c_l_heldMachine fl w (⟨(⟨x109.2.1, x109.2.2.1⟩ : T), (⟨x109.2.2.2.1, x57.1.c.h⟩ : Ca), (⟨x57.1.g.c, x57.1.g.n, x57.1.g.r, x109.2.2.2.2⟩ : Tg), x57.1.s⟩ : Mc) p58 ((x57.1.t.b).length) c60 p62 ((x57.1.t.f).length) c64 p66 ((x57.1.c.l).length) c68 p70 ((x57.1.g.o).length) c72 1 (by simp [hl110]) (OwnC.pass (id := 15) rfl o110 hw) (by simp [hl111]) (OwnC.pass (id := 16) rfl o111 hw) (by simp [hl112]) (OwnC.pass (id := 17) rfl o112 hw) (by simp [hl113]) (OwnC.pass (id := 18) rfl o113 hw) x114 e114) (sevs_cons rfl (sevs_cons rfl sevs_nil))) rfl ?_))))))))
                                      rintro _ _ ⟨_, ⟨rfl, rfl⟩, rfl⟩
                                      refine oD (sg rfl) rfl (nn (cw_seq (sr (oD (mv rfl) rfl (oD (stp_lss rfl rfl) rfl (nn (cw_cond rfl (fun h157 => ?_) (fun h157 => ?_))))))))
                                      · have H0 := cond_t H0 h157
                                        refine sr (oD (sg rfl) rfl (nn (cw_ret (kw_nx_ret ?_))))
                                        have q0 := Option.some.inj H0
                                        subst q0
                                        exact kw_ret Tryz.results7 (.cons (.tmp rfl) .nil) [] [] trivial (by decide) ⟨rfl, rfl⟩
                                      · have H0 := cond_f H0 h157
                                        refine cw_skip (kw_nx (cw_seq (sr (oD (mv rfl) rfl (oD (mv rfl) rfl (oD (stp_neq rfl rfl) rfl (nn (cw_cond rfl (fun h158 => ?_) (fun h158 => ?_)))))))))
                                        · have H0 := cond_t H0 h158
                                          refine sr (oD (sg rfl) rfl (nn (cw_ret (kw_nx_ret ?_))))
                                          have q0 := Option.some.inj H0
                                          subst q0
                                          exact kw_ret Tryz.results7 (.cons (.tmp rfl) .nil) [] [] trivial (by decide) ⟨rfl, rfl⟩
                                        · have H0 := cond_f H0 h158
                                          refine cw_skip (kw_nx (sr (oD (sg rfl) rfl (nn (cw_ret ?_)))))
                                          have q0 := Option.some.inj H0
                                          subst q0
                                          exact kw_ret Tryz.results7 (.cons (.tmp rfl) .nil) [] [] trivial (by decide) ⟨rfl, rfl⟩
end Go.Proofs.YtbgodaeccgjdgaaGreatDoor
