/- The walks: functions of the program return what their pure functions say. Printed by a program (gen.py). -/
import Derived.Test.YtbgodaeccgjdgaaGreatDoorGp
import Derived.Test.YtbgodaeccgjdgaaGreatDoorGt
import Derived.Test.YtbgodaeccgjdgaaGreatDoorMan
import Derived.Test.YtbgodaeccgjdgaaGreatDoorMap
import Derived.Test.YtbgodaeccgjdgaaGreatDoorGwaa
import Derived.Test.YtbgodaeccgjdgaaGreatDoorGwab
import Derived.Test.YtbgodaeccgjdgaaGreatDoorGwac
import Derived.Test.YtbgodaeccgjdgaaGreatDoorGwaj
import Derived.Test.YtbgodaeccgjdgaaGreatDoorGwal
set_option linter.unusedSimpArgs false
set_option linter.unusedVariables false
set_option linter.unusedSectionVars false
namespace Go.Proofs.YtbgodaeccgjdgaaGreatDoor
open Go.RowKit
set_option maxHeartbeats 4000000 in
set_option maxRecDepth 20000 in
theorem c_s_WireLine (fl : Nat) (w : World) (a0 : Ca) (p0_0 : Option Addr) (n0_0 c0_0 : Nat) (a1 : Int) (a2 : Bool) (hn0_0 : n0_0 = (a0.l).length) (hr0_0 : RO w (hkeys []) (RdL p0_0 c0_0 a0.l)) (r : Ca × Bool) (H0 : s_WireLine fl a0 a1 a2 = some r) :
    Ct Tryz.prog 97 [.agg #[.slice p0_0 n0_0 c0_0, .int .i64 a0.h], .int .i64 a1, .bool a2] w [] (fun rv h' => ∃ (x0 : Option Addr) (y0 z0 : Nat) (C0 : Res), rv = .tuple #[.agg #[.slice x0 y0 z0, .int .i64 r.1.h], .bool r.2] ∧ h' = [(0, C0)] ∧ y0 = (r.1.l).length ∧ OwnC 112 x0 z0 r.1.l C0) := by
  obtain rfl := hn0_0
  unfold s_WireLine at H0
  refine ct_of_cw Tryz.func97 rfl Tryz.ntmps97 rfl (Sat.refl _ _) ?_
  refine sr (oE (stpU_box 0 rfl rfl) rfl ?_)
  rintro _ _ ⟨b1, rfl, rfl⟩
  refine oE (stpU_alloc 1 tz42 rfl) rfl ?_
  rintro _ _ ⟨b2, rfl, rfl⟩
  obtain ⟨x3, e3, H0⟩ := bind_some H0
  refine oD (sg rfl) rfl (nn (cw_seq (sr (oD (stp_loadN (us := [_, _]) ts42 rfl (Cells.box (id := 0) rfl 2 rfl)) rfl (oE (stpU_call (fun i => 2 + i) cf125 (fun w hw => c_s_CacheValid fl w a0 p0_0 ((a0.l).length) c0_0 rfl (RO.pass hr0_0 hw) x3 e3) (sevs_cons rfl sevs_nil)) rfl ?_)))))
  rintro _ _ ⟨_, ⟨rfl, rfl⟩, rfl⟩
  obtain ⟨y4, ey4, H0⟩ := bind_some H0
  refine oD (stp_not rfl) rfl (oD (mv rfl) rfl (ow_cutY 3 15 y4 ?_ ?_))
  · rcases Bool.eq_false_or_eq_true (!x3) with hy4 | hy4
    · have ey4 := cond_t ey4 hy4
      refine oO rfl hy4 rfl (oO rfl hy4 rfl (oD (stp_pick_t rfl hy4 rfl) rfl ?_))
      obtain rfl := Option.some.inj ey4
      exact ow_nil (jy 3 0)
    · have ey4 := cond_f ey4 hy4
      refine oG rfl hy4 (mv rfl) rfl (oG rfl hy4 (stp_lss rfl rfl) rfl (oD (stp_pick_f rfl hy4 rfl) rfl ?_))
      obtain rfl := Option.some.inj ey4
      exact ow_nil (jy 3 0)
  · obtain ⟨y5, ey5, H0⟩ := bind_some H0
    refine oD (mv rfl) rfl (ow_cutY 6 22 y5 ?_ ?_)
    · rcases Bool.eq_false_or_eq_true y4 with hy5 | hy5
      · have ey5 := cond_t ey5 hy5
        refine oO rfl hy5 rfl (oO rfl hy5 rfl (oO rfl hy5 rfl (oO rfl hy5 rfl (oO rfl hy5 rfl (oD (stp_pick_t rfl hy5 rfl) rfl ?_)))))
        obtain rfl := Option.some.inj ey5
        exact ow_nil (jy 6 0)
      · have ey5 := cond_f ey5 hy5
        refine oG rfl hy5 (mv rfl) rfl (oG rfl hy5 (fA 0 Tryz.underlying42 rfl ts40 rfl rfl rfl) rfl (oG rfl hy5 (lB 0 ts40 rfl rfl rfl) rfl (oG rfl hy5 (stp_len Tryz.underlying40 rfl) rfl (oG rfl hy5 (stp_geq rfl rfl) rfl (oD (stp_pick_f rfl hy5 rfl) rfl ?_)))))
        obtain rfl := Option.some.inj ey5
        exact ow_nil (jy 6 0)
    · obtain ⟨y6, ey6, H0⟩ := bind_some H0
      refine oD (mv rfl) rfl (ow_cutY 8 31 y6 ?_ ?_)
      · rcases Bool.eq_false_or_eq_true y5 with hy6 | hy6
        · have ey6 := cond_t ey6 hy6
          refine oO rfl hy6 rfl (oO rfl hy6 rfl (oO rfl hy6 rfl (oO rfl hy6 rfl (oO rfl hy6 rfl (oO rfl hy6 rfl (oO rfl hy6 rfl (oD (stp_pick_t rfl hy6 rfl) rfl ?_)))))))
          obtain rfl := Option.some.inj ey6
          exact ow_nil (jy 8 0)
        · have ey6 := cond_f ey6 hy6
          obtain ⟨x7, e7, ey6⟩ := bind_some ey6
          refine oG rfl hy6 (fA 0 Tryz.underlying42 rfl ts40 rfl rfl rfl) rfl (oG rfl hy6 (lB 0 ts40 rfl rfl rfl) rfl (oG rfl hy6 (mv rfl) rfl (oG rfl hy6 (stp_indexAddr Tryz.underlying40 ts112 (by decide) rfl rfl rfl (Rdb.ro hr0_0) e7) rfl (oG rfl hy6 (fA 0 Tryz.underlying112 rfl ts4 rfl rfl rfl) rfl (oG rfl hy6 (stp_load1 ts4 rfl (Cells.el (Rdb.ro hr0_0) (by decide) e7 0 1 rfl)) rfl (oG rfl hy6 (stp_not rfl) rfl (oD (stp_pick_f rfl hy6 rfl) rfl ?_)))))))
          obtain rfl := Option.some.inj ey6
          exact ow_nil (jy 8 0)
      · refine ow_nil (kw_nx (cw_cond rfl (fun h8 => ?_) (fun h8 => ?_)))
        · have H0 := cond_t H0 h8
          refine sr (oD (stp_build (cs := #[.slice none 0 0, .int .i64 0]) sevp_nil bt42_14) rfl (oF (stpU_store (id := 1) (cs' := [.slice none 0 0, .int .i64 0]) ts42 rfl rfl rfl rfl rfl rfl rfl) ?_))
          rintro _ _ rfl
          refine oD (sg rfl) rfl (nn (cw_ret (kw_nx_ret (kw_addNil 2 ?_))))
          have q0 := Option.some.inj H0
          subst q0
          exact kw_ret Tryz.results97 (.cons (.cellN (us := [_, _]) ts42 rfl (Cells.box (id := 1) rfl 2 rfl)) (.cons (.tmp rfl) .nil)) [(0, [])] [2] ⟨2, [], rfl, rfl, trivial⟩ (by decide) ⟨none, 0, 0, [], rfl, rfl, rfl, (OwnC.nil _ _)⟩
        · have H0 := cond_f H0 h8
          obtain ⟨x9, e9, H0⟩ := bind_some H0
          refine cw_skip (kw_nx (sr (oD (stp_loadN (us := [_, _]) ts42 rfl (Cells.box (id := 0) rfl 2 rfl)) rfl (oE (stpU_call (fun i => 3 + i) cf132 (fun w hw => c_s_l4Copy fl w a0 p0_0 ((a0.l).length) c0_0 rfl (RO.pass hr0_0 hw) x9 e9) (sevs_cons rfl sevs_nil)) rfl ?_))))
          rintro _ _ ⟨_, ⟨p10, n11, c12, C13, rfl, rfl, hnn11, o13⟩, rfl⟩
          obtain rfl := hnn11
          refine oE (stpU_alloc 4 tz42 rfl) rfl ?_
          rintro _ _ ⟨b14, rfl, rfl⟩
          refine oF (stpU_store (id := 4) (cs' := [.slice p10 ((x9.l).length) c12, .int .i64 x9.h]) ts42 rfl rfl rfl rfl rfl rfl rfl) ?_
          rintro _ _ rfl
          obtain ⟨x15, e15, H0⟩ := bind_some H0
          refine nn (sr (oD (fA 0 Tryz.underlying42 rfl ts40 rfl rfl rfl) rfl (oD (lB 4 ts40 rfl rfl rfl) rfl (oD (mv rfl) rfl (oD (mv rfl) rfl (oD (stp_indexAddr Tryz.underlying40 ts112 (by decide) rfl rfl rfl (Rdb.own (id := 3) rfl o13) e15) rfl (oD (fA 5 Tryz.underlying112 rfl ts4 rfl rfl rfl) rfl (oF (stpU_storeEl (id := 3) (i := 5) (⟨x15.va, x15.tg, x15.pg, x15.fr, x15.ri, a2⟩ : Ln) (by decide) ts4 rfl rfl rfl o13 e15 rfl rfl rfl rfl) ?_))))))))
          rintro _ _ ⟨C16, rfl, o16⟩
          obtain ⟨x17, e17, H0⟩ := bind_some H0
          refine nn (cw_seq (sr (oD (stp_loadN (us := [_, _]) ts42 rfl (Cells.box (id := 4) rfl 2 rfl)) rfl (oE (stpU_call (fun i => 5 + i) cf125 (fun w hw => c_s_CacheValid fl w (⟨(x9.l.set (Int.toNat a1) (⟨x15.va, x15.tg, x15.pg, x15.fr, x15.ri, a2⟩ : Ln)), x9.h⟩ : Ca) p10 ((x9.l).length) c12 (by simp) (OwnC.pass (id := 3) rfl o16 hw) x17 e17) (sevs_cons rfl sevs_nil)) rfl ?_))))
          rintro _ _ ⟨_, ⟨rfl, rfl⟩, rfl⟩
          refine oD (stp_not rfl) rfl (nn (cw_cond rfl (fun h18 => ?_) (fun h18 => ?_)))
          · have H0 := cond_t H0 h18
            refine sr (oD (stp_build (cs := #[.slice none 0 0, .int .i64 0]) sevp_nil bt42_14) rfl (oF (stpU_store (id := 1) (cs' := [.slice none 0 0, .int .i64 0]) ts42 rfl rfl rfl rfl rfl rfl rfl) ?_))
            rintro _ _ rfl
            refine oD (sg rfl) rfl (nn (cw_ret (kw_nx_ret (kw_addNil 5 ?_))))
            have q0 := Option.some.inj H0
            subst q0
            exact kw_ret Tryz.results97 (.cons (.cellN (us := [_, _]) ts42 rfl (Cells.box (id := 1) rfl 2 rfl)) (.cons (.tmp rfl) .nil)) [(0, [])] [5] ⟨5, [], rfl, rfl, trivial⟩ (by decide) ⟨none, 0, 0, [], rfl, rfl, rfl, (OwnC.nil _ _)⟩
          · have H0 := cond_f H0 h18
            refine cw_skip (kw_nx (sr (oD (stp_loadN (us := [_, _]) ts42 rfl (Cells.box (id := 4) rfl 2 rfl)) rfl (oF (stpU_store (id := 1) (cs' := [.slice p10 ((x9.l).length) c12, .int .i64 x9.h]) ts42 rfl rfl rfl rfl rfl rfl rfl) ?_))))
            rintro _ _ rfl
            refine oD (sg rfl) rfl (nn (cw_ret ?_))
            have q0 := Option.some.inj H0
            subst q0
            exact kw_ret Tryz.results97 (.cons (.cellN (us := [_, _]) ts42 rfl (Cells.box (id := 1) rfl 2 rfl)) (.cons (.tmp rfl) .nil)) [(0, C16)] [3] ⟨3, [], rfl, rfl, trivial⟩ (by decide) ⟨p10, ((x9.l).length), c12, C16, rfl, rfl, (by simp), o16⟩

set_option maxHeartbeats 4000000 in
set_option maxRecDepth 20000 in
theorem c_s_WirePage (fl : Nat) (w : World) (a0 : Mc) (p0_0 : Option Addr) (n0_0 c0_0 : Nat) (p0_1 : Option Addr) (n0_1 c0_1 : Nat) (p0_2 : Option Addr) (n0_2 c0_2 : Nat) (p0_3 : Option Addr) (n0_3 c0_3 : Nat) (a1 : Int) (hn0_0 : n0_0 = (a0.t.b).length) (hr0_0 : RO w (hkeys []) (RdL p0_0 c0_0 a0.t.b)) (hn0_1 : n0_1 = (a0.t.f).length) (hr0_1 : RO w (hkeys []) (RdL p0_1 c0_1 a0.t.f)) (hn0_2 : n0_2 = (a0.c.l).length) (hr0_2 : RO w (hkeys []) (RdL p0_2 c0_2 a0.c.l)) (hn0_3 : n0_3 = (a0.g.o).length) (hr0_3 : RO w (hkeys []) (RdL p0_3 c0_3 a0.g.o)) (r : Mc × Bool) (H0 : s_WirePage fl a0 a1 = some r) :
    Ct Tryz.prog 30 [.agg #[.slice p0_0 n0_0 c0_0, .slice p0_1 n0_1 c0_1, .slice p0_2 n0_2 c0_2, .int .i64 a0.c.h, .int .i64 a0.g.c, .int .i64 a0.g.n, .int .i64 a0.g.r, .slice p0_3 n0_3 c0_3, .int .i64 a0.s], .int .i64 a1] w [] (fun rv h' => ∃ (x0 : Option Addr) (y0 z0 : Nat) (C0 : Res) (x1 : Option Addr) (y1 z1 : Nat) (C1 : Res) (x2 : Option Addr) (y2 z2 : Nat) (C2 : Res) (x3 : Option Addr) (y3 z3 : Nat) (C3 : Res), rv = .tuple #[.agg #[.slice x0 y0 z0, .slice x1 y1 z1, .slice x2 y2 z2, .int .i64 r.1.c.h, .int .i64 r.1.g.c, .int .i64 r.1.g.n, .int .i64 r.1.g.r, .slice x3 y3 z3, .int .i64 r.1.s], .bool r.2] ∧ h' = [(0, C0), (1, C1), (2, C2), (3, C3)] ∧ y0 = (r.1.t.b).length ∧ OwnC 3 x0 z0 r.1.t.b C0 ∧ y1 = (r.1.t.f).length ∧ OwnC 127 x1 z1 r.1.t.f C1 ∧ y2 = (r.1.c.l).length ∧ OwnC 112 x2 z2 r.1.c.l C2 ∧ y3 = (r.1.g.o).length ∧ OwnC 148 x3 z3 r.1.g.o C3) := by
  obtain rfl := hn0_0
  obtain rfl := hn0_1
  obtain rfl := hn0_2
  obtain rfl := hn0_3
  unfold s_WirePage at H0
  refine ct_of_cw Tryz.func30 rfl Tryz.ntmps30 rfl (Sat.refl _ _) ?_
  refine sr (oE (stpU_box 0 rfl rfl) rfl ?_)
  rintro _ _ ⟨b1, rfl, rfl⟩
  refine oE (stpU_alloc 1 tz47 rfl) rfl ?_
  rintro _ _ ⟨b2, rfl, rfl⟩
  obtain ⟨x3, e3, H0⟩ := bind_some H0
  refine oD (sg rfl) rfl (nn (sr (oD (stp_loadN (us := [_, _, _, _, _, _, _, _, _]) ts47 rfl (Cells.box (id := 0) rfl 9 rfl)) rfl (oD (mv rfl) rfl (oE (stpU_call (fun i => 2 + i) cf28 (fun w hw => c_s_TouchPage fl w a0 p0_0 ((a0.t.b).length) c0_0 p0_1 ((a0.t.f).length) c0_1 p0_2 ((a0.c.l).length) c0_2 p0_3 ((a0.g.o).length) c0_3 a1 0 rfl (RO.pass hr0_0 hw) rfl (RO.pass hr0_1 hw) rfl (RO.pass hr0_2 hw) rfl (RO.pass hr0_3 hw) x3 e3) (sevs_cons rfl (sevs_cons rfl (sevs_cons rfl sevs_nil)))) rfl ?_)))))
  rintro _ _ ⟨_, ⟨p4, n5, c6, C7, p8, n9, c10, C11, p12, n13, c14, C15, p16, n17, c18, C19, rfl, rfl, hnn5, o7, hnn9, o11, hnn13, o15, hnn17, o19⟩, rfl⟩
  obtain rfl := hnn5
  obtain rfl := hnn9
  obtain rfl := hnn13
  obtain rfl := hnn17
  refine oD (mv rfl) rfl (oD (stp_extract rfl rfl) rfl (oD (stp_extract rfl rfl) rfl (oD (stp_extract rfl rfl) rfl (oD (stp_extract rfl rfl) rfl (oE (stpU_alloc 6 tz47 rfl) rfl ?_)))))
  rintro _ _ ⟨b20, rfl, rfl⟩
  refine oF (stpU_store (id := 6) (cs' := [.slice p4 ((x3.1.t.b).length) c6, .slice p8 ((x3.1.t.f).length) c10, .slice p12 ((x3.1.c.l).length) c14, .int .i64 x3.1.c.h, .int .i64 x3.1.g.c, .int .i64 x3.1.g.n, .int .i64 x3.1.g.r, .slice p16 ((x3.1.g.o).length) c18, .int .i64 x3.1.s]) ts47 rfl rfl rfl rfl rfl rfl rfl) ?_
  rintro _ _ rfl
  obtain ⟨y21, ey21, H0⟩ := bind_some H0
  refine oD (sg rfl) rfl (oD (sg rfl) rfl (oD (sg rfl) rfl (nn (cw_seq (sr (oD (mv rfl) rfl (oD (stp_not rfl) rfl (oD (mv rfl) rfl (ow_cutY 3 25 y21 ?_ ?_)))))))))
  · rcases Bool.eq_false_or_eq_true (!x3.2.2.2) with hy21 | hy21
    · have ey21 := cond_t ey21 hy21
      refine oO rfl hy21 rfl (oO rfl hy21 rfl (oD (stp_pick_t rfl hy21 rfl) rfl ?_))
      obtain rfl := Option.some.inj ey21
      exact ow_nil (jy 3 0)
    · have ey21 := cond_f ey21 hy21
      refine oG rfl hy21 (mv rfl) rfl (oG rfl hy21 (stp_eql rfl rfl) rfl (oD (stp_pick_f rfl hy21 rfl) rfl ?_))
      obtain rfl := Option.some.inj ey21
      exact ow_nil (jy 3 0)
  · obtain ⟨y22, ey22, H0⟩ := bind_some H0
    refine oD (mv rfl) rfl (ow_cutY 3 29 y22 ?_ ?_)
    · rcases Bool.eq_false_or_eq_true y21 with hy22 | hy22
      · have ey22 := cond_t ey22 hy22
        refine oO rfl hy22 rfl (oO rfl hy22 rfl (oD (stp_pick_t rfl hy22 rfl) rfl ?_))
        obtain rfl := Option.some.inj ey22
        exact ow_nil (jy 3 0)
      · have ey22 := cond_f ey22 hy22
        refine oG rfl hy22 (mv rfl) rfl (oG rfl hy22 (stp_lss rfl rfl) rfl (oD (stp_pick_f rfl hy22 rfl) rfl ?_))
        obtain rfl := Option.some.inj ey22
        exact ow_nil (jy 3 0)
    · refine ow_nil (kw_nx (cw_cond rfl (fun h23 => ?_) (fun h23 => ?_)))
      · have H0 := cond_t H0 h23
        refine sr (oD (stp_build (cs := #[.slice none 0 0, .slice none 0 0, .slice none 0 0, .int .i64 0, .int .i64 0, .int .i64 0, .int .i64 0, .slice none 0 0, .int .i64 0]) sevp_nil bt47_3) rfl (oF (stpU_store (id := 1) (cs' := [.slice none 0 0, .slice none 0 0, .slice none 0 0, .int .i64 0, .int .i64 0, .int .i64 0, .int .i64 0, .slice none 0 0, .int .i64 0]) ts47 rfl rfl rfl rfl rfl rfl rfl) ?_))
        rintro _ _ rfl
        refine oD (sg rfl) rfl (nn (cw_ret (kw_nx_ret (kw_addNil 7 (kw_addNil 8 (kw_addNil 9 (kw_addNil 10 ?_)))))))
        have q0 := Option.some.inj H0
        subst q0
        exact kw_ret Tryz.results30 (.cons (.cellN (us := [_, _, _, _, _, _, _, _, _]) ts47 rfl (Cells.box (id := 1) rfl 9 rfl)) (.cons (.tmp rfl) .nil)) [(0, []), (1, []), (2, []), (3, [])] [7, 8, 9, 10] ⟨7, [8, 9, 10], rfl, rfl, 8, [9, 10], rfl, rfl, 9, [10], rfl, rfl, 10, [], rfl, rfl, trivial⟩ (by decide) ⟨none, 0, 0, [], none, 0, 0, [], none, 0, 0, [], none, 0, 0, [], rfl, rfl, rfl, (OwnC.nil _ _), rfl, (OwnC.nil _ _), rfl, (OwnC.nil _ _), rfl, (OwnC.nil _ _)⟩
      · have H0 := cond_f H0 h23
        obtain ⟨x24, e24, H0⟩ := bind_some H0
        obtain ⟨x25, e25, H0⟩ := bind_some H0
        refine cw_skip (kw_nx (cw_seq (rdr g_mixed [1, 6] [4, 6] { dst := dS [33, 34, 35, 36, 37, 38, 39, 32, 40, 41, 11, 0, 12], pre := gA [] [[], [0], [], [2], [], [2, 3, 4], rn 0 6, rn 0 7, rn 0 8, rn 0 8, [], [0, 1, 2, 3, 4, 5, 6, 7, 8, 10], rn 0 12], ids := gA [] [[], [], [], [], [], [], [11], [], [], [], [12], [12]], rs := rL [[(6, 0)], [(32, 1)], [(6, 0)], [(34, 3)], [(1, 0)], [(35, 4), (36, 5)], [(33, 2), (37, 6)], [(38, 7)], [(31, 8)], [(31, 8)], [], [(10, 11), (39, 9)], [(40, 10)]], rh := rL [[], [(6, 0)], [], [(6, 0)], [], [(4, 0)], [(4, 0)], [], [], [], [], [(12, 11)]], V := fun i g => gA undef [.pointer (some ⟨b20, 2, none⟩), .agg #[.slice p12 ((x3.1.c.l).length) c14, .int .i64 x3.1.c.h], .pointer (some ⟨b20, 2, none⟩), .agg #[.slice p12 ((x3.1.c.l).length) c14, .int .i64 x3.1.c.h], .int .i64 a1, .int .i64 x24, .tuple #[.agg #[.slice ((g 6).A 0) ((x25.1.l).length) ((g 6).C 0), .int .i64 x25.1.h], .bool x25.2], .tuple #[.agg #[.slice ((g 6).A 0) ((x25.1.l).length) ((g 6).C 0), .int .i64 x25.1.h], .bool x25.2], .agg #[.slice ((g 6).A 0) ((x25.1.l).length) ((g 6).C 0), .int .i64 x25.1.h], .bool x25.2, .pointer (some ⟨((g 10).C 0), 0, none⟩), undef, .bool x25.2] i, U := fun i g => match i with | 6 => [(11, ((g 6).R 0))] | 10 => [(12, [(((g 10).C 0), .cells #[.slice none 0 0, .int .i64 0] 42 (0, 0))])] | 11 => [(12, [(((g 10).C 0), .cells #[.slice ((g 6).A 0) ((x25.1.l).length) ((g 6).C 0), .int .i64 x25.1.h] 42 (0, 0))])] | _ => [], Φ := fun i x => match i with | 6 => OwnC (α := Ln) 112 (x.A 0) (x.C 0) x25.1.l (x.R 0) | _ => True } ?_ ?_)))
        · refine ⟨⟨⟨⟨⟨⟨⟨⟨⟨⟨⟨⟨⟨trivial, lc rfl rfl fun hs hh => stp_fieldAddr (j := 2) Tryz.underlying47 rfl ts42 rfl (sv hs 6 rfl) rfl⟩, lc rfl rfl fun hs hh => stp_loadN (us := [_, _]) ts42 (sv hs 32 rfl) (Cells.box (id := 6) (hh.get 6 _ rfl) 2 rfl)⟩, lc rfl rfl fun hs hh => stp_fieldAddr (j := 2) Tryz.underlying47 rfl ts42 rfl (sv hs 6 rfl) rfl⟩, lc rfl rfl fun hs hh => stp_loadN (us := [_, _]) ts42 (sv hs 34 rfl) (Cells.box (id := 6) (hh.get 6 _ rfl) 2 rfl)⟩, lc rfl rfl fun hs hh => stp_move (sv hs 1 rfl)⟩, ?_⟩, ?_⟩, lc rfl rfl fun hs hh => stp_move (sv hs 38 rfl)⟩, lc rfl rfl fun hs hh => stp_extract (sv hs 31 rfl) rfl⟩, lc rfl rfl fun hs hh => stp_extract (sv hs 31 rfl) rfl⟩, ?_⟩, ?_⟩, lc rfl rfl fun hs hh => stp_assign (sv hs 40 rfl)⟩
          · refine le rfl rfl (fun g hΦ s h hs hh => (stpU_call (fun i => 11 + i) cf85 (fun w hw => c_s_l4Find fl w x3.1.c p12 ((x3.1.c.l).length) c14 (-1) a1 rfl (OwnC.pass (id := 4) (hh.get 4 _ rfl) o15 hw) x24 e24) (sevs_cons (sv hs 35 rfl) (sevs_cons rfl (sevs_cons (sv hs 36 rfl) sevs_nil))))) ?_
            rintro g _ _ ⟨_, ⟨rfl, rfl⟩, rfl⟩
            exact ⟨⟨[], [], []⟩, trivial, .inr rfl, rfl⟩
          · refine le rfl rfl (fun g hΦ s h hs hh => (stpU_call (fun i => 11 + i) cf97 (fun w hw => c_s_WireLine fl w x3.1.c p12 ((x3.1.c.l).length) c14 x24 true rfl (OwnC.pass (id := 4) (hh.get 4 _ rfl) o15 hw) x25 e25) (sevs_cons (sv hs 33 rfl) (sevs_cons (sv hs 37 rfl) (sevs_cons rfl sevs_nil))))) ?_
            rintro g _ _ ⟨_, ⟨p26, n27, c28, C29, rfl, rfl, hnn27, o29⟩, rfl⟩
            obtain rfl := hnn27
            exact ⟨⟨[p26], [c28], [C29]⟩, o29, .inr rfl, rfl⟩
          · refine le rfl rfl (fun g hΦ s h hs hh => (stpU_alloc 12 tz42 rfl)) ?_
            rintro g _ _ ⟨b30, rfl, rfl⟩
            exact ⟨⟨[], [b30], []⟩, trivial, .inr rfl, rfl⟩
          · refine le rfl rfl (fun g hΦ s h hs hh => (stpU_store (id := 12) (cs' := [.slice ((g 6).A 0) ((x25.1.l).length) ((g 6).C 0), .int .i64 x25.1.h]) ts42 (sv hs 10 rfl) (sv hs 39 rfl) (hh.get 12 _ rfl) rfl rfl rfl rfl)) ?_
            rintro g _ _ rfl
            exact ⟨⟨[], [], []⟩, trivial, .inl rfl, rfl⟩
        · intro g hΦ
          refine kw_gen (ι := Option Addr × Nat × Res × Nat) (((g 6).A 0), ((g 6).C 0), ((g 6).R 0), ((g 10).C 0)) (fun | (p26, c28, C29, b30) => OwnC (α := Ln) 112 p26 c28 x25.1.l C29) (fun | (p26, c28, C29, b30) => [(4, .pointer (some ⟨b2, 0, none⟩)), (6, .pointer (some ⟨b20, 0, none⟩)), (10, .pointer (some ⟨b30, 0, none⟩)), (11, .bool x25.2)]) (fun | (p26, c28, C29, b30) => [(1, [(b2, .cells #[.slice none 0 0, .slice none 0 0, .slice none 0 0, .int .i64 0, .int .i64 0, .int .i64 0, .int .i64 0, .slice none 0 0, .int .i64 0] 47 (0, 0))]), (2, C7), (3, C11), (4, C15), (5, C19), (6, [(b20, .cells #[.slice p4 ((x3.1.t.b).length) c6, .slice p8 ((x3.1.t.f).length) c10, .slice p12 ((x3.1.c.l).length) c14, .int .i64 x3.1.c.h, .int .i64 x3.1.g.c, .int .i64 x3.1.g.n, .int .i64 x3.1.g.r, .slice p16 ((x3.1.g.o).length) c18, .int .i64 x3.1.s] 47 (0, 0))]), (11, C29), (12, [(b30, .cells #[.slice p26 ((x25.1.l).length) c28, .int .i64 x25.1.h] 42 (0, 0))])]) (hΦ 6 (by decide)) ⟨rfl, rfl, rfl, rfl, trivial⟩ ⟨rfl, rfl, rfl, rfl, rfl, rfl, rfl, rfl, trivial⟩ ?_
          rintro ⟨p26, c28, C29, b30⟩ o29
          have o29 : OwnC (α := Ln) 112 p26 c28 x25.1.l C29 := o29
          refine KW.sub (s' := [(4, .pointer (some ⟨b2, 0, none⟩)), (6, .pointer (some ⟨b20, 0, none⟩)), (10, .pointer (some ⟨b30, 0, none⟩)), (11, .bool x25.2)]) (h' := [(1, [(b2, .cells #[.slice none 0 0, .slice none 0 0, .slice none 0 0, .int .i64 0, .int .i64 0, .int .i64 0, .int .i64 0, .slice none 0 0, .int .i64 0] 47 (0, 0))]), (2, C7), (3, C11), (4, C15), (5, C19), (6, [(b20, .cells #[.slice p4 ((x3.1.t.b).length) c6, .slice p8 ((x3.1.t.f).length) c10, .slice p12 ((x3.1.c.l).length) c14, .int .i64 x3.1.c.h, .int .i64 x3.1.g.c, .int .i64 x3.1.g.n, .int .i64 x3.1.g.r, .slice p16 ((x3.1.g.o).length) c18, .int .i64 x3.1.s] 47 (0, 0))]), (11, C29), (12, [(b30, .cells #[.slice p26 ((x25.1.l).length) c28, .int .i64 x25.1.h] 42 (0, 0))])]) ?_ ⟨rfl, rfl, rfl, rfl, trivial⟩ ⟨rfl, rfl, rfl, rfl, rfl, rfl, rfl, rfl, trivial⟩
          refine kw_nx (cw_seq (sr (oD (mv rfl) rfl (oD (stp_not rfl) rfl (nn (cw_cond rfl (fun h31 => ?_) (fun h31 => ?_)))))))
          · have H0 := cond_t H0 h31
            refine sr (oD (stp_build (cs := #[.slice none 0 0, .slice none 0 0, .slice none 0 0, .int .i64 0, .int .i64 0, .int .i64 0, .int .i64 0, .slice none 0 0, .int .i64 0]) sevp_nil bt47_3) rfl (oF (stpU_store (id := 1) (cs' := [.slice none 0 0, .slice none 0 0, .slice none 0 0, .int .i64 0, .int .i64 0, .int .i64 0, .int .i64 0, .slice none 0 0, .int .i64 0]) ts47 rfl rfl rfl rfl rfl rfl rfl) ?_))
            rintro _ _ rfl
            refine oD (sg rfl) rfl (nn (cw_ret (kw_nx_ret (kw_addNil 13 (kw_addNil 14 (kw_addNil 15 (kw_addNil 16 ?_)))))))
            have q0 := Option.some.inj H0
            subst q0
            exact kw_ret Tryz.results30 (.cons (.cellN (us := [_, _, _, _, _, _, _, _, _]) ts47 rfl (Cells.box (id := 1) rfl 9 rfl)) (.cons (.tmp rfl) .nil)) [(0, []), (1, []), (2, []), (3, [])] [13, 14, 15, 16] ⟨13, [14, 15, 16], rfl, rfl, 14, [15, 16], rfl, rfl, 15, [16], rfl, rfl, 16, [], rfl, rfl, trivial⟩ (by decide) ⟨none, 0, 0, [], none, 0, 0, [], none, 0, 0, [], none, 0, 0, [], rfl, rfl, rfl, (OwnC.nil _ _), rfl, (OwnC.nil _ _), rfl, (OwnC.nil _ _), rfl, (OwnC.nil _ _)⟩
          · have H0 := cond_f H0 h31
            refine cw_skip (kw_nx (sr (oD (stp_loadN (us := [_, _]) ts42 rfl (Cells.box (id := 12) rfl 2 rfl)) rfl (oD (fA 2 Tryz.underlying47 rfl ts42 rfl rfl rfl) rfl (oF (stpU_store (id := 6) (cs' := [.slice p4 ((x3.1.t.b).length) c6, .slice p8 ((x3.1.t.f).length) c10, .slice p26 ((x25.1.l).length) c28, .int .i64 x25.1.h, .int .i64 x3.1.g.c, .int .i64 x3.1.g.n, .int .i64 x3.1.g.r, .slice p16 ((x3.1.g.o).length) c18, .int .i64 x3.1.s]) ts42 rfl rfl rfl rfl rfl rfl rfl) ?_)))))
            rintro _ _ rfl
            refine nn (sr (oD (stp_loadN (us := [_, _, _, _, _, _, _, _, _]) ts47 rfl (Cells.box (id := 6) rfl 9 rfl)) rfl (oF (stpU_store (id := 1) (cs' := [.slice p4 ((x3.1.t.b).length) c6, .slice p8 ((x3.1.t.f).length) c10, .slice p26 ((x25.1.l).length) c28, .int .i64 x25.1.h, .int .i64 x3.1.g.c, .int .i64 x3.1.g.n, .int .i64 x3.1.g.r, .slice p16 ((x3.1.g.o).length) c18, .int .i64 x3.1.s]) ts47 rfl rfl rfl rfl rfl rfl rfl) ?_)))
            rintro _ _ rfl
            refine oD (sg rfl) rfl (nn (cw_ret ?_))
            have q0 := Option.some.inj H0
            subst q0
            exact kw_ret Tryz.results30 (.cons (.cellN (us := [_, _, _, _, _, _, _, _, _]) ts47 rfl (Cells.box (id := 1) rfl 9 rfl)) (.cons (.tmp rfl) .nil)) [(0, C7), (1, C11), (2, C29), (3, C19)] [2, 3, 11, 5] ⟨2, [3, 11, 5], rfl, rfl, 3, [11, 5], rfl, rfl, 11, [5], rfl, rfl, 5, [], rfl, rfl, trivial⟩ (by decide) ⟨p4, ((x3.1.t.b).length), c6, C7, p8, ((x3.1.t.f).length), c10, C11, p26, ((x25.1.l).length), c28, C29, p16, ((x3.1.g.o).length), c18, C19, rfl, rfl, rfl, o7, rfl, o11, rfl, o29, rfl, o19⟩

set_option maxHeartbeats 4000000 in
set_option maxRecDepth 20000 in
theorem c_i_WireLine (fl : Nat) (w : World) (a0 : Ca) (p0_0 : Option Addr) (n0_0 c0_0 : Nat) (a1 : Int) (a2 : Bool) (hn0_0 : n0_0 = (a0.l).length) (hr0_0 : RO w (hkeys []) (RdL p0_0 c0_0 a0.l)) (r : Ca × Bool) (H0 : i_WireLine fl a0 a1 a2 = some r) :
    Ct Tryz.prog 98 [.agg #[.slice p0_0 n0_0 c0_0, .int .i64 a0.h], .int .i64 a1, .bool a2] w [] (fun rv h' => ∃ (x0 : Option Addr) (y0 z0 : Nat) (C0 : Res), rv = .tuple #[.agg #[.slice x0 y0 z0, .int .i64 r.1.h], .bool r.2] ∧ h' = [(0, C0)] ∧ y0 = (r.1.l).length ∧ OwnC 112 x0 z0 r.1.l C0) := by
  obtain rfl := hn0_0
  unfold i_WireLine at H0
  refine ct_of_cw Tryz.func98 rfl Tryz.ntmps98 rfl (Sat.refl _ _) ?_
  refine sr (oE (stpU_box 0 rfl rfl) rfl ?_)
  rintro _ _ ⟨b1, rfl, rfl⟩
  refine oE (stpU_alloc 1 tz42 rfl) rfl ?_
  rintro _ _ ⟨b2, rfl, rfl⟩
  obtain ⟨x3, e3, H0⟩ := bind_some H0
  refine oD (sg rfl) rfl (nn (cw_seq (sr (oD (stp_loadN (us := [_, _]) ts42 rfl (Cells.box (id := 0) rfl 2 rfl)) rfl (oE (stpU_call (fun i => 2 + i) cf139 (fun w hw => c_i_CacheValid fl w a0 p0_0 ((a0.l).length) c0_0 rfl (RO.pass hr0_0 hw) x3 e3) (sevs_cons rfl sevs_nil)) rfl ?_)))))
  rintro _ _ ⟨_, ⟨rfl, rfl⟩, rfl⟩
  obtain ⟨y4, ey4, H0⟩ := bind_some H0
  refine oD (stp_not rfl) rfl (oD (mv rfl) rfl (ow_cutY 7 20 y4 ?_ ?_))
  · rcases Bool.eq_false_or_eq_true (!x3) with hy4 | hy4
    · have ey4 := cond_t ey4 hy4
      refine oO rfl hy4 rfl (oO rfl hy4 rfl (oO rfl hy4 rfl (oO rfl hy4 rfl (oO rfl hy4 rfl (oO rfl hy4 rfl (oD (stp_pick_t rfl hy4 rfl) rfl ?_))))))
      obtain rfl := Option.some.inj ey4
      exact ow_nil (jy 7 0)
    · have ey4 := cond_f ey4 hy4
      obtain ⟨x5, e5, ey4⟩ := bind_some ey4
      refine oG rfl hy4 (mv rfl) rfl (oG rfl hy4 (fA 0 Tryz.underlying42 rfl ts40 rfl rfl rfl) rfl (oG rfl hy4 (lB 0 ts40 rfl rfl rfl) rfl (oG rfl hy4 (stp_len Tryz.underlying40 rfl) rfl (ow_eff (.some rfl hy4) (stpU_call (fun i => 2 + i) cf90 (fun w hw => c_i_within fl w a1 ((a0.l).length : Int) x5 e5) (sevs_cons rfl (sevs_cons rfl sevs_nil))) rfl ?_))))
      rintro _ _ ⟨_, ⟨rfl, rfl⟩, rfl⟩
      refine oG rfl hy4 (stp_not rfl) rfl (oD (stp_pick_f rfl hy4 rfl) rfl ?_)
      obtain rfl := Option.some.inj ey4
      exact ow_nil (jy 7 0)
  · obtain ⟨y6, ey6, H0⟩ := bind_some H0
    refine oD (mv rfl) rfl (ow_cutY 8 29 y6 ?_ ?_)
    · rcases Bool.eq_false_or_eq_true y4 with hy6 | hy6
      · have ey6 := cond_t ey6 hy6
        refine oO rfl hy6 rfl (oO rfl hy6 rfl (oO rfl hy6 rfl (oO rfl hy6 rfl (oO rfl hy6 rfl (oO rfl hy6 rfl (oO rfl hy6 rfl (oD (stp_pick_t rfl hy6 rfl) rfl ?_)))))))
        obtain rfl := Option.some.inj ey6
        exact ow_nil (jy 8 0)
      · have ey6 := cond_f ey6 hy6
        obtain ⟨x7, e7, ey6⟩ := bind_some ey6
        refine oG rfl hy6 (fA 0 Tryz.underlying42 rfl ts40 rfl rfl rfl) rfl (oG rfl hy6 (lB 0 ts40 rfl rfl rfl) rfl (oG rfl hy6 (mv rfl) rfl (oG rfl hy6 (stp_indexAddr Tryz.underlying40 ts112 (by decide) rfl rfl rfl (Rdb.ro hr0_0) e7) rfl (oG rfl hy6 (fA 0 Tryz.underlying112 rfl ts4 rfl rfl rfl) rfl (oG rfl hy6 (stp_load1 ts4 rfl (Cells.el (Rdb.ro hr0_0) (by decide) e7 0 1 rfl)) rfl (oG rfl hy6 (stp_not rfl) rfl (oD (stp_pick_f rfl hy6 rfl) rfl ?_)))))))
        obtain rfl := Option.some.inj ey6
        exact ow_nil (jy 8 0)
    · refine ow_nil (kw_nx (cw_cond rfl (fun h8 => ?_) (fun h8 => ?_)))
      · have H0 := cond_t H0 h8
        refine sr (oD (stp_build (cs := #[.slice none 0 0, .int .i64 0]) sevp_nil bt42_14) rfl (oF (stpU_store (id := 1) (cs' := [.slice none 0 0, .int .i64 0]) ts42 rfl rfl rfl rfl rfl rfl rfl) ?_))
        rintro _ _ rfl
        refine oD (sg rfl) rfl (nn (cw_ret (kw_nx_ret (kw_addNil 2 ?_))))
        have q0 := Option.some.inj H0
        subst q0
        exact kw_ret Tryz.results98 (.cons (.cellN (us := [_, _]) ts42 rfl (Cells.box (id := 1) rfl 2 rfl)) (.cons (.tmp rfl) .nil)) [(0, [])] [2] ⟨2, [], rfl, rfl, trivial⟩ (by decide) ⟨none, 0, 0, [], rfl, rfl, rfl, (OwnC.nil _ _)⟩
      · have H0 := cond_f H0 h8
        obtain ⟨x9, e9, H0⟩ := bind_some H0
        refine cw_skip (kw_nx (sr (oD (fA 0 Tryz.underlying42 rfl ts40 rfl rfl rfl) rfl (oD (lB 0 ts40 rfl rfl rfl) rfl (oD (mv rfl) rfl (oD (stp_indexAddr Tryz.underlying40 ts112 (by decide) rfl rfl rfl (Rdb.ro hr0_0) e9) rfl (oD (stp_loadN (us := [_, _, _, _, _, _]) ts112 rfl (Cells.el (Rdb.ro hr0_0) (by decide) e9 0 6 rfl)) rfl (oE (stpU_alloc 3 tz112 rfl) rfl ?_))))))))
        rintro _ _ ⟨b10, rfl, rfl⟩
        refine oF (stpU_store (id := 3) (cs' := [.bool x9.va, .int .i64 x9.tg, .int .i64 x9.pg, .int .i64 x9.fr, .int .i64 x9.ri, .bool x9.wi]) ts112 rfl rfl rfl rfl rfl rfl rfl) ?_
        rintro _ _ rfl
        refine nn (sr (oD (mv rfl) rfl (oD (fA 5 Tryz.underlying112 rfl ts4 rfl rfl rfl) rfl (oF (stpU_store (id := 3) (cs' := [.bool x9.va, .int .i64 x9.tg, .int .i64 x9.pg, .int .i64 x9.fr, .int .i64 x9.ri, .bool a2]) ts4 rfl rfl rfl rfl rfl rfl rfl) ?_))))
        rintro _ _ rfl
        obtain ⟨x11, e11, H0⟩ := bind_some H0
        refine nn (sr (oD (stp_loadN (us := [_, _]) ts42 rfl (Cells.box (id := 0) rfl 2 rfl)) rfl (oD (mv rfl) rfl (oD (stp_loadN (us := [_, _, _, _, _, _]) ts112 rfl (Cells.box (id := 3) rfl 6 rfl)) rfl (oE (stpU_call (fun i => 4 + i) cf178 (fun w hw => c_i_Cache_with fl w a0 p0_0 ((a0.l).length) c0_0 a1 (⟨x9.va, x9.tg, x9.pg, x9.fr, x9.ri, a2⟩ : Ln) rfl (RO.pass hr0_0 hw) x11 e11) (sevs_cons rfl (sevs_cons rfl (sevs_cons rfl sevs_nil)))) rfl ?_)))))
        rintro _ _ ⟨_, ⟨p12, n13, c14, C15, rfl, rfl, hnn13, o15⟩, rfl⟩
        obtain rfl := hnn13
        refine oE (stpU_alloc 5 tz42 rfl) rfl ?_
        rintro _ _ ⟨b16, rfl, rfl⟩
        refine oF (stpU_store (id := 5) (cs' := [.slice p12 ((x11.l).length) c14, .int .i64 x11.h]) ts42 rfl rfl rfl rfl rfl rfl rfl) ?_
        rintro _ _ rfl
        obtain ⟨x17, e17, H0⟩ := bind_some H0
        refine nn (cw_seq (sr (oD (stp_loadN (us := [_, _]) ts42 rfl (Cells.box (id := 5) rfl 2 rfl)) rfl (oE (stpU_call (fun i => 6 + i) cf139 (fun w hw => c_i_CacheValid fl w x11 p12 ((x11.l).length) c14 rfl (OwnC.pass (id := 4) rfl o15 hw) x17 e17) (sevs_cons rfl sevs_nil)) rfl ?_))))
        rintro _ _ ⟨_, ⟨rfl, rfl⟩, rfl⟩
        refine oD (stp_not rfl) rfl (nn (cw_cond rfl (fun h18 => ?_) (fun h18 => ?_)))
        · have H0 := cond_t H0 h18
          refine sr (oD (stp_build (cs := #[.slice none 0 0, .int .i64 0]) sevp_nil bt42_14) rfl (oF (stpU_store (id := 1) (cs' := [.slice none 0 0, .int .i64 0]) ts42 rfl rfl rfl rfl rfl rfl rfl) ?_))
          rintro _ _ rfl
          refine oD (sg rfl) rfl (nn (cw_ret (kw_nx_ret (kw_addNil 6 ?_))))
          have q0 := Option.some.inj H0
          subst q0
          exact kw_ret Tryz.results98 (.cons (.cellN (us := [_, _]) ts42 rfl (Cells.box (id := 1) rfl 2 rfl)) (.cons (.tmp rfl) .nil)) [(0, [])] [6] ⟨6, [], rfl, rfl, trivial⟩ (by decide) ⟨none, 0, 0, [], rfl, rfl, rfl, (OwnC.nil _ _)⟩
        · have H0 := cond_f H0 h18
          refine cw_skip (kw_nx (sr (oD (stp_loadN (us := [_, _]) ts42 rfl (Cells.box (id := 5) rfl 2 rfl)) rfl (oF (stpU_store (id := 1) (cs' := [.slice p12 ((x11.l).length) c14, .int .i64 x11.h]) ts42 rfl rfl rfl rfl rfl rfl rfl) ?_))))
          rintro _ _ rfl
          refine oD (sg rfl) rfl (nn (cw_ret ?_))
          have q0 := Option.some.inj H0
          subst q0
          exact kw_ret Tryz.results98 (.cons (.cellN (us := [_, _]) ts42 rfl (Cells.box (id := 1) rfl 2 rfl)) (.cons (.tmp rfl) .nil)) [(0, C15)] [4] ⟨4, [], rfl, rfl, trivial⟩ (by decide) ⟨p12, ((x11.l).length), c14, C15, rfl, rfl, rfl, o15⟩

set_option maxHeartbeats 4000000 in
set_option maxRecDepth 20000 in
theorem c_i_WirePage (fl : Nat) (w : World) (a0 : Mc) (p0_0 : Option Addr) (n0_0 c0_0 : Nat) (p0_1 : Option Addr) (n0_1 c0_1 : Nat) (p0_2 : Option Addr) (n0_2 c0_2 : Nat) (p0_3 : Option Addr) (n0_3 c0_3 : Nat) (a1 : Int) (hn0_0 : n0_0 = (a0.t.b).length) (hr0_0 : RO w (hkeys []) (RdL p0_0 c0_0 a0.t.b)) (hn0_1 : n0_1 = (a0.t.f).length) (hr0_1 : RO w (hkeys []) (RdL p0_1 c0_1 a0.t.f)) (hn0_2 : n0_2 = (a0.c.l).length) (hr0_2 : RO w (hkeys []) (RdL p0_2 c0_2 a0.c.l)) (hn0_3 : n0_3 = (a0.g.o).length) (hr0_3 : RO w (hkeys []) (RdL p0_3 c0_3 a0.g.o)) (hg : RO w (hkeys []) (fun w' => w'.rangeAt 0 0 [.bool false, .int .i64 0, .int .i64 0, .int .i64 0, .int .i64 (-1)])) (r : Mc × Bool) (H0 : i_WirePage fl a0 a1 = some r) :
    Ct Tryz.prog 31 [.agg #[.slice p0_0 n0_0 c0_0, .slice p0_1 n0_1 c0_1, .slice p0_2 n0_2 c0_2, .int .i64 a0.c.h, .int .i64 a0.g.c, .int .i64 a0.g.n, .int .i64 a0.g.r, .slice p0_3 n0_3 c0_3, .int .i64 a0.s], .int .i64 a1] w [] (fun rv h' => ∃ (x0 : Option Addr) (y0 z0 : Nat) (C0 : Res) (x1 : Option Addr) (y1 z1 : Nat) (C1 : Res) (x2 : Option Addr) (y2 z2 : Nat) (C2 : Res) (x3 : Option Addr) (y3 z3 : Nat) (C3 : Res), rv = .tuple #[.agg #[.slice x0 y0 z0, .slice x1 y1 z1, .slice x2 y2 z2, .int .i64 r.1.c.h, .int .i64 r.1.g.c, .int .i64 r.1.g.n, .int .i64 r.1.g.r, .slice x3 y3 z3, .int .i64 r.1.s], .bool r.2] ∧ h' = [(0, C0), (1, C1), (2, C2), (3, C3)] ∧ y0 = (r.1.t.b).length ∧ OwnC 3 x0 z0 r.1.t.b C0 ∧ y1 = (r.1.t.f).length ∧ OwnC 127 x1 z1 r.1.t.f C1 ∧ y2 = (r.1.c.l).length ∧ OwnC 112 x2 z2 r.1.c.l C2 ∧ y3 = (r.1.g.o).length ∧ OwnC 148 x3 z3 r.1.g.o C3) := by
  obtain rfl := hn0_0
  obtain rfl := hn0_1
  obtain rfl := hn0_2
  obtain rfl := hn0_3
  unfold i_WirePage at H0
  refine ct_of_cw Tryz.func31 rfl Tryz.ntmps31 rfl (Sat.refl _ _) ?_
  refine sr (oE (stpU_box 0 rfl rfl) rfl ?_)
  rintro _ _ ⟨b1, rfl, rfl⟩
  refine oE (stpU_alloc 1 tz47 rfl) rfl ?_
  rintro _ _ ⟨b2, rfl, rfl⟩
  obtain ⟨x3, e3, H0⟩ := bind_some H0
  refine oD (sg rfl) rfl (nn (sr (oD (stp_loadN (us := [_, _, _, _, _, _, _, _, _]) ts47 rfl (Cells.box (id := 0) rfl 9 rfl)) rfl (oD (mv rfl) rfl (oE (stpU_call (fun i => 2 + i) cf29 (fun w hw => c_i_TouchPage fl w a0 p0_0 ((a0.t.b).length) c0_0 p0_1 ((a0.t.f).length) c0_1 p0_2 ((a0.c.l).length) c0_2 p0_3 ((a0.g.o).length) c0_3 a1 0 rfl (RO.pass hr0_0 hw) rfl (RO.pass hr0_1 hw) rfl (RO.pass hr0_2 hw) rfl (RO.pass hr0_3 hw) (RO.pass hg hw) x3 e3) (sevs_cons rfl (sevs_cons rfl (sevs_cons rfl sevs_nil)))) rfl ?_)))))
  rintro _ _ ⟨_, ⟨p4, n5, c6, C7, p8, n9, c10, C11, p12, n13, c14, C15, p16, n17, c18, C19, rfl, rfl, hnn5, o7, hnn9, o11, hnn13, o15, hnn17, o19⟩, rfl⟩
  obtain rfl := hnn5
  obtain rfl := hnn9
  obtain rfl := hnn13
  obtain rfl := hnn17
  refine oD (mv rfl) rfl (oD (stp_extract rfl rfl) rfl (oD (stp_extract rfl rfl) rfl (oD (stp_extract rfl rfl) rfl (oD (stp_extract rfl rfl) rfl (oE (stpU_alloc 6 tz47 rfl) rfl ?_)))))
  rintro _ _ ⟨b20, rfl, rfl⟩
  refine oF (stpU_store (id := 6) (cs' := [.slice p4 ((x3.1.t.b).length) c6, .slice p8 ((x3.1.t.f).length) c10, .slice p12 ((x3.1.c.l).length) c14, .int .i64 x3.1.c.h, .int .i64 x3.1.g.c, .int .i64 x3.1.g.n, .int .i64 x3.1.g.r, .slice p16 ((x3.1.g.o).length) c18, .int .i64 x3.1.s]) ts47 rfl rfl rfl rfl rfl rfl rfl) ?_
  rintro _ _ rfl
  obtain ⟨y21, ey21, H0⟩ := bind_some H0
  refine oD (sg rfl) rfl (oD (sg rfl) rfl (oD (sg rfl) rfl (nn (cw_seq (sr (oD (mv rfl) rfl (oD (stp_not rfl) rfl (oD (mv rfl) rfl (ow_cutY 3 25 y21 ?_ ?_)))))))))
  · rcases Bool.eq_false_or_eq_true (!x3.2.2.2) with hy21 | hy21
    · have ey21 := cond_t ey21 hy21
      refine oO rfl hy21 rfl (oO rfl hy21 rfl (oD (stp_pick_t rfl hy21 rfl) rfl ?_))
      obtain rfl := Option.some.inj ey21
      exact ow_nil (jy 3 0)
    · have ey21 := cond_f ey21 hy21
      refine oG rfl hy21 (mv rfl) rfl (oG rfl hy21 (stp_lss rfl rfl) rfl (oD (stp_pick_f rfl hy21 rfl) rfl ?_))
      obtain rfl := Option.some.inj ey21
      exact ow_nil (jy 3 0)
  · obtain ⟨y22, ey22, H0⟩ := bind_some H0
    refine oD (mv rfl) rfl (ow_cutY 3 29 y22 ?_ ?_)
    · rcases Bool.eq_false_or_eq_true y21 with hy22 | hy22
      · have ey22 := cond_t ey22 hy22
        refine oO rfl hy22 rfl (oO rfl hy22 rfl (oD (stp_pick_t rfl hy22 rfl) rfl ?_))
        obtain rfl := Option.some.inj ey22
        exact ow_nil (jy 3 0)
      · have ey22 := cond_f ey22 hy22
        refine oG rfl hy22 (mv rfl) rfl (oG rfl hy22 (stp_eql rfl rfl) rfl (oD (stp_pick_f rfl hy22 rfl) rfl ?_))
        obtain rfl := Option.some.inj ey22
        exact ow_nil (jy 3 0)
    · refine ow_nil (kw_nx (cw_cond rfl (fun h23 => ?_) (fun h23 => ?_)))
      · have H0 := cond_t H0 h23
        refine sr (oD (stp_build (cs := #[.slice none 0 0, .slice none 0 0, .slice none 0 0, .int .i64 0, .int .i64 0, .int .i64 0, .int .i64 0, .slice none 0 0, .int .i64 0]) sevp_nil bt47_3) rfl (oF (stpU_store (id := 1) (cs' := [.slice none 0 0, .slice none 0 0, .slice none 0 0, .int .i64 0, .int .i64 0, .int .i64 0, .int .i64 0, .slice none 0 0, .int .i64 0]) ts47 rfl rfl rfl rfl rfl rfl rfl) ?_))
        rintro _ _ rfl
        refine oD (sg rfl) rfl (nn (cw_ret (kw_nx_ret (kw_addNil 7 (kw_addNil 8 (kw_addNil 9 (kw_addNil 10 ?_)))))))
        have q0 := Option.some.inj H0
        subst q0
        exact kw_ret Tryz.results31 (.cons (.cellN (us := [_, _, _, _, _, _, _, _, _]) ts47 rfl (Cells.box (id := 1) rfl 9 rfl)) (.cons (.tmp rfl) .nil)) [(0, []), (1, []), (2, []), (3, [])] [7, 8, 9, 10] ⟨7, [8, 9, 10], rfl, rfl, 8, [9, 10], rfl, rfl, 9, [10], rfl, rfl, 10, [], rfl, rfl, trivial⟩ (by decide) ⟨none, 0, 0, [], none, 0, 0, [], none, 0, 0, [], none, 0, 0, [], rfl, rfl, rfl, (OwnC.nil _ _), rfl, (OwnC.nil _ _), rfl, (OwnC.nil _ _), rfl, (OwnC.nil _ _)⟩
      · have H0 := cond_f H0 h23
        obtain ⟨x24, e24, H0⟩ := bind_some H0
        obtain ⟨x25, e25, H0⟩ := bind_some H0
        refine cw_skip (kw_nx (cw_seq (rdr g_mixed [1, 6] [4, 6] { dst := dS [33, 34, 35, 36, 37, 38, 39, 32, 40, 41, 11, 0, 12], pre := gA [] [[], [0], [], [2], [], [2, 3, 4], rn 0 6, rn 0 7, rn 0 8, rn 0 8, [], [0, 1, 2, 3, 4, 5, 6, 7, 8, 10], rn 0 12], ids := gA [] [[], [], [], [], [], [], [11], [], [], [], [12], [12]], rs := rL [[(6, 0)], [(32, 1)], [(6, 0)], [(34, 3)], [(1, 0)], [(35, 4), (36, 5)], [(33, 2), (37, 6)], [(38, 7)], [(31, 8)], [(31, 8)], [], [(10, 11), (39, 9)], [(40, 10)]], rh := rL [[], [(6, 0)], [], [(6, 0)], [], [(4, 0)], [(4, 0)], [], [], [], [], [(12, 11)]], V := fun i g => gA undef [.pointer (some ⟨b20, 2, none⟩), .agg #[.slice p12 ((x3.1.c.l).length) c14, .int .i64 x3.1.c.h], .pointer (some ⟨b20, 2, none⟩), .agg #[.slice p12 ((x3.1.c.l).length) c14, .int .i64 x3.1.c.h], .int .i64 a1, .int .i64 x24, .tuple #[.agg #[.slice ((g 6).A 0) ((x25.1.l).length) ((g 6).C 0), .int .i64 x25.1.h], .bool x25.2], .tuple #[.agg #[.slice ((g 6).A 0) ((x25.1.l).length) ((g 6).C 0), .int .i64 x25.1.h], .bool x25.2], .agg #[.slice ((g 6).A 0) ((x25.1.l).length) ((g 6).C 0), .int .i64 x25.1.h], .bool x25.2, .pointer (some ⟨((g 10).C 0), 0, none⟩), undef, .bool x25.2] i, U := fun i g => match i with | 6 => [(11, ((g 6).R 0))] | 10 => [(12, [(((g 10).C 0), .cells #[.slice none 0 0, .int .i64 0] 42 (0, 0))])] | 11 => [(12, [(((g 10).C 0), .cells #[.slice ((g 6).A 0) ((x25.1.l).length) ((g 6).C 0), .int .i64 x25.1.h] 42 (0, 0))])] | _ => [], Φ := fun i x => match i with | 6 => OwnC (α := Ln) 112 (x.A 0) (x.C 0) x25.1.l (x.R 0) | _ => True } ?_ ?_)))
        · refine ⟨⟨⟨⟨⟨⟨⟨⟨⟨⟨⟨⟨⟨trivial, lc rfl rfl fun hs hh => stp_fieldAddr (j := 2) Tryz.underlying47 rfl ts42 rfl (sv hs 6 rfl) rfl⟩, lc rfl rfl fun hs hh => stp_loadN (us := [_, _]) ts42 (sv hs 32 rfl) (Cells.box (id := 6) (hh.get 6 _ rfl) 2 rfl)⟩, lc rfl rfl fun hs hh => stp_fieldAddr (j := 2) Tryz.underlying47 rfl ts42 rfl (sv hs 6 rfl) rfl⟩, lc rfl rfl fun hs hh => stp_loadN (us := [_, _]) ts42 (sv hs 34 rfl) (Cells.box (id := 6) (hh.get 6 _ rfl) 2 rfl)⟩, lc rfl rfl fun hs hh => stp_move (sv hs 1 rfl)⟩, ?_⟩, ?_⟩, lc rfl rfl fun hs hh => stp_move (sv hs 38 rfl)⟩, lc rfl rfl fun hs hh => stp_extract (sv hs 31 rfl) rfl⟩, lc rfl rfl fun hs hh => stp_extract (sv hs 31 rfl) rfl⟩, ?_⟩, ?_⟩, lc rfl rfl fun hs hh => stp_assign (sv hs 40 rfl)⟩
          · refine le rfl rfl (fun g hΦ s h hs hh => (stpU_call (fun i => 11 + i) cf93 (fun w hw => c_i_Cache_place fl w x3.1.c p12 ((x3.1.c.l).length) c14 (-1) a1 rfl (OwnC.pass (id := 4) (hh.get 4 _ rfl) o15 hw) x24 e24) (sevs_cons (sv hs 35 rfl) (sevs_cons rfl (sevs_cons (sv hs 36 rfl) sevs_nil))))) ?_
            rintro g _ _ ⟨_, ⟨rfl, rfl⟩, rfl⟩
            exact ⟨⟨[], [], []⟩, trivial, .inr rfl, rfl⟩
          · refine le rfl rfl (fun g hΦ s h hs hh => (stpU_call (fun i => 11 + i) cf98 (fun w hw => c_i_WireLine fl w x3.1.c p12 ((x3.1.c.l).length) c14 x24 true rfl (OwnC.pass (id := 4) (hh.get 4 _ rfl) o15 hw) x25 e25) (sevs_cons (sv hs 33 rfl) (sevs_cons (sv hs 37 rfl) (sevs_cons rfl sevs_nil))))) ?_
            rintro g _ _ ⟨_, ⟨p26, n27, c28, C29, rfl, rfl, hnn27, o29⟩, rfl⟩
            obtain rfl := hnn27
            exact ⟨⟨[p26], [c28], [C29]⟩, o29, .inr rfl, rfl⟩
          · refine le rfl rfl (fun g hΦ s h hs hh => (stpU_alloc 12 tz42 rfl)) ?_
            rintro g _ _ ⟨b30, rfl, rfl⟩
            exact ⟨⟨[], [b30], []⟩, trivial, .inr rfl, rfl⟩
          · refine le rfl rfl (fun g hΦ s h hs hh => (stpU_store (id := 12) (cs' := [.slice ((g 6).A 0) ((x25.1.l).length) ((g 6).C 0), .int .i64 x25.1.h]) ts42 (sv hs 10 rfl) (sv hs 39 rfl) (hh.get 12 _ rfl) rfl rfl rfl rfl)) ?_
            rintro g _ _ rfl
            exact ⟨⟨[], [], []⟩, trivial, .inl rfl, rfl⟩
        · intro g hΦ
          refine kw_gen (ι := Option Addr × Nat × Res × Nat) (((g 6).A 0), ((g 6).C 0), ((g 6).R 0), ((g 10).C 0)) (fun | (p26, c28, C29, b30) => OwnC (α := Ln) 112 p26 c28 x25.1.l C29) (fun | (p26, c28, C29, b30) => [(4, .pointer (some ⟨b2, 0, none⟩)), (6, .pointer (some ⟨b20, 0, none⟩)), (10, .pointer (some ⟨b30, 0, none⟩)), (11, .bool x25.2)]) (fun | (p26, c28, C29, b30) => [(1, [(b2, .cells #[.slice none 0 0, .slice none 0 0, .slice none 0 0, .int .i64 0, .int .i64 0, .int .i64 0, .int .i64 0, .slice none 0 0, .int .i64 0] 47 (0, 0))]), (2, C7), (3, C11), (4, C15), (5, C19), (6, [(b20, .cells #[.slice p4 ((x3.1.t.b).length) c6, .slice p8 ((x3.1.t.f).length) c10, .slice p12 ((x3.1.c.l).length) c14, .int .i64 x3.1.c.h, .int .i64 x3.1.g.c, .int .i64 x3.1.g.n, .int .i64 x3.1.g.r, .slice p16 ((x3.1.g.o).length) c18, .int .i64 x3.1.s] 47 (0, 0))]), (11, C29), (12, [(b30, .cells #[.slice p26 ((x25.1.l).length) c28, .int .i64 x25.1.h] 42 (0, 0))])]) (hΦ 6 (by decide)) ⟨rfl, rfl, rfl, rfl, trivial⟩ ⟨rfl, rfl, rfl, rfl, rfl, rfl, rfl, rfl, trivial⟩ ?_
          rintro ⟨p26, c28, C29, b30⟩ o29
          have o29 : OwnC (α := Ln) 112 p26 c28 x25.1.l C29 := o29
          refine KW.sub (s' := [(4, .pointer (some ⟨b2, 0, none⟩)), (6, .pointer (some ⟨b20, 0, none⟩)), (10, .pointer (some ⟨b30, 0, none⟩)), (11, .bool x25.2)]) (h' := [(1, [(b2, .cells #[.slice none 0 0, .slice none 0 0, .slice none 0 0, .int .i64 0, .int .i64 0, .int .i64 0, .int .i64 0, .slice none 0 0, .int .i64 0] 47 (0, 0))]), (2, C7), (3, C11), (4, C15), (5, C19), (6, [(b20, .cells #[.slice p4 ((x3.1.t.b).length) c6, .slice p8 ((x3.1.t.f).length) c10, .slice p12 ((x3.1.c.l).length) c14, .int .i64 x3.1.c.h, .int .i64 x3.1.g.c, .int .i64 x3.1.g.n, .int .i64 x3.1.g.r, .slice p16 ((x3.1.g.o).length) c18, .int .i64 x3.1.s] 47 (0, 0))]), (11, C29), (12, [(b30, .cells #[.slice p26 ((x25.1.l).length) c28, .int .i64 x25.1.h] 42 (0, 0))])]) ?_ ⟨rfl, rfl, rfl, rfl, trivial⟩ ⟨rfl, rfl, rfl, rfl, rfl, rfl, rfl, rfl, trivial⟩
          refine kw_nx (cw_seq (sr (oD (mv rfl) rfl (oD (stp_not rfl) rfl (nn (cw_cond rfl (fun h31 => ?_) (fun h31 => ?_)))))))
          · have H0 := cond_t H0 h31
            refine sr (oD (stp_build (cs := #[.slice none 0 0, .slice none 0 0, .slice none 0 0, .int .i64 0, .int .i64 0, .int .i64 0, .int .i64 0, .slice none 0 0, .int .i64 0]) sevp_nil bt47_3) rfl (oF (stpU_store (id := 1) (cs' := [.slice none 0 0, .slice none 0 0, .slice none 0 0, .int .i64 0, .int .i64 0, .int .i64 0, .int .i64 0, .slice none 0 0, .int .i64 0]) ts47 rfl rfl rfl rfl rfl rfl rfl) ?_))
            rintro _ _ rfl
            refine oD (sg rfl) rfl (nn (cw_ret (kw_nx_ret (kw_addNil 13 (kw_addNil 14 (kw_addNil 15 (kw_addNil 16 ?_)))))))
            have q0 := Option.some.inj H0
            subst q0
            exact kw_ret Tryz.results31 (.cons (.cellN (us := [_, _, _, _, _, _, _, _, _]) ts47 rfl (Cells.box (id := 1) rfl 9 rfl)) (.cons (.tmp rfl) .nil)) [(0, []), (1, []), (2, []), (3, [])] [13, 14, 15, 16] ⟨13, [14, 15, 16], rfl, rfl, 14, [15, 16], rfl, rfl, 15, [16], rfl, rfl, 16, [], rfl, rfl, trivial⟩ (by decide) ⟨none, 0, 0, [], none, 0, 0, [], none, 0, 0, [], none, 0, 0, [], rfl, rfl, rfl, (OwnC.nil _ _), rfl, (OwnC.nil _ _), rfl, (OwnC.nil _ _), rfl, (OwnC.nil _ _)⟩
          · have H0 := cond_f H0 h31
            refine cw_skip (kw_nx (sr (oD (stp_loadN (us := [_, _]) ts42 rfl (Cells.box (id := 12) rfl 2 rfl)) rfl (oD (fA 2 Tryz.underlying47 rfl ts42 rfl rfl rfl) rfl (oF (stpU_store (id := 6) (cs' := [.slice p4 ((x3.1.t.b).length) c6, .slice p8 ((x3.1.t.f).length) c10, .slice p26 ((x25.1.l).length) c28, .int .i64 x25.1.h, .int .i64 x3.1.g.c, .int .i64 x3.1.g.n, .int .i64 x3.1.g.r, .slice p16 ((x3.1.g.o).length) c18, .int .i64 x3.1.s]) ts42 rfl rfl rfl rfl rfl rfl rfl) ?_)))))
            rintro _ _ rfl
            refine nn (sr (oD (stp_loadN (us := [_, _, _, _, _, _, _, _, _]) ts47 rfl (Cells.box (id := 6) rfl 9 rfl)) rfl (oF (stpU_store (id := 1) (cs' := [.slice p4 ((x3.1.t.b).length) c6, .slice p8 ((x3.1.t.f).length) c10, .slice p26 ((x25.1.l).length) c28, .int .i64 x25.1.h, .int .i64 x3.1.g.c, .int .i64 x3.1.g.n, .int .i64 x3.1.g.r, .slice p16 ((x3.1.g.o).length) c18, .int .i64 x3.1.s]) ts47 rfl rfl rfl rfl rfl rfl rfl) ?_)))
            rintro _ _ rfl
            refine oD (sg rfl) rfl (nn (cw_ret ?_))
            have q0 := Option.some.inj H0
            subst q0
            exact kw_ret Tryz.results31 (.cons (.cellN (us := [_, _, _, _, _, _, _, _, _]) ts47 rfl (Cells.box (id := 1) rfl 9 rfl)) (.cons (.tmp rfl) .nil)) [(0, C7), (1, C11), (2, C29), (3, C19)] [2, 3, 11, 5] ⟨2, [3, 11, 5], rfl, rfl, 3, [11, 5], rfl, rfl, 11, [5], rfl, rfl, 5, [], rfl, rfl, trivial⟩ (by decide) ⟨p4, ((x3.1.t.b).length), c6, C7, p8, ((x3.1.t.f).length), c10, C11, p26, ((x25.1.l).length), c28, C29, p16, ((x3.1.g.o).length), c18, C19, rfl, rfl, rfl, o7, rfl, o11, rfl, o29, rfl, o19⟩

set_option maxHeartbeats 4000000 in
set_option maxRecDepth 20000 in
theorem c_l_FnExactWirePage (fl : Nat) (w : World) (a0 : Mc) (p0_0 : Option Addr) (n0_0 c0_0 : Nat) (p0_1 : Option Addr) (n0_1 c0_1 : Nat) (p0_2 : Option Addr) (n0_2 c0_2 : Nat) (p0_3 : Option Addr) (n0_3 c0_3 : Nat) (a1 : Int) (hn0_0 : n0_0 = (a0.t.b).length) (hr0_0 : RO w (hkeys []) (RdL p0_0 c0_0 a0.t.b)) (hn0_1 : n0_1 = (a0.t.f).length) (hr0_1 : RO w (hkeys []) (RdL p0_1 c0_1 a0.t.f)) (hn0_2 : n0_2 = (a0.c.l).length) (hr0_2 : RO w (hkeys []) (RdL p0_2 c0_2 a0.c.l)) (hn0_3 : n0_3 = (a0.g.o).length) (hr0_3 : RO w (hkeys []) (RdL p0_3 c0_3 a0.g.o)) (hg : RO w (hkeys []) (fun w' => w'.rangeAt 0 0 [.bool false, .int .i64 0, .int .i64 0, .int .i64 0, .int .i64 (-1)])) (r : Bool) (H0 : l_FnExactWirePage fl a0 a1 = some r) :
    Ct Tryz.prog 8 [.agg #[.slice p0_0 n0_0 c0_0, .slice p0_1 n0_1 c0_1, .slice p0_2 n0_2 c0_2, .int .i64 a0.c.h, .int .i64 a0.g.c, .int .i64 a0.g.n, .int .i64 a0.g.r, .slice p0_3 n0_3 c0_3, .int .i64 a0.s], .int .i64 a1] w [] (fun rv h' => rv = .bool r ∧ h' = []) := by
  obtain rfl := hn0_0
  obtain rfl := hn0_1
  obtain rfl := hn0_2
  obtain rfl := hn0_3
  unfold l_FnExactWirePage at H0
  refine ct_of_cw Tryz.func8 rfl Tryz.ntmps8 rfl (Sat.refl _ _) ?_
  refine sr (oE (stpU_box 0 rfl rfl) rfl ?_)
  rintro _ _ ⟨b1, rfl, rfl⟩
  obtain ⟨x2, e2, H0⟩ := bind_some H0
  refine oD (sg rfl) rfl (nn (sr (oD (sg rfl) rfl (nn (sr (oD (stp_loadN (us := [_, _, _, _, _, _, _, _, _]) ts33 rfl (Cells.box (id := 0) rfl 9 rfl)) rfl (oD (mv rfl) rfl (oE (stpU_call (fun i => 1 + i) cf14 (fun w hw => c_l_szMachine fl w a0 p0_0 ((a0.t.b).length) c0_0 p0_1 ((a0.t.f).length) c0_1 p0_2 ((a0.c.l).length) c0_2 p0_3 ((a0.g.o).length) c0_3 1048576 rfl (RO.pass hr0_0 hw) rfl (RO.pass hr0_1 hw) rfl (RO.pass hr0_2 hw) rfl (RO.pass hr0_3 hw) x2 e2) (sevs_cons rfl (sevs_cons rfl sevs_nil))) rfl ?_))))))))
  rintro _ _ ⟨_, ⟨rfl, rfl⟩, rfl⟩
  refine oD (sg rfl) rfl (nn (cw_seq (sr (oD (mv rfl) rfl (oD (stp_lss rfl rfl) rfl (nn (cw_cond rfl (fun h3 => ?_) (fun h3 => ?_))))))))
  · have H0 := cond_t H0 h3
    refine sr (oD (sg rfl) rfl (nn (cw_ret (kw_nx_ret ?_))))
    have q0 := Option.some.inj H0
    subst q0
    exact kw_ret Tryz.results8 (.cons (.tmp rfl) .nil) [] [] trivial (by decide) ⟨rfl, rfl⟩
  · have H0 := cond_f H0 h3
    obtain ⟨x4, e4, H0⟩ := bind_some H0
    refine cw_skip (kw_nx (sr (oD (stp_loadN (us := [_, _, _, _, _, _, _, _, _]) ts33 rfl (Cells.box (id := 0) rfl 9 rfl)) rfl (oE (stpU_call (fun i => 1 + i) cf16 (fun w hw => c_l_toMachine fl w a0 p0_0 ((a0.t.b).length) c0_0 p0_1 ((a0.t.f).length) c0_1 p0_2 ((a0.c.l).length) c0_2 p0_3 ((a0.g.o).length) c0_3 rfl (RO.pass hr0_0 hw) rfl (RO.pass hr0_1 hw) rfl (RO.pass hr0_2 hw) rfl (RO.pass hr0_3 hw) x4 e4) (sevs_cons rfl sevs_nil)) rfl ?_))))
    rintro _ _ ⟨_, ⟨p5, n6, c7, C8, p9, n10, c11, C12, p13, n14, c15, C16, p17, n18, c19, C20, rfl, rfl, hnn6, o8, hnn10, o12, hnn14, o16, hnn18, o20⟩, rfl⟩
    obtain rfl := hnn6
    obtain rfl := hnn10
    obtain rfl := hnn14
    obtain rfl := hnn18
    obtain ⟨x21, e21, H0⟩ := bind_some H0
    refine oD (mv rfl) rfl (oE (stpU_call (fun i => 5 + i) cf30 (fun w hw => c_s_WirePage fl w x4 p5 ((x4.t.b).length) c7 p9 ((x4.t.f).length) c11 p13 ((x4.c.l).length) c15 p17 ((x4.g.o).length) c19 a1 rfl (OwnC.pass (id := 1) rfl o8 hw) rfl (OwnC.pass (id := 2) rfl o12 hw) rfl (OwnC.pass (id := 3) rfl o16 hw) rfl (OwnC.pass (id := 4) rfl o20 hw) x21 e21) (sevs_cons rfl (sevs_cons rfl sevs_nil))) rfl ?_)
    rintro _ _ ⟨_, ⟨p22, n23, c24, C25, p26, n27, c28, C29, p30, n31, c32, C33, p34, n35, c36, C37, rfl, rfl, hnn23, o25, hnn27, o29, hnn31, o33, hnn35, o37⟩, rfl⟩
    obtain rfl := hnn23
    obtain rfl := hnn27
    obtain rfl := hnn31
    obtain rfl := hnn35
    refine oD (mv rfl) rfl (oD (stp_extract rfl rfl) rfl (oD (stp_extract rfl rfl) rfl (oE (stpU_alloc 9 tz47 rfl) rfl ?_)))
    rintro _ _ ⟨b38, rfl, rfl⟩
    refine oF (stpU_store (id := 9) (cs' := [.slice p22 ((x21.1.t.b).length) c24, .slice p26 ((x21.1.t.f).length) c28, .slice p30 ((x21.1.c.l).length) c32, .int .i64 x21.1.c.h, .int .i64 x21.1.g.c, .int .i64 x21.1.g.n, .int .i64 x21.1.g.r, .slice p34 ((x21.1.g.o).length) c36, .int .i64 x21.1.s]) ts47 rfl rfl rfl rfl rfl rfl rfl) ?_
    rintro _ _ rfl
    obtain ⟨x39, e39, H0⟩ := bind_some H0
    refine oD (sg rfl) rfl (nn (sr (oD (stp_loadN (us := [_, _, _, _, _, _, _, _, _]) ts33 rfl (Cells.box (id := 0) rfl 9 rfl)) rfl (oE (stpU_call (fun i => 10 + i) cf16 (fun w hw => c_l_toMachine fl w a0 p0_0 ((a0.t.b).length) c0_0 p0_1 ((a0.t.f).length) c0_1 p0_2 ((a0.c.l).length) c0_2 p0_3 ((a0.g.o).length) c0_3 rfl (RO.pass hr0_0 hw) rfl (RO.pass hr0_1 hw) rfl (RO.pass hr0_2 hw) rfl (RO.pass hr0_3 hw) x39 e39) (sevs_cons rfl sevs_nil)) rfl ?_))))
    rintro _ _ ⟨_, ⟨p40, n41, c42, C43, p44, n45, c46, C47, p48, n49, c50, C51, p52, n53, c54, C55, rfl, rfl, hnn41, o43, hnn45, o47, hnn49, o51, hnn53, o55⟩, rfl⟩
    obtain rfl := hnn41
    obtain rfl := hnn45
    obtain rfl := hnn49
    obtain rfl := hnn53
    refine oE (stpU_alloc 14 tz47 rfl) rfl ?_
    rintro _ _ ⟨b56, rfl, rfl⟩
    refine oF (stpU_store (id := 14) (cs' := [.slice p40 ((x39.t.b).length) c42, .slice p44 ((x39.t.f).length) c46, .slice p48 ((x39.c.l).length) c50, .int .i64 x39.c.h, .int .i64 x39.g.c, .int .i64 x39.g.n, .int .i64 x39.g.r, .slice p52 ((x39.g.o).length) c54, .int .i64 x39.s]) ts47 rfl rfl rfl rfl rfl rfl rfl) ?_
    rintro _ _ rfl
    obtain ⟨x57, e57, H0⟩ := bind_some H0
    refine nn (sr (oD (stp_loadN (us := [_, _, _, _, _, _, _, _, _]) ts47 rfl (Cells.box (id := 14) rfl 9 rfl)) rfl (oD (mv rfl) rfl (oE (stpU_call (fun i => 15 + i) cf31 (fun w hw => c_i_WirePage fl w x39 p40 ((x39.t.b).length) c42 p44 ((x39.t.f).length) c46 p48 ((x39.c.l).length) c50 p52 ((x39.g.o).length) c54 a1 rfl (OwnC.pass (id := 10) rfl o43 hw) rfl (OwnC.pass (id := 11) rfl o47 hw) rfl (OwnC.pass (id := 12) rfl o51 hw) rfl (OwnC.pass (id := 13) rfl o55 hw) (RO.pass hg hw) x57 e57) (sevs_cons rfl (sevs_cons rfl sevs_nil))) rfl ?_))))
    rintro _ _ ⟨_, ⟨p58, n59, c60, C61, p62, n63, c64, C65, p66, n67, c68, C69, p70, n71, c72, C73, rfl, rfl, hnn59, o61, hnn63, o65, hnn67, o69, hnn71, o73⟩, rfl⟩
    obtain rfl := hnn59
    obtain rfl := hnn63
    obtain rfl := hnn67
    obtain rfl := hnn71
    refine oD (mv rfl) rfl (oD (stp_extract rfl rfl) rfl (oD (stp_extract rfl rfl) rfl (oE (stpU_alloc 19 tz47 rfl) rfl ?_)))
    rintro _ _ ⟨b74, rfl, rfl⟩
    refine oF (stpU_store (id := 19) (cs' := [.slice p58 ((x57.1.t.b).length) c60, .slice p62 ((x57.1.t.f).length) c64, .slice p66 ((x57.1.c.l).length) c68, .int .i64 x57.1.c.h, .int .i64 x57.1.g.c, .int .i64 x57.1.g.n, .int .i64 x57.1.g.r, .slice p70 ((x57.1.g.o).length) c72, .int .i64 x57.1.s]) ts47 rfl rfl rfl rfl rfl rfl rfl) ?_
    rintro _ _ rfl
    obtain ⟨x75, e75, H0⟩ := bind_some H0
    refine oD (sg rfl) rfl (nn (cw_seq (sr (oD (stp_loadN (us := [_, _, _, _, _, _, _, _, _]) ts47 rfl (Cells.box (id := 19) rfl 9 rfl)) rfl (oD (stp_loadN (us := [_, _, _, _, _, _, _, _, _]) ts47 rfl (Cells.box (id := 9) rfl 9 rfl)) rfl (oE (stpU_call (fun i => 20 + i) cf19 (fun w hw => c_l_eqMachine fl w x57.1 p58 ((x57.1.t.b).length) c60 p62 ((x57.1.t.f).length) c64 p66 ((x57.1.c.l).length) c68 p70 ((x57.1.g.o).length) c72 x21.1 p22 ((x21.1.t.b).length) c24 p26 ((x21.1.t.f).length) c28 p30 ((x21.1.c.l).length) c32 p34 ((x21.1.g.o).length) c36 rfl (OwnC.pass (id := 15) rfl o61 hw) rfl (OwnC.pass (id := 16) rfl o65 hw) rfl (OwnC.pass (id := 17) rfl o69 hw) rfl (OwnC.pass (id := 18) rfl o73 hw) rfl (OwnC.pass (id := 5) rfl o25 hw) rfl (OwnC.pass (id := 6) rfl o29 hw) rfl (OwnC.pass (id := 7) rfl o33 hw) rfl (OwnC.pass (id := 8) rfl o37 hw) x75 e75) (sevs_cons rfl (sevs_cons rfl sevs_nil))) rfl ?_))))))
    rintro _ _ ⟨_, ⟨rfl, rfl⟩, rfl⟩
    obtain ⟨y76, ey76, H0⟩ := bind_some H0
    refine oD (stp_not rfl) rfl (oD (mv rfl) rfl (ow_cutY 4 44 y76 ?_ ?_))
    · rcases Bool.eq_false_or_eq_true (!x75) with hy76 | hy76
      · have ey76 := cond_t ey76 hy76
        refine oO rfl hy76 rfl (oO rfl hy76 rfl (oO rfl hy76 rfl (oD (stp_pick_t rfl hy76 rfl) rfl ?_)))
        obtain rfl := Option.some.inj ey76
        exact ow_nil (jy 4 0)
      · have ey76 := cond_f ey76 hy76
        refine oG rfl hy76 (mv rfl) rfl (oG rfl hy76 (mv rfl) rfl (oG rfl hy76 (stp_neqB Tryz.underlying4 rfl rfl) rfl (oD (stp_pick_f rfl hy76 rfl) rfl ?_)))
        obtain rfl := Option.some.inj ey76
        exact ow_nil (jy 4 0)
    · refine ow_nil (kw_nx (cw_cond rfl (fun h77 => ?_) (fun h77 => ?_)))
      · have H0 := cond_t H0 h77
        refine sr (oD (sg rfl) rfl (nn (cw_ret (kw_nx_ret ?_))))
        have q0 := Option.some.inj H0
        subst q0
        exact kw_ret Tryz.results8 (.cons (.tmp rfl) .nil) [] [] trivial (by decide) ⟨rfl, rfl⟩
      · have H0 := cond_f H0 h77
        obtain ⟨x78, e78, H0⟩ := bind_some H0
        obtain ⟨x95, e95, H0⟩ := bind_some H0
        refine cw_skip (kw_nx (cw_seq (cw_seq (rdr g_mixed [2, 8] [0, 10, 11, 12, 13, 14] { dst := dS [46, 47, 48, 49, 50], pre := gA [] [[], [], [1], [0, 1, 2], rn 0 4], ids := gA [] [[], [], [20, 21, 22, 23]], rs := rL [[(8, 0)], [(2, 0)], [(46, 2)], [(45, 1), (47, 3)], [(48, 4)]], rh := rL [[(14, 0)], [(0, 0)], [], [(10, 0), (11, 0), (12, 0), (13, 0), (20, 3), (21, 3), (22, 3), (23, 3)]], V := fun i g => gA undef [.agg #[.slice p40 ((x39.t.b).length) c42, .slice p44 ((x39.t.f).length) c46, .slice p48 ((x39.c.l).length) c50, .int .i64 x39.c.h, .int .i64 x39.g.c, .int .i64 x39.g.n, .int .i64 x39.g.r, .slice p52 ((x39.g.o).length) c54, .int .i64 x39.s], .agg #[.slice p0_0 ((a0.t.b).length) c0_0, .slice p0_1 ((a0.t.f).length) c0_1, .slice p0_2 ((a0.c.l).length) c0_2, .int .i64 a0.c.h, .int .i64 a0.g.c, .int .i64 a0.g.n, .int .i64 a0.g.r, .slice p0_3 ((a0.g.o).length) c0_3, .int .i64 a0.s], .agg #[.slice ((g 2).A 0) ((x78.t.b).length) ((g 2).C 0), .slice ((g 2).A 1) ((x78.t.f).length) ((g 2).C 1), .slice ((g 2).A 2) ((x78.c.l).length) ((g 2).C 2), .int .i64 x78.c.h, .int .i64 x78.g.c, .int .i64 x78.g.n, .int .i64 x78.g.r, .slice ((g 2).A 3) ((x78.g.o).length) ((g 2).C 3), .int .i64 x78.s], .bool x95, .bool (!x95)] i, U := fun i g => gA [] [[], [], [(20, ((g 2).R 0)), (21, ((g 2).R 1)), (22, ((g 2).R 2)), (23, ((g 2).R 3))]] i, Φ := fun i x => gA True [True, True, OwnC (α := Int) 3 (x.A 0) (x.C 0) x78.t.b (x.R 0) ∧ OwnC (α := F) 127 (x.A 1) (x.C 1) x78.t.f (x.R 1) ∧ OwnC (α := Ln) 112 (x.A 2) (x.C 2) x78.c.l (x.R 2) ∧ OwnC (α := Ow) 148 (x.A 3) (x.C 3) x78.g.o (x.R 3)] i } ?_ ?_))))
        · refine ⟨⟨⟨⟨⟨trivial, lc rfl rfl fun hs hh => stp_loadN (us := [_, _, _, _, _, _, _, _, _]) ts47 (sv hs 8 rfl) (Cells.box (id := 14) (hh.get 14 _ rfl) 9 rfl)⟩, lc rfl rfl fun hs hh => stp_loadN (us := [_, _, _, _, _, _, _, _, _]) ts33 (sv hs 2 rfl) (Cells.box (id := 0) (hh.get 0 _ rfl) 9 rfl)⟩, ?_⟩, ?_⟩, lc rfl rfl fun hs hh => stp_not (sv hs 48 rfl)⟩
          · refine le rfl rfl (fun g hΦ s h hs hh => (stpU_call (fun i => 20 + i) cf16 (fun w hw => c_l_toMachine fl w a0 p0_0 ((a0.t.b).length) c0_0 p0_1 ((a0.t.f).length) c0_1 p0_2 ((a0.c.l).length) c0_2 p0_3 ((a0.g.o).length) c0_3 rfl (RO.pass hr0_0 hw) rfl (RO.pass hr0_1 hw) rfl (RO.pass hr0_2 hw) rfl (RO.pass hr0_3 hw) x78 e78) (sevs_cons (sv hs 46 rfl) sevs_nil))) ?_
            rintro g _ _ ⟨_, ⟨p79, n80, c81, C82, p83, n84, c85, C86, p87, n88, c89, C90, p91, n92, c93, C94, rfl, rfl, hnn80, o82, hnn84, o86, hnn88, o90, hnn92, o94⟩, rfl⟩
            obtain rfl := hnn80
            obtain rfl := hnn84
            obtain rfl := hnn88
            obtain rfl := hnn92
            exact ⟨⟨[p79, p83, p87, p91], [c81, c85, c89, c93], [C82, C86, C90, C94]⟩, ⟨o82, o86, o90, o94⟩, .inr rfl, rfl⟩
          · refine le rfl rfl (fun g hΦ s h hs hh => (stpU_call (fun i => 24 + i) cf19 (fun w hw => c_l_eqMachine fl w x39 p40 ((x39.t.b).length) c42 p44 ((x39.t.f).length) c46 p48 ((x39.c.l).length) c50 p52 ((x39.g.o).length) c54 x78 ((g 2).A 0) ((x78.t.b).length) ((g 2).C 0) ((g 2).A 1) ((x78.t.f).length) ((g 2).C 1) ((g 2).A 2) ((x78.c.l).length) ((g 2).C 2) ((g 2).A 3) ((x78.g.o).length) ((g 2).C 3) rfl (OwnC.pass (id := 10) (hh.get 10 _ rfl) o43 hw) rfl (OwnC.pass (id := 11) (hh.get 11 _ rfl) o47 hw) rfl (OwnC.pass (id := 12) (hh.get 12 _ rfl) o51 hw) rfl (OwnC.pass (id := 13) (hh.get 13 _ rfl) o55 hw) rfl (OwnC.pass (id := 20) (hh.get 20 _ rfl) (hΦ 2 rfl).1 hw) rfl (OwnC.pass (id := 21) (hh.get 21 _ rfl) (hΦ 2 rfl).2.1 hw) rfl (OwnC.pass (id := 22) (hh.get 22 _ rfl) (hΦ 2 rfl).2.2.1 hw) rfl (OwnC.pass (id := 23) (hh.get 23 _ rfl) (hΦ 2 rfl).2.2.2 hw) x95 e95) (sevs_cons (sv hs 45 rfl) (sevs_cons (sv hs 47 rfl) sevs_nil)))) ?_
            rintro g _ _ ⟨_, ⟨rfl, rfl⟩, rfl⟩
            exact ⟨⟨[], [], []⟩, trivial, .inr rfl, rfl⟩
        · intro g hΦ
          refine kw_gen (ι := Option Addr × Option Addr × Option Addr × Option Addr × Nat × Nat × Nat × Nat × Res × Res × Res × Res) (((g 2).A 0), ((g 2).A 1), ((g 2).A 2), ((g 2).A 3), ((g 2).C 0), ((g 2).C 1), ((g 2).C 2), ((g 2).C 3), ((g 2).R 0), ((g 2).R 1), ((g 2).R 2), ((g 2).R 3)) (fun | (p79, p83, p87, p91, c81, c85, c89, c93, C82, C86, C90, C94) => OwnC (α := Int) 3 p79 c81 x78.t.b C82 ∧ OwnC (α := F) 127 p83 c85 x78.t.f C86 ∧ OwnC (α := Ln) 112 p87 c89 x78.c.l C90 ∧ OwnC (α := Ow) 148 p91 c93 x78.g.o C94) (fun | (p79, p83, p87, p91, c81, c85, c89, c93, C82, C86, C90, C94) => [(1, .int .i64 a1), (2, .pointer (some ⟨b1, 0, none⟩)), (6, .pointer (some ⟨b38, 0, none⟩)), (7, .bool x21.2), (8, .pointer (some ⟨b56, 0, none⟩)), (9, .pointer (some ⟨b74, 0, none⟩)), (10, .bool x57.2), (49, .bool (!x95))]) (fun | (p79, p83, p87, p91, c81, c85, c89, c93, C82, C86, C90, C94) => [(0, [(b1, .cells #[.slice p0_0 ((a0.t.b).length) c0_0, .slice p0_1 ((a0.t.f).length) c0_1, .slice p0_2 ((a0.c.l).length) c0_2, .int .i64 a0.c.h, .int .i64 a0.g.c, .int .i64 a0.g.n, .int .i64 a0.g.r, .slice p0_3 ((a0.g.o).length) c0_3, .int .i64 a0.s] 33 (0, 0))]), (5, C25), (6, C29), (7, C33), (8, C37), (9, [(b38, .cells #[.slice p22 ((x21.1.t.b).length) c24, .slice p26 ((x21.1.t.f).length) c28, .slice p30 ((x21.1.c.l).length) c32, .int .i64 x21.1.c.h, .int .i64 x21.1.g.c, .int .i64 x21.1.g.n, .int .i64 x21.1.g.r, .slice p34 ((x21.1.g.o).length) c36, .int .i64 x21.1.s] 47 (0, 0))]), (10, C43), (11, C47), (12, C51), (13, C55), (14, [(b56, .cells #[.slice p40 ((x39.t.b).length) c42, .slice p44 ((x39.t.f).length) c46, .slice p48 ((x39.c.l).length) c50, .int .i64 x39.c.h, .int .i64 x39.g.c, .int .i64 x39.g.n, .int .i64 x39.g.r, .slice p52 ((x39.g.o).length) c54, .int .i64 x39.s] 47 (0, 0))]), (15, C61), (16, C65), (17, C69), (18, C73), (19, [(b74, .cells #[.slice p58 ((x57.1.t.b).length) c60, .slice p62 ((x57.1.t.f).length) c64, .slice p66 ((x57.1.c.l).length) c68, .int .i64 x57.1.c.h, .int .i64 x57.1.g.c, .int .i64 x57.1.g.n, .int .i64 x57.1.g.r, .slice p70 ((x57.1.g.o).length) c72, .int .i64 x57.1.s] 47 (0, 0))])]) ⟨(hΦ 2 (by decide)).1, (hΦ 2 (by decide)).2.1, (hΦ 2 (by decide)).2.2.1, (hΦ 2 (by decide)).2.2.2⟩ ⟨rfl, rfl, rfl, rfl, rfl, rfl, rfl, rfl, trivial⟩ ⟨rfl, rfl, rfl, rfl, rfl, rfl, rfl, rfl, rfl, rfl, rfl, rfl, rfl, rfl, rfl, rfl, trivial⟩ ?_
          rintro ⟨p79, p83, p87, p91, c81, c85, c89, c93, C82, C86, C90, C94⟩ ⟨o82, o86, o90, o94⟩
          refine KW.sub (s' := [(1, .int .i64 a1), (2, .pointer (some ⟨b1, 0, none⟩)), (6, .pointer (some ⟨b38, 0, none⟩)), (7, .bool x21.2), (8, .pointer (some ⟨b56, 0, none⟩)), (9, .pointer (some ⟨b74, 0, none⟩)), (10, .bool x57.2), (49, .bool (!x95))]) (h' := [(0, [(b1, .cells #[.slice p0_0 ((a0.t.b).length) c0_0, .slice p0_1 ((a0.t.f).length) c0_1, .slice p0_2 ((a0.c.l).length) c0_2, .int .i64 a0.c.h, .int .i64 a0.g.c, .int .i64 a0.g.n, .int .i64 a0.g.r, .slice p0_3 ((a0.g.o).length) c0_3, .int .i64 a0.s] 33 (0, 0))]), (5, C25), (6, C29), (7, C33), (8, C37), (9, [(b38, .cells #[.slice p22 ((x21.1.t.b).length) c24, .slice p26 ((x21.1.t.f).length) c28, .slice p30 ((x21.1.c.l).length) c32, .int .i64 x21.1.c.h, .int .i64 x21.1.g.c, .int .i64 x21.1.g.n, .int .i64 x21.1.g.r, .slice p34 ((x21.1.g.o).length) c36, .int .i64 x21.1.s] 47 (0, 0))]), (10, C43), (11, C47), (12, C51), (13, C55), (14, [(b56, .cells #[.slice p40 ((x39.t.b).length) c42, .slice p44 ((x39.t.f).length) c46, .slice p48 ((x39.c.l).length) c50, .int .i64 x39.c.h, .int .i64 x39.g.c, .int .i64 x39.g.n, .int .i64 x39.g.r, .slice p52 ((x39.g.o).length) c54, .int .i64 x39.s] 47 (0, 0))]), (15, C61), (16, C65), (17, C69), (18, C73), (19, [(b74, .cells #[.slice p58 ((x57.1.t.b).length) c60, .slice p62 ((x57.1.t.f).length) c64, .slice p66 ((x57.1.c.l).length) c68, .int .i64 x57.1.c.h, .int .i64 x57.1.g.c, .int .i64 x57.1.g.n, .int .i64 x57.1.g.r, .slice p70 ((x57.1.g.o).length) c72, .int .i64 x57.1.s] 47 (0, 0))])]) ?_ ⟨rfl, rfl, rfl, rfl, rfl, rfl, rfl, rfl, trivial⟩ ⟨rfl, rfl, rfl, rfl, rfl, rfl, rfl, rfl, rfl, rfl, rfl, rfl, rfl, rfl, rfl, rfl, trivial⟩
          refine kw_nx (cw_cond rfl (fun h96 => ?_) (fun h96 => ?_))
          · have H0 := cond_t H0 h96
            refine sr (oD (sg rfl) rfl (nn (cw_ret (kw_nx_ret ?_))))
            have q0 := Option.some.inj H0
            subst q0
            exact kw_ret Tryz.results8 (.cons (.tmp rfl) .nil) [] [] trivial (by decide) ⟨rfl, rfl⟩
          · have H0 := cond_f H0 h96
            obtain ⟨x97, e97, H0⟩ := bind_some H0
            refine cw_skip (kw_nx (sr (oD (sg rfl) rfl (nn (sr (oD (stp_loadN (us := [_, _, _, _, _, _, _, _, _]) ts47 rfl (Cells.box (id := 14) rfl 9 rfl)) rfl (oD (mv rfl) rfl (oE (stpU_callM (fun i => bif Nat.beq i 0 then 10 else bif Nat.beq i 1 then 11 else bif Nat.beq i 2 then 12 else bif Nat.beq i 3 then 13 else 24 + i) cf20 (fun w hw hb => c_l_markMachine fl w x39 p40 ((x39.t.b).length) c42 C43 p44 ((x39.t.f).length) c46 C47 p48 ((x39.c.l).length) c50 C51 p52 ((x39.g.o).length) c54 C55 1 rfl o43 rfl o47 rfl o51 rfl o55 (hw.pass (js := [10, 11, 12, 13]) ⟨10, [11, 12, 13], rfl, rfl, 11, [12, 13], rfl, rfl, 12, [13], rfl, rfl, 13, [], rfl, rfl, trivial⟩ (by decide)) x97 e97) (sevs_cons rfl (sevs_cons rfl sevs_nil)) ⟨rfl, (fun _ _ hp => by obtain ⟨_, _, _, _, _, rfl, _⟩ := hp; exact ⟨_, rfl⟩), rfl, (fun _ _ hp => by obtain ⟨_, _, _, _, _, rfl, _⟩ := hp; exact ⟨_, rfl⟩), rfl, (fun _ _ hp => by obtain ⟨_, _, _, _, _, rfl, _⟩ := hp; exact ⟨_, rfl⟩), rfl, (fun _ _ hp => by obtain ⟨_, _, _, _, _, rfl, _⟩ := hp; exact ⟨_, rfl⟩), trivial⟩) rfl ?_))))))))
            rintro _ _ ⟨_, ⟨C98, C99, C100, C101, rfl, rfl, hl98, o98, hl99, o99, hl100, o100, hl101, o101⟩, rfl⟩
            obtain ⟨y102, ey102, H0⟩ := bind_some H0
            refine oD (sg rfl) rfl (nn (cw_seq (sr (oD (mv rfl) rfl (oD (stp_lss rfl rfl) rfl (oD (mv rfl) rfl (ow_cutY 5 60 y102 ?_ ?_)))))))
            · rcases Bool.eq_false_or_eq_true (decide (x97.1 < 0)) with hy102 | hy102
              · have ey102 := cond_t ey102 hy102
                refine oO rfl hy102 rfl (oO rfl hy102 rfl (oO rfl hy102 rfl (oO rfl hy102 rfl (oD (stp_pick_t rfl hy102 rfl) rfl ?_))))
                obtain rfl := Option.some.inj ey102
                exact ow_nil (jy 5 0)
              · have ey102 := cond_f ey102 hy102
                refine oG rfl hy102 (stp_loadN (us := [_, _, _, _, _, _, _, _, _]) ts47 rfl (Cells.box (id := 19) rfl 9 rfl)) rfl (oG rfl hy102 (stp_loadN (us := [_, _, _, _, _, _, _, _, _]) ts47 rfl (Cells.box (id := 9) rfl 9 rfl)) rfl (ow_eff (.some rfl hy102) (stpU_call (fun i => 28 + i) cf19 (fun w hw => c_l_eqMachine fl w x57.1 p58 ((x57.1.t.b).length) c60 p62 ((x57.1.t.f).length) c64 p66 ((x57.1.c.l).length) c68 p70 ((x57.1.g.o).length) c72 x21.1 p22 ((x21.1.t.b).length) c24 p26 ((x21.1.t.f).length) c28 p30 ((x21.1.c.l).length) c32 p34 ((x21.1.g.o).length) c36 rfl (OwnC.pass (id := 15) rfl o61 hw) rfl (OwnC.pass (id := 16) rfl o65 hw) rfl (OwnC.pass (id := 17) rfl o69 hw) rfl (OwnC.pass (id := 18) rfl o73 hw) rfl (OwnC.pass (id := 5) rfl o25 hw) rfl (OwnC.pass (id := 6) rfl o29 hw) rfl (OwnC.pass (id := 7) rfl o33 hw) rfl (OwnC.pass (id := 8) rfl o37 hw) x75 e75) (sevs_cons rfl (sevs_cons rfl sevs_nil))) rfl ?_))
                rintro _ _ ⟨_, ⟨rfl, rfl⟩, rfl⟩
                refine oG rfl hy102 (stp_not rfl) rfl (oD (stp_pick_f rfl hy102 rfl) rfl ?_)
                obtain rfl := Option.some.inj ey102
                exact ow_nil (jy 5 0)
            · obtain ⟨y103, ey103, H0⟩ := bind_some H0
              refine oD (mv rfl) rfl (ow_cutY 4 65 y103 ?_ ?_)
              · rcases Bool.eq_false_or_eq_true y102 with hy103 | hy103
                · have ey103 := cond_t ey103 hy103
                  refine oO rfl hy103 rfl (oO rfl hy103 rfl (oO rfl hy103 rfl (oD (stp_pick_t rfl hy103 rfl) rfl ?_)))
                  obtain rfl := Option.some.inj ey103
                  exact ow_nil (jy 4 0)
                · have ey103 := cond_f ey103 hy103
                  refine oG rfl hy103 (mv rfl) rfl (oG rfl hy103 (mv rfl) rfl (oG rfl hy103 (stp_neqB Tryz.underlying4 rfl rfl) rfl (oD (stp_pick_f rfl hy103 rfl) rfl ?_)))
                  obtain rfl := Option.some.inj ey103
                  exact ow_nil (jy 4 0)
              · refine ow_nil (kw_nx (cw_cond rfl (fun h104 => ?_) (fun h104 => ?_)))
                · have H0 := cond_t H0 h104
                  refine sr (oD (sg rfl) rfl (nn (cw_ret (kw_nx_ret ?_))))
                  have q0 := Option.some.inj H0
                  subst q0
                  exact kw_ret Tryz.results8 (.cons (.tmp rfl) .nil) [] [] trivial (by decide) ⟨rfl, rfl⟩
                · have H0 := cond_f H0 h104
                  obtain ⟨x105, e105, H0⟩ := bind_some H0
                  refine cw_skip (kw_nx (sr (oD (sg rfl) rfl (nn (sr (oD (stp_loadN (us := [_, _, _, _, _, _, _, _, _]) ts47 rfl (Cells.box (id := 19) rfl 9 rfl)) rfl (oD (mv rfl) rfl (oE (stpU_callM (fun i => bif Nat.beq i 0 then 15 else bif Nat.beq i 1 then 16 else bif Nat.beq i 2 then 17 else bif Nat.beq i 3 then 18 else 28 + i) cf20 (fun w hw hb => c_l_markMachine fl w x57.1 p58 ((x57.1.t.b).length) c60 C61 p62 ((x57.1.t.f).length) c64 C65 p66 ((x57.1.c.l).length) c68 C69 p70 ((x57.1.g.o).length) c72 C73 1 rfl o61 rfl o65 rfl o69 rfl o73 (hw.pass (js := [15, 16, 17, 18]) ⟨15, [16, 17, 18], rfl, rfl, 16, [17, 18], rfl, rfl, 17, [18], rfl, rfl, 18, [], rfl, rfl, trivial⟩ (by decide)) x105 e105) (sevs_cons rfl (sevs_cons rfl sevs_nil)) ⟨rfl, (fun _ _ hp => by obtain ⟨_, _, _, _, _, rfl, _⟩ := hp; exact ⟨_, rfl⟩), rfl, (fun _ _ hp => by obtain ⟨_, _, _, _, _, rfl, _⟩ := hp; exact ⟨_, rfl⟩), rfl, (fun _ _ hp => by obtain ⟨_, _, _, _, _, rfl, _⟩ := hp; exact ⟨_, rfl⟩), rfl, (fun _ _ hp => by obtain ⟨_, _, _, _, _, rfl, _⟩ := hp; exact ⟨_, rfl⟩), trivial⟩) rfl ?_))))))))
                  rintro _ _ ⟨_, ⟨C106, C107, C108, C109, rfl, rfl, hl106, o106, hl107, o107, hl108, o108, hl109, o109⟩, rfl⟩
                  obtain ⟨x110, e110, H0⟩ := bind_some H0
                  refine oD (sg rfl) rfl (nn (sr (oD (sg rfl) rfl (nn (sr (oD (stp_loadN (us := [_, _, _, _, _, _, _, _, _]) ts47 rfl (Cells.box (id := 19) rfl 9 rfl)) rfl (oD (mv rfl) rfl (oE (stpU_call (fun i => 32 + i) cf21 (fun w hw => c_l_heldMachine fl w (⟨(⟨x105.2.1, x105.2.2.1⟩ : T), (⟨x105.2.2.2.1, x57.1.c.h⟩ : Ca), (⟨x57.1.g.c, x57.1.g.n, x57.1.g.r, x105.2.2.2.2⟩ : Tg), x57.1.s⟩ : Mc) p58 ((x57.1.t.b).length) c60 p62 ((x57.1.t.f).length) c64 p66 ((x57.1.c.l).length) c68 p70 ((x57.1.g.o).length) c72 1 (by simp [hl106]) (OwnC.pass (id := 15) rfl o106 hw) (by simp [hl107]) (OwnC.pass (id := 16) rfl o107 hw) (by simp [hl108]) (OwnC.pass (id := 17) rfl o108 hw) (by simp [hl109]) (OwnC.pass (id := 18) rfl o109 hw) x110 e110) (sevs_cons rfl (sevs_cons rfl sevs_nil))) rfl ?_))))))))
                  rintro _ _ ⟨_, ⟨rfl, rfl⟩, rfl⟩
                  refine oD (sg rfl) rfl (nn (cw_seq (sr (oD (mv rfl) rfl (oD (stp_lss rfl rfl) rfl (nn (cw_cond rfl (fun h111 => ?_) (fun h111 => ?_))))))))
                  · have H0 := cond_t H0 h111
                    refine sr (oD (sg rfl) rfl (nn (cw_ret (kw_nx_ret ?_))))
                    have q0 := Option.some.inj H0
                    subst q0
                    exact kw_ret Tryz.results8 (.cons (.tmp rfl) .nil) [] [] trivial (by decide) ⟨rfl, rfl⟩
                  · have H0 := cond_f H0 h111
                    refine cw_skip (kw_nx (cw_seq (sr (oD (mv rfl) rfl (oD (mv rfl) rfl (oD (stp_neq rfl rfl) rfl (nn (cw_cond rfl (fun h112 => ?_) (fun h112 => ?_)))))))))
                    · have H0 := cond_t H0 h112
                      refine sr (oD (sg rfl) rfl (nn (cw_ret (kw_nx_ret ?_))))
                      have q0 := Option.some.inj H0
                      subst q0
                      exact kw_ret Tryz.results8 (.cons (.tmp rfl) .nil) [] [] trivial (by decide) ⟨rfl, rfl⟩
                    · have H0 := cond_f H0 h112
                      obtain ⟨x113, e113, H0⟩ := bind_some H0
                      refine cw_skip (kw_nx (sr (oD (stp_loadN (us := [_, _, _, _, _, _, _, _, _]) ts33 rfl (Cells.box (id := 0) rfl 9 rfl)) rfl (oE (stpU_call (fun i => 32 + i) cf16 (fun w hw => c_l_toMachine fl w a0 p0_0 ((a0.t.b).length) c0_0 p0_1 ((a0.t.f).length) c0_1 p0_2 ((a0.c.l).length) c0_2 p0_3 ((a0.g.o).length) c0_3 rfl (RO.pass hr0_0 hw) rfl (RO.pass hr0_1 hw) rfl (RO.pass hr0_2 hw) rfl (RO.pass hr0_3 hw) x113 e113) (sevs_cons rfl sevs_nil)) rfl ?_))))
                      rintro _ _ ⟨_, ⟨p114, n115, c116, C117, p118, n119, c120, C121, p122, n123, c124, C125, p126, n127, c128, C129, rfl, rfl, hnn115, o117, hnn119, o121, hnn123, o125, hnn127, o129⟩, rfl⟩
                      obtain rfl := hnn115
                      obtain rfl := hnn119
                      obtain rfl := hnn123
                      obtain rfl := hnn127
                      obtain ⟨x130, e130, H0⟩ := bind_some H0
                      refine oD (mv rfl) rfl (oE (stpU_call (fun i => 36 + i) cf31 (fun w hw => c_i_WirePage fl w x113 p114 ((x113.t.b).length) c116 p118 ((x113.t.f).length) c120 p122 ((x113.c.l).length) c124 p126 ((x113.g.o).length) c128 a1 rfl (OwnC.pass (id := 32) rfl o117 hw) rfl (OwnC.pass (id := 33) rfl o121 hw) rfl (OwnC.pass (id := 34) rfl o125 hw) rfl (OwnC.pass (id := 35) rfl o129 hw) (RO.pass hg hw) x130 e130) (sevs_cons rfl (sevs_cons rfl sevs_nil))) rfl ?_)
                      rintro _ _ ⟨_, ⟨p131, n132, c133, C134, p135, n136, c137, C138, p139, n140, c141, C142, p143, n144, c145, C146, rfl, rfl, hnn132, o134, hnn136, o138, hnn140, o142, hnn144, o146⟩, rfl⟩
                      obtain rfl := hnn132
                      obtain rfl := hnn136
                      obtain rfl := hnn140
                      obtain rfl := hnn144
                      refine oD (mv rfl) rfl (oD (stp_extract rfl rfl) rfl (oD (stp_extract rfl rfl) rfl (oE (stpU_alloc 40 tz47 rfl) rfl ?_)))
                      rintro _ _ ⟨b147, rfl, rfl⟩
                      refine oF (stpU_store (id := 40) (cs' := [.slice p131 ((x130.1.t.b).length) c133, .slice p135 ((x130.1.t.f).length) c137, .slice p139 ((x130.1.c.l).length) c141, .int .i64 x130.1.c.h, .int .i64 x130.1.g.c, .int .i64 x130.1.g.n, .int .i64 x130.1.g.r, .slice p143 ((x130.1.g.o).length) c145, .int .i64 x130.1.s]) ts47 rfl rfl rfl rfl rfl rfl rfl) ?_
                      rintro _ _ rfl
                      obtain ⟨x148, e148, H0⟩ := bind_some H0
                      refine oD (sg rfl) rfl (nn (cw_seq (sr (oD (stp_loadN (us := [_, _, _, _, _, _, _, _, _]) ts47 rfl (Cells.box (id := 40) rfl 9 rfl)) rfl (oD (stp_loadN (us := [_, _, _, _, _, _, _, _, _]) ts47 rfl (Cells.box (id := 9) rfl 9 rfl)) rfl (oE (stpU_call (fun i => 41 + i) cf19 (fun w hw => c_l_eqMachine fl w x130.1 p131 ((x130.1.t.b).length) c133 p135 ((x130.1.t.f).length) c137 p139 ((x130.1.c.l).length) c141 p143 ((x130.1.g.o).length) c145 x21.1 p22 ((x21.1.t.b).length) c24 p26 ((x21.1.t.f).length) c28 p30 ((x21.1.c.l).length) c32 p34 ((x21.1.g.o).length) c36 rfl (OwnC.pass (id := 36) rfl o134 hw) rfl (OwnC.pass (id := 37) rfl o138 hw) rfl (OwnC.pass (id := 38) rfl o142 hw) rfl (OwnC.pass (id := 39) rfl o146 hw) rfl (OwnC.pass (id := 5) rfl o25 hw) rfl (OwnC.pass (id := 6) rfl o29 hw) rfl (OwnC.pass (id := 7) rfl o33 hw) rfl (OwnC.pass (id := 8) rfl o37 hw) x148 e148) (sevs_cons rfl (sevs_cons rfl sevs_nil))) rfl ?_))))))
                      rintro _ _ ⟨_, ⟨rfl, rfl⟩, rfl⟩
                      obtain ⟨y149, ey149, H0⟩ := bind_some H0
                      refine oD (stp_not rfl) rfl (oD (mv rfl) rfl (ow_cutY 4 92 y149 ?_ ?_))
                      · rcases Bool.eq_false_or_eq_true (!x148) with hy149 | hy149
                        · have ey149 := cond_t ey149 hy149
                          refine oO rfl hy149 rfl (oO rfl hy149 rfl (oO rfl hy149 rfl (oD (stp_pick_t rfl hy149 rfl) rfl ?_)))
                          obtain rfl := Option.some.inj ey149
                          exact ow_nil (jy 4 0)
                        · have ey149 := cond_f ey149 hy149
                          refine oG rfl hy149 (mv rfl) rfl (oG rfl hy149 (mv rfl) rfl (oG rfl hy149 (stp_neqB Tryz.underlying4 rfl rfl) rfl (oD (stp_pick_f rfl hy149 rfl) rfl ?_)))
                          obtain rfl := Option.some.inj ey149
                          exact ow_nil (jy 4 0)
                      · refine ow_nil (kw_nx (cw_cond rfl (fun h150 => ?_) (fun h150 => ?_)))
                        · have H0 := cond_t H0 h150
                          refine sr (oD (sg rfl) rfl (nn (cw_ret (kw_nx_ret ?_))))
                          have q0 := Option.some.inj H0
                          subst q0
                          exact kw_ret Tryz.results8 (.cons (.tmp rfl) .nil) [] [] trivial (by decide) ⟨rfl, rfl⟩
                        · have H0 := cond_f H0 h150
                          refine cw_skip (kw_nx (sr (oD (sg rfl) rfl (nn (sr (oD (stp_loadN (us := [_, _, _, _, _, _, _, _, _]) ts47 rfl (Cells.box (id := 19) rfl 9 rfl)) rfl (oD (mv rfl) rfl (oE (stpU_call (fun i => 41 + i) cf21 (fun w hw => c_l_heldMachine fl w (⟨(⟨x105.2.1, x105.2.2.1⟩ : T), (⟨x105.2.2.2.1, x57.1.c.h⟩ : Ca), (⟨x57.1.g.c, x57.1.g.n, x57.1.g.r, x105.2.2.2.2⟩ : Tg), x57.1.s⟩ : Mc) p58 ((x57.1.t.b).length) c60 p62 ((x57.1.t.f).length) c64 p66 ((x57.1.c.l).length) c68 p70 ((x57.1.g.o).length) c72 1 (by simp [hl106]) (OwnC.pass (id := 15) rfl o106 hw) (by simp [hl107]) (OwnC.pass (id := 16) rfl o107 hw) (by simp [hl108]) (OwnC.pass (id := 17) rfl o108 hw) (by simp [hl109]) (OwnC.pass (id := 18) rfl o109 hw) x110 e110) (sevs_cons rfl (sevs_cons rfl sevs_nil))) rfl ?_))))))))
                          rintro _ _ ⟨_, ⟨rfl, rfl⟩, rfl⟩
                          refine oD (sg rfl) rfl (nn (cw_seq (sr (oD (mv rfl) rfl (oD (stp_lss rfl rfl) rfl (nn (cw_cond rfl (fun h151 => ?_) (fun h151 => ?_))))))))
                          · have H0 := cond_t H0 h151
                            refine sr (oD (sg rfl) rfl (nn (cw_ret (kw_nx_ret ?_))))
                            have q0 := Option.some.inj H0
                            subst q0
                            exact kw_ret Tryz.results8 (.cons (.tmp rfl) .nil) [] [] trivial (by decide) ⟨rfl, rfl⟩
                          · have H0 := cond_f H0 h151
                            refine cw_skip (kw_nx (cw_seq (sr (oD (mv rfl) rfl (oD (mv rfl) rfl (oD (stp_neq rfl rfl) rfl (nn (cw_cond rfl (fun h152 => ?_) (fun h152 => ?_)))))))))
                            · have H0 := cond_t H0 h152
                              refine sr (oD (sg rfl) rfl (nn (cw_ret (kw_nx_ret ?_))))
                              have q0 := Option.some.inj H0
                              subst q0
                              exact kw_ret Tryz.results8 (.cons (.tmp rfl) .nil) [] [] trivial (by decide) ⟨rfl, rfl⟩
                            · have H0 := cond_f H0 h152
                              refine cw_skip (kw_nx (sr (oD (sg rfl) rfl (nn (cw_ret ?_)))))
                              have q0 := Option.some.inj H0
                              subst q0
                              exact kw_ret Tryz.results8 (.cons (.tmp rfl) .nil) [] [] trivial (by decide) ⟨rfl, rfl⟩
end Go.Proofs.YtbgodaeccgjdgaaGreatDoor
