/- The walks: functions of the program return what their pure functions say. Printed by a program (gen.py). -/
import Derived.Test.YtbgodaeccgjdgaaGreatDoorGp
import Derived.Test.YtbgodaeccgjdgaaGreatDoorGt
import Derived.Test.YtbgodaeccgjdgaaGreatDoorMan
import Derived.Test.YtbgodaeccgjdgaaGreatDoorMap
import Derived.Test.YtbgodaeccgjdgaaGreatDoorGwap
import Derived.Test.YtbgodaeccgjdgaaGreatDoorGwaq
set_option linter.unusedSimpArgs false
set_option linter.unusedVariables false
set_option linter.unusedSectionVars false
namespace Go.Proofs.YtbgodaeccgjdgaaGreatDoor
open Go.RowKit
set_option maxHeartbeats 4000000 in
set_option maxRecDepth 20000 in
theorem c_s_ClearMarks (fl : Nat) (w : World) (a0 : Mm) (p0_0 : Option Addr) (n0_0 c0_0 : Nat) (p0_1 : Option Addr) (n0_1 c0_1 : Nat) (p0_2 : Option Addr) (n0_2 c0_2 : Nat) (p0_3 : Option Addr) (n0_3 c0_3 : Nat) (p0_4 : Option Addr) (n0_4 c0_4 : Nat) (hn0_0 : n0_0 = (a0.m.t.b).length) (hr0_0 : RO w (hkeys []) (RdL p0_0 c0_0 a0.m.t.b)) (hn0_1 : n0_1 = (a0.m.t.f).length) (hr0_1 : RO w (hkeys []) (RdL p0_1 c0_1 a0.m.t.f)) (hn0_2 : n0_2 = (a0.m.c.l).length) (hr0_2 : RO w (hkeys []) (RdL p0_2 c0_2 a0.m.c.l)) (hn0_3 : n0_3 = (a0.m.g.o).length) (hr0_3 : RO w (hkeys []) (RdL p0_3 c0_3 a0.m.g.o)) (hn0_4 : n0_4 = (a0.k).length) (hr0_4 : RO w (hkeys []) (RdL p0_4 c0_4 a0.k)) (r : Mm × Bool) (H0 : s_ClearMarks fl a0 = some r) :
    Ct Tryz.prog 45 [.agg #[.slice p0_0 n0_0 c0_0, .slice p0_1 n0_1 c0_1, .slice p0_2 n0_2 c0_2, .int .i64 a0.m.c.h, .int .i64 a0.m.g.c, .int .i64 a0.m.g.n, .int .i64 a0.m.g.r, .slice p0_3 n0_3 c0_3, .int .i64 a0.m.s, .slice p0_4 n0_4 c0_4, .int .i64 a0.h]] w [] (fun rv h' => ∃ (x0 : Option Addr) (y0 z0 : Nat) (C0 : Res) (x1 : Option Addr) (y1 z1 : Nat) (C1 : Res) (x2 : Option Addr) (y2 z2 : Nat) (C2 : Res) (x3 : Option Addr) (y3 z3 : Nat) (C3 : Res) (x4 : Option Addr) (y4 z4 : Nat) (C4 : Res), rv = .tuple #[.agg #[.slice x0 y0 z0, .slice x1 y1 z1, .slice x2 y2 z2, .int .i64 r.1.m.c.h, .int .i64 r.1.m.g.c, .int .i64 r.1.m.g.n, .int .i64 r.1.m.g.r, .slice x3 y3 z3, .int .i64 r.1.m.s, .slice x4 y4 z4, .int .i64 r.1.h], .bool r.2] ∧ h' = [(0, C0), (1, C1), (2, C2), (3, C3), (4, C4)] ∧ y0 = (r.1.m.t.b).length ∧ OwnC 3 x0 z0 r.1.m.t.b C0 ∧ y1 = (r.1.m.t.f).length ∧ OwnC 127 x1 z1 r.1.m.t.f C1 ∧ y2 = (r.1.m.c.l).length ∧ OwnC 112 x2 z2 r.1.m.c.l C2 ∧ y3 = (r.1.m.g.o).length ∧ OwnC 148 x3 z3 r.1.m.g.o C3 ∧ y4 = (r.1.k).length ∧ OwnC 4 x4 z4 r.1.k C4) := by
  obtain rfl := hn0_0
  obtain rfl := hn0_1
  obtain rfl := hn0_2
  obtain rfl := hn0_3
  obtain rfl := hn0_4
  unfold s_ClearMarks at H0
  refine ct_of_cw Tryz.func45 rfl Tryz.ntmps45 rfl (Sat.refl _ _) ?_
  refine sr (oE (stpU_box 0 rfl rfl) rfl ?_)
  rintro _ _ ⟨b1, rfl, rfl⟩
  refine oE (stpU_alloc 1 tz68 rfl) rfl ?_
  rintro _ _ ⟨b2, rfl, rfl⟩
  obtain ⟨x3, e3, H0⟩ := bind_some H0
  refine oD (sg rfl) rfl (nn (cw_seq (sr (oD (stp_loadN (us := [_, _, _, _, _, _, _, _, _, _, _]) ts68 rfl (Cells.box (id := 0) rfl 11 rfl)) rfl (oE (stpU_call (fun i => 2 + i) cf106 (fun w hw => c_s_MemoryValid fl w a0 p0_0 ((a0.m.t.b).length) c0_0 p0_1 ((a0.m.t.f).length) c0_1 p0_2 ((a0.m.c.l).length) c0_2 p0_3 ((a0.m.g.o).length) c0_3 p0_4 ((a0.k).length) c0_4 rfl (RO.pass hr0_0 hw) rfl (RO.pass hr0_1 hw) rfl (RO.pass hr0_2 hw) rfl (RO.pass hr0_3 hw) rfl (RO.pass hr0_4 hw) x3 e3) (sevs_cons rfl sevs_nil)) rfl ?_)))))
  rintro _ _ ⟨_, ⟨rfl, rfl⟩, rfl⟩
  refine oD (stp_not rfl) rfl (nn (cw_cond rfl (fun h4 => ?_) (fun h4 => ?_)))
  · have H0 := cond_t H0 h4
    refine sr (oD (stp_build (cs := #[.slice none 0 0, .slice none 0 0, .slice none 0 0, .int .i64 0, .int .i64 0, .int .i64 0, .int .i64 0, .slice none 0 0, .int .i64 0, .slice none 0 0, .int .i64 0]) sevp_nil bt68_18) rfl (oF (stpU_store (id := 1) (cs' := [.slice none 0 0, .slice none 0 0, .slice none 0 0, .int .i64 0, .int .i64 0, .int .i64 0, .int .i64 0, .slice none 0 0, .int .i64 0, .slice none 0 0, .int .i64 0]) ts68 rfl rfl rfl rfl rfl rfl rfl) ?_))
    rintro _ _ rfl
    refine oD (sg rfl) rfl (nn (cw_ret (kw_nx_ret (kw_addNil 2 (kw_addNil 3 (kw_addNil 4 (kw_addNil 5 (kw_addNil 6 ?_))))))))
    have q0 := Option.some.inj H0
    subst q0
    exact kw_ret Tryz.results45 (.cons (.cellN (us := [_, _, _, _, _, _, _, _, _, _, _]) ts68 rfl (Cells.box (id := 1) rfl 11 rfl)) (.cons (.tmp rfl) .nil)) [(0, []), (1, []), (2, []), (3, []), (4, [])] [2, 3, 4, 5, 6] ⟨2, [3, 4, 5, 6], rfl, rfl, 3, [4, 5, 6], rfl, rfl, 4, [5, 6], rfl, rfl, 5, [6], rfl, rfl, 6, [], rfl, rfl, trivial⟩ (by decide) ⟨none, 0, 0, [], none, 0, 0, [], none, 0, 0, [], none, 0, 0, [], none, 0, 0, [], rfl, rfl, rfl, (OwnC.nil _ _), rfl, (OwnC.nil _ _), rfl, (OwnC.nil _ _), rfl, (OwnC.nil _ _), rfl, (OwnC.nil _ _)⟩
  · have H0 := cond_f H0 h4
    obtain ⟨x5, e5, H0⟩ := bind_some H0
    refine cw_skip (kw_nx (sr (oD (stp_loadN (us := [_, _, _, _, _, _, _, _, _, _, _]) ts68 rfl (Cells.box (id := 0) rfl 11 rfl)) rfl (oE (stpU_call (fun i => 7 + i) cf107 (fun w hw => c_s_l7Copy fl w a0 p0_0 ((a0.m.t.b).length) c0_0 p0_1 ((a0.m.t.f).length) c0_1 p0_2 ((a0.m.c.l).length) c0_2 p0_3 ((a0.m.g.o).length) c0_3 p0_4 ((a0.k).length) c0_4 rfl (RO.pass hr0_0 hw) rfl (RO.pass hr0_1 hw) rfl (RO.pass hr0_2 hw) rfl (RO.pass hr0_3 hw) rfl (RO.pass hr0_4 hw) x5 e5) (sevs_cons rfl sevs_nil)) rfl ?_))))
    rintro _ _ ⟨_, ⟨p6, n7, c8, C9, p10, n11, c12, C13, p14, n15, c16, C17, p18, n19, c20, C21, p22, n23, c24, C25, rfl, rfl, hnn7, o9, hnn11, o13, hnn15, o17, hnn19, o21, hnn23, o25⟩, rfl⟩
    obtain rfl := hnn7
    obtain rfl := hnn11
    obtain rfl := hnn15
    obtain rfl := hnn19
    obtain rfl := hnn23
    refine oE (stpU_alloc 12 tz68 rfl) rfl ?_
    rintro _ _ ⟨b26, rfl, rfl⟩
    refine oF (stpU_store (id := 12) (cs' := [.slice p6 ((x5.m.t.b).length) c8, .slice p10 ((x5.m.t.f).length) c12, .slice p14 ((x5.m.c.l).length) c16, .int .i64 x5.m.c.h, .int .i64 x5.m.g.c, .int .i64 x5.m.g.n, .int .i64 x5.m.g.r, .slice p18 ((x5.m.g.o).length) c20, .int .i64 x5.m.s, .slice p22 ((x5.k).length) c24, .int .i64 x5.h]) ts68 rfl rfl rfl rfl rfl rfl rfl) ?_
    rintro _ _ rfl
    obtain ⟨x27, e27, H0⟩ := bind_some H0
    refine nn (sr (oD (fA 9 Tryz.underlying68 rfl ts66 rfl rfl rfl) rfl (oD (lB 0 ts66 rfl rfl rfl) rfl (oD (stp_len Tryz.underlying66 rfl) rfl (oE (stpU_make sl66 rfl 13 rfl rfl e27) rfl ?_)))))
    rintro _ _ ⟨p28, C29, rfl, rfl, o29⟩
    refine oD (fA 9 Tryz.underlying68 rfl ts66 rfl rfl rfl) rfl (oF (stpU_store (id := 12) (cs' := [.slice p6 ((x5.m.t.b).length) c8, .slice p10 ((x5.m.t.f).length) c12, .slice p14 ((x5.m.c.l).length) c16, .int .i64 x5.m.c.h, .int .i64 x5.m.g.c, .int .i64 x5.m.g.n, .int .i64 x5.m.g.r, .slice p18 ((x5.m.g.o).length) c20, .int .i64 x5.m.s, .slice p28 x27 x27, .int .i64 x5.h]) ts66 rfl rfl rfl rfl rfl rfl rfl) ?_)
    rintro _ _ rfl
    refine nn (sr (oD (stp_loadN (us := [_, _, _, _, _, _, _, _, _, _, _]) ts68 rfl (Cells.box (id := 12) rfl 11 rfl)) rfl (oF (stpU_store (id := 1) (cs' := [.slice p6 ((x5.m.t.b).length) c8, .slice p10 ((x5.m.t.f).length) c12, .slice p14 ((x5.m.c.l).length) c16, .int .i64 x5.m.c.h, .int .i64 x5.m.g.c, .int .i64 x5.m.g.n, .int .i64 x5.m.g.r, .slice p18 ((x5.m.g.o).length) c20, .int .i64 x5.m.s, .slice p28 x27 x27, .int .i64 x5.h]) ts68 rfl rfl rfl rfl rfl rfl rfl) ?_)))
    rintro _ _ rfl
    refine oD (sg rfl) rfl (nn (cw_ret ?_))
    have q0 := Option.some.inj H0
    subst q0
    exact kw_ret Tryz.results45 (.cons (.cellN (us := [_, _, _, _, _, _, _, _, _, _, _]) ts68 rfl (Cells.box (id := 1) rfl 11 rfl)) (.cons (.tmp rfl) .nil)) [(0, C9), (1, C13), (2, C17), (3, C21), (4, C29)] [7, 8, 9, 10, 13] ⟨7, [8, 9, 10, 13], rfl, rfl, 8, [9, 10, 13], rfl, rfl, 9, [10, 13], rfl, rfl, 10, [13], rfl, rfl, 13, [], rfl, rfl, trivial⟩ (by decide) ⟨p6, ((x5.m.t.b).length), c8, C9, p10, ((x5.m.t.f).length), c12, C13, p14, ((x5.m.c.l).length), c16, C17, p18, ((x5.m.g.o).length), c20, C21, p28, x27, x27, C29, rfl, rfl, rfl, o9, rfl, o13, rfl, o17, rfl, o21, (by simp), o29⟩

set_option maxHeartbeats 4000000 in
set_option maxRecDepth 20000 in
theorem c_i_ClearMarks (fl : Nat) (w : World) (a0 : Mm) (p0_0 : Option Addr) (n0_0 c0_0 : Nat) (p0_1 : Option Addr) (n0_1 c0_1 : Nat) (p0_2 : Option Addr) (n0_2 c0_2 : Nat) (p0_3 : Option Addr) (n0_3 c0_3 : Nat) (p0_4 : Option Addr) (n0_4 c0_4 : Nat) (hn0_0 : n0_0 = (a0.m.t.b).length) (hr0_0 : RO w (hkeys []) (RdL p0_0 c0_0 a0.m.t.b)) (hn0_1 : n0_1 = (a0.m.t.f).length) (hr0_1 : RO w (hkeys []) (RdL p0_1 c0_1 a0.m.t.f)) (hn0_2 : n0_2 = (a0.m.c.l).length) (hr0_2 : RO w (hkeys []) (RdL p0_2 c0_2 a0.m.c.l)) (hn0_3 : n0_3 = (a0.m.g.o).length) (hr0_3 : RO w (hkeys []) (RdL p0_3 c0_3 a0.m.g.o)) (hn0_4 : n0_4 = (a0.k).length) (hr0_4 : RO w (hkeys []) (RdL p0_4 c0_4 a0.k)) (hg : RO w (hkeys []) (fun w' => w'.rangeAt 0 0 [.bool false, .int .i64 0, .int .i64 0, .int .i64 0, .int .i64 (-1)])) (r : Mm × Bool) (H0 : i_ClearMarks fl a0 = some r) :
    Ct Tryz.prog 47 [.agg #[.slice p0_0 n0_0 c0_0, .slice p0_1 n0_1 c0_1, .slice p0_2 n0_2 c0_2, .int .i64 a0.m.c.h, .int .i64 a0.m.g.c, .int .i64 a0.m.g.n, .int .i64 a0.m.g.r, .slice p0_3 n0_3 c0_3, .int .i64 a0.m.s, .slice p0_4 n0_4 c0_4, .int .i64 a0.h]] w [] (fun rv h' => ∃ (x0 : Option Addr) (y0 z0 : Nat) (C0 : Res) (x1 : Option Addr) (y1 z1 : Nat) (C1 : Res) (x2 : Option Addr) (y2 z2 : Nat) (C2 : Res) (x3 : Option Addr) (y3 z3 : Nat) (C3 : Res) (x4 : Option Addr) (y4 z4 : Nat) (C4 : Res), rv = .tuple #[.agg #[.slice x0 y0 z0, .slice x1 y1 z1, .slice x2 y2 z2, .int .i64 r.1.m.c.h, .int .i64 r.1.m.g.c, .int .i64 r.1.m.g.n, .int .i64 r.1.m.g.r, .slice x3 y3 z3, .int .i64 r.1.m.s, .slice x4 y4 z4, .int .i64 r.1.h], .bool r.2] ∧ h' = [(0, C0), (1, C1), (2, C2), (3, C3), (4, C4)] ∧ y0 = (r.1.m.t.b).length ∧ OwnC 3 x0 z0 r.1.m.t.b C0 ∧ y1 = (r.1.m.t.f).length ∧ OwnC 127 x1 z1 r.1.m.t.f C1 ∧ y2 = (r.1.m.c.l).length ∧ OwnC 112 x2 z2 r.1.m.c.l C2 ∧ y3 = (r.1.m.g.o).length ∧ OwnC 148 x3 z3 r.1.m.g.o C3 ∧ y4 = (r.1.k).length ∧ OwnC 4 x4 z4 r.1.k C4) := by
  obtain rfl := hn0_0
  obtain rfl := hn0_1
  obtain rfl := hn0_2
  obtain rfl := hn0_3
  obtain rfl := hn0_4
  unfold i_ClearMarks at H0
  refine ct_of_cw Tryz.func47 rfl Tryz.ntmps47 rfl (Sat.refl _ _) ?_
  refine sr (oE (stpU_box 0 rfl rfl) rfl ?_)
  rintro _ _ ⟨b1, rfl, rfl⟩
  refine oE (stpU_alloc 1 tz68 rfl) rfl ?_
  rintro _ _ ⟨b2, rfl, rfl⟩
  obtain ⟨x3, e3, H0⟩ := bind_some H0
  refine oD (sg rfl) rfl (nn (cw_seq (sr (oD (stp_loadN (us := [_, _, _, _, _, _, _, _, _, _, _]) ts68 rfl (Cells.box (id := 0) rfl 11 rfl)) rfl (oE (stpU_call (fun i => 2 + i) cf38 (fun w hw => c_i_MemoryValid fl w a0 p0_0 ((a0.m.t.b).length) c0_0 p0_1 ((a0.m.t.f).length) c0_1 p0_2 ((a0.m.c.l).length) c0_2 p0_3 ((a0.m.g.o).length) c0_3 p0_4 ((a0.k).length) c0_4 rfl (RO.pass hr0_0 hw) rfl (RO.pass hr0_1 hw) rfl (RO.pass hr0_2 hw) rfl (RO.pass hr0_3 hw) rfl (RO.pass hr0_4 hw) (RO.pass hg hw) x3 e3) (sevs_cons rfl sevs_nil)) rfl ?_)))))
  rintro _ _ ⟨_, ⟨rfl, rfl⟩, rfl⟩
  refine oD (stp_not rfl) rfl (nn (cw_cond rfl (fun h4 => ?_) (fun h4 => ?_)))
  · have H0 := cond_t H0 h4
    refine sr (oD (stp_build (cs := #[.slice none 0 0, .slice none 0 0, .slice none 0 0, .int .i64 0, .int .i64 0, .int .i64 0, .int .i64 0, .slice none 0 0, .int .i64 0, .slice none 0 0, .int .i64 0]) sevp_nil bt68_18) rfl (oF (stpU_store (id := 1) (cs' := [.slice none 0 0, .slice none 0 0, .slice none 0 0, .int .i64 0, .int .i64 0, .int .i64 0, .int .i64 0, .slice none 0 0, .int .i64 0, .slice none 0 0, .int .i64 0]) ts68 rfl rfl rfl rfl rfl rfl rfl) ?_))
    rintro _ _ rfl
    refine oD (sg rfl) rfl (nn (cw_ret (kw_nx_ret (kw_addNil 2 (kw_addNil 3 (kw_addNil 4 (kw_addNil 5 (kw_addNil 6 ?_))))))))
    have q0 := Option.some.inj H0
    subst q0
    exact kw_ret Tryz.results47 (.cons (.cellN (us := [_, _, _, _, _, _, _, _, _, _, _]) ts68 rfl (Cells.box (id := 1) rfl 11 rfl)) (.cons (.tmp rfl) .nil)) [(0, []), (1, []), (2, []), (3, []), (4, [])] [2, 3, 4, 5, 6] ⟨2, [3, 4, 5, 6], rfl, rfl, 3, [4, 5, 6], rfl, rfl, 4, [5, 6], rfl, rfl, 5, [6], rfl, rfl, 6, [], rfl, rfl, trivial⟩ (by decide) ⟨none, 0, 0, [], none, 0, 0, [], none, 0, 0, [], none, 0, 0, [], none, 0, 0, [], rfl, rfl, rfl, (OwnC.nil _ _), rfl, (OwnC.nil _ _), rfl, (OwnC.nil _ _), rfl, (OwnC.nil _ _), rfl, (OwnC.nil _ _)⟩
  · have H0 := cond_f H0 h4
    obtain ⟨x5, e5, H0⟩ := bind_some H0
    refine cw_skip (kw_nx (sr (oD (stp_loadN (us := [_, _, _, _, _, _, _, _, _, _, _]) ts68 rfl (Cells.box (id := 0) rfl 11 rfl)) rfl (oE (stpU_call (fun i => 7 + i) cf104 (fun w hw => c_i_Memory_clone fl w a0 p0_0 ((a0.m.t.b).length) c0_0 p0_1 ((a0.m.t.f).length) c0_1 p0_2 ((a0.m.c.l).length) c0_2 p0_3 ((a0.m.g.o).length) c0_3 p0_4 ((a0.k).length) c0_4 rfl (RO.pass hr0_0 hw) rfl (RO.pass hr0_1 hw) rfl (RO.pass hr0_2 hw) rfl (RO.pass hr0_3 hw) rfl (RO.pass hr0_4 hw) x5 e5) (sevs_cons rfl sevs_nil)) rfl ?_))))
    rintro _ _ ⟨_, ⟨p6, n7, c8, C9, p10, n11, c12, C13, p14, n15, c16, C17, p18, n19, c20, C21, p22, n23, c24, C25, rfl, rfl, hnn7, o9, hnn11, o13, hnn15, o17, hnn19, o21, hnn23, o25⟩, rfl⟩
    obtain rfl := hnn7
    obtain rfl := hnn11
    obtain rfl := hnn15
    obtain rfl := hnn19
    obtain rfl := hnn23
    refine oE (stpU_alloc 12 tz68 rfl) rfl ?_
    rintro _ _ ⟨b26, rfl, rfl⟩
    refine oF (stpU_store (id := 12) (cs' := [.slice p6 ((x5.m.t.b).length) c8, .slice p10 ((x5.m.t.f).length) c12, .slice p14 ((x5.m.c.l).length) c16, .int .i64 x5.m.c.h, .int .i64 x5.m.g.c, .int .i64 x5.m.g.n, .int .i64 x5.m.g.r, .slice p18 ((x5.m.g.o).length) c20, .int .i64 x5.m.s, .slice p22 ((x5.k).length) c24, .int .i64 x5.h]) ts68 rfl rfl rfl rfl rfl rfl rfl) ?_
    rintro _ _ rfl
    refine nn (sr (oD (fA 9 Tryz.underlying68 rfl ts66 rfl rfl rfl) rfl (oD (lB 12 ts66 rfl rfl rfl) rfl (oF (stpU_clear (id := 11) sl66 rfl rfl rfl o25) ?_))))
    rintro _ _ ⟨C27, rfl, rfl, o27⟩
    refine nn (sr (oD (stp_loadN (us := [_, _, _, _, _, _, _, _, _, _, _]) ts68 rfl (Cells.box (id := 12) rfl 11 rfl)) rfl (oF (stpU_store (id := 1) (cs' := [.slice p6 ((x5.m.t.b).length) c8, .slice p10 ((x5.m.t.f).length) c12, .slice p14 ((x5.m.c.l).length) c16, .int .i64 x5.m.c.h, .int .i64 x5.m.g.c, .int .i64 x5.m.g.n, .int .i64 x5.m.g.r, .slice p18 ((x5.m.g.o).length) c20, .int .i64 x5.m.s, .slice p22 ((x5.k).length) c24, .int .i64 x5.h]) ts68 rfl rfl rfl rfl rfl rfl rfl) ?_)))
    rintro _ _ rfl
    refine oD (sg rfl) rfl (nn (cw_ret ?_))
    have q0 := Option.some.inj H0
    subst q0
    exact kw_ret Tryz.results47 (.cons (.cellN (us := [_, _, _, _, _, _, _, _, _, _, _]) ts68 rfl (Cells.box (id := 1) rfl 11 rfl)) (.cons (.tmp rfl) .nil)) [(0, C9), (1, C13), (2, C17), (3, C21), (4, C27)] [7, 8, 9, 10, 11] ⟨7, [8, 9, 10, 11], rfl, rfl, 8, [9, 10, 11], rfl, rfl, 9, [10, 11], rfl, rfl, 10, [11], rfl, rfl, 11, [], rfl, rfl, trivial⟩ (by decide) ⟨p6, ((x5.m.t.b).length), c8, C9, p10, ((x5.m.t.f).length), c12, C13, p14, ((x5.m.c.l).length), c16, C17, p18, ((x5.m.g.o).length), c20, C21, p22, ((x5.k).length), c24, C27, rfl, rfl, rfl, o9, rfl, o13, rfl, o17, rfl, o21, (by simp), o27⟩

set_option maxHeartbeats 4000000 in
set_option maxRecDepth 20000 in
theorem c_l_FnExactClearMarks (fl : Nat) (w : World) (a0 : Mm) (p0_0 : Option Addr) (n0_0 c0_0 : Nat) (p0_1 : Option Addr) (n0_1 c0_1 : Nat) (p0_2 : Option Addr) (n0_2 c0_2 : Nat) (p0_3 : Option Addr) (n0_3 c0_3 : Nat) (p0_4 : Option Addr) (n0_4 c0_4 : Nat) (hn0_0 : n0_0 = (a0.m.t.b).length) (hr0_0 : RO w (hkeys []) (RdL p0_0 c0_0 a0.m.t.b)) (hn0_1 : n0_1 = (a0.m.t.f).length) (hr0_1 : RO w (hkeys []) (RdL p0_1 c0_1 a0.m.t.f)) (hn0_2 : n0_2 = (a0.m.c.l).length) (hr0_2 : RO w (hkeys []) (RdL p0_2 c0_2 a0.m.c.l)) (hn0_3 : n0_3 = (a0.m.g.o).length) (hr0_3 : RO w (hkeys []) (RdL p0_3 c0_3 a0.m.g.o)) (hn0_4 : n0_4 = (a0.k).length) (hr0_4 : RO w (hkeys []) (RdL p0_4 c0_4 a0.k)) (hg : RO w (hkeys []) (fun w' => w'.rangeAt 0 0 [.bool false, .int .i64 0, .int .i64 0, .int .i64 0, .int .i64 (-1)])) (r : Bool) (H0 : l_FnExactClearMarks fl a0 = some r) :
    Ct Tryz.prog 12 [.agg #[.slice p0_0 n0_0 c0_0, .slice p0_1 n0_1 c0_1, .slice p0_2 n0_2 c0_2, .int .i64 a0.m.c.h, .int .i64 a0.m.g.c, .int .i64 a0.m.g.n, .int .i64 a0.m.g.r, .slice p0_3 n0_3 c0_3, .int .i64 a0.m.s, .slice p0_4 n0_4 c0_4, .int .i64 a0.h]] w [] (fun rv h' => rv = .bool r ∧ h' = []) := by
  obtain rfl := hn0_0
  obtain rfl := hn0_1
  obtain rfl := hn0_2
  obtain rfl := hn0_3
  obtain rfl := hn0_4
  unfold l_FnExactClearMarks at H0
  refine ct_of_cw Tryz.func12 rfl Tryz.ntmps12 rfl (Sat.refl _ _) ?_
  refine sr (oE (stpU_box 0 rfl rfl) rfl ?_)
  rintro _ _ ⟨b1, rfl, rfl⟩
  obtain ⟨x2, e2, H0⟩ := bind_some H0
  refine oD (sg rfl) rfl (nn (sr (oD (sg rfl) rfl (nn (sr (oD (stp_loadN (us := [_, _, _, _, _, _, _, _, _, _, _]) ts83 rfl (Cells.box (id := 0) rfl 11 rfl)) rfl (oD (mv rfl) rfl (oE (stpU_call (fun i => 1 + i) cf44 (fun w hw => c_l_szMemory fl w a0 p0_0 ((a0.m.t.b).length) c0_0 p0_1 ((a0.m.t.f).length) c0_1 p0_2 ((a0.m.c.l).length) c0_2 p0_3 ((a0.m.g.o).length) c0_3 p0_4 ((a0.k).length) c0_4 1048576 rfl (RO.pass hr0_0 hw) rfl (RO.pass hr0_1 hw) rfl (RO.pass hr0_2 hw) rfl (RO.pass hr0_3 hw) rfl (RO.pass hr0_4 hw) x2 e2) (sevs_cons rfl (sevs_cons rfl sevs_nil))) rfl ?_))))))))
  rintro _ _ ⟨_, ⟨rfl, rfl⟩, rfl⟩
  refine oD (sg rfl) rfl (nn (cw_seq (sr (oD (mv rfl) rfl (oD (stp_lss rfl rfl) rfl (nn (cw_cond rfl (fun h3 => ?_) (fun h3 => ?_))))))))
  · have H0 := cond_t H0 h3
    refine sr (oD (sg rfl) rfl (nn (cw_ret (kw_nx_ret ?_))))
    have q0 := Option.some.inj H0
    subst q0
    exact kw_ret Tryz.results12 (.cons (.tmp rfl) .nil) [] [] trivial (by decide) ⟨rfl, rfl⟩
  · have H0 := cond_f H0 h3
    obtain ⟨x4, e4, H0⟩ := bind_some H0
    refine cw_skip (kw_nx (sr (oD (stp_loadN (us := [_, _, _, _, _, _, _, _, _, _, _]) ts83 rfl (Cells.box (id := 0) rfl 11 rfl)) rfl (oE (stpU_call (fun i => 1 + i) cf46 (fun w hw => c_l_toMemory fl w a0 p0_0 ((a0.m.t.b).length) c0_0 p0_1 ((a0.m.t.f).length) c0_1 p0_2 ((a0.m.c.l).length) c0_2 p0_3 ((a0.m.g.o).length) c0_3 p0_4 ((a0.k).length) c0_4 rfl (RO.pass hr0_0 hw) rfl (RO.pass hr0_1 hw) rfl (RO.pass hr0_2 hw) rfl (RO.pass hr0_3 hw) rfl (RO.pass hr0_4 hw) x4 e4) (sevs_cons rfl sevs_nil)) rfl ?_))))
    rintro _ _ ⟨_, ⟨p5, n6, c7, C8, p9, n10, c11, C12, p13, n14, c15, C16, p17, n18, c19, C20, p21, n22, c23, C24, rfl, rfl, hnn6, o8, hnn10, o12, hnn14, o16, hnn18, o20, hnn22, o24⟩, rfl⟩
    obtain rfl := hnn6
    obtain rfl := hnn10
    obtain rfl := hnn14
    obtain rfl := hnn18
    obtain rfl := hnn22
    obtain ⟨x25, e25, H0⟩ := bind_some H0
    refine oE (stpU_call (fun i => 6 + i) cf45 (fun w hw => c_s_ClearMarks fl w x4 p5 ((x4.m.t.b).length) c7 p9 ((x4.m.t.f).length) c11 p13 ((x4.m.c.l).length) c15 p17 ((x4.m.g.o).length) c19 p21 ((x4.k).length) c23 rfl (OwnC.pass (id := 1) rfl o8 hw) rfl (OwnC.pass (id := 2) rfl o12 hw) rfl (OwnC.pass (id := 3) rfl o16 hw) rfl (OwnC.pass (id := 4) rfl o20 hw) rfl (OwnC.pass (id := 5) rfl o24 hw) x25 e25) (sevs_cons rfl sevs_nil)) rfl ?_
    rintro _ _ ⟨_, ⟨p26, n27, c28, C29, p30, n31, c32, C33, p34, n35, c36, C37, p38, n39, c40, C41, p42, n43, c44, C45, rfl, rfl, hnn27, o29, hnn31, o33, hnn35, o37, hnn39, o41, hnn43, o45⟩, rfl⟩
    obtain rfl := hnn27
    obtain rfl := hnn31
    obtain rfl := hnn35
    obtain rfl := hnn39
    obtain rfl := hnn43
    refine oD (mv rfl) rfl (oD (stp_extract rfl rfl) rfl (oD (stp_extract rfl rfl) rfl (oE (stpU_alloc 11 tz68 rfl) rfl ?_)))
    rintro _ _ ⟨b46, rfl, rfl⟩
    refine oF (stpU_store (id := 11) (cs' := [.slice p26 ((x25.1.m.t.b).length) c28, .slice p30 ((x25.1.m.t.f).length) c32, .slice p34 ((x25.1.m.c.l).length) c36, .int .i64 x25.1.m.c.h, .int .i64 x25.1.m.g.c, .int .i64 x25.1.m.g.n, .int .i64 x25.1.m.g.r, .slice p38 ((x25.1.m.g.o).length) c40, .int .i64 x25.1.m.s, .slice p42 ((x25.1.k).length) c44, .int .i64 x25.1.h]) ts68 rfl rfl rfl rfl rfl rfl rfl) ?_
    rintro _ _ rfl
    obtain ⟨x47, e47, H0⟩ := bind_some H0
    refine oD (sg rfl) rfl (nn (sr (oD (stp_loadN (us := [_, _, _, _, _, _, _, _, _, _, _]) ts83 rfl (Cells.box (id := 0) rfl 11 rfl)) rfl (oE (stpU_call (fun i => 12 + i) cf46 (fun w hw => c_l_toMemory fl w a0 p0_0 ((a0.m.t.b).length) c0_0 p0_1 ((a0.m.t.f).length) c0_1 p0_2 ((a0.m.c.l).length) c0_2 p0_3 ((a0.m.g.o).length) c0_3 p0_4 ((a0.k).length) c0_4 rfl (RO.pass hr0_0 hw) rfl (RO.pass hr0_1 hw) rfl (RO.pass hr0_2 hw) rfl (RO.pass hr0_3 hw) rfl (RO.pass hr0_4 hw) x47 e47) (sevs_cons rfl sevs_nil)) rfl ?_))))
    rintro _ _ ⟨_, ⟨p48, n49, c50, C51, p52, n53, c54, C55, p56, n57, c58, C59, p60, n61, c62, C63, p64, n65, c66, C67, rfl, rfl, hnn49, o51, hnn53, o55, hnn57, o59, hnn61, o63, hnn65, o67⟩, rfl⟩
    obtain rfl := hnn49
    obtain rfl := hnn53
    obtain rfl := hnn57
    obtain rfl := hnn61
    obtain rfl := hnn65
    refine oE (stpU_alloc 17 tz68 rfl) rfl ?_
    rintro _ _ ⟨b68, rfl, rfl⟩
    refine oF (stpU_store (id := 17) (cs' := [.slice p48 ((x47.m.t.b).length) c50, .slice p52 ((x47.m.t.f).length) c54, .slice p56 ((x47.m.c.l).length) c58, .int .i64 x47.m.c.h, .int .i64 x47.m.g.c, .int .i64 x47.m.g.n, .int .i64 x47.m.g.r, .slice p60 ((x47.m.g.o).length) c62, .int .i64 x47.m.s, .slice p64 ((x47.k).length) c66, .int .i64 x47.h]) ts68 rfl rfl rfl rfl rfl rfl rfl) ?_
    rintro _ _ rfl
    obtain ⟨x69, e69, H0⟩ := bind_some H0
    refine nn (sr (oD (stp_loadN (us := [_, _, _, _, _, _, _, _, _, _, _]) ts68 rfl (Cells.box (id := 17) rfl 11 rfl)) rfl (oE (stpU_call (fun i => 18 + i) cf47 (fun w hw => c_i_ClearMarks fl w x47 p48 ((x47.m.t.b).length) c50 p52 ((x47.m.t.f).length) c54 p56 ((x47.m.c.l).length) c58 p60 ((x47.m.g.o).length) c62 p64 ((x47.k).length) c66 rfl (OwnC.pass (id := 12) rfl o51 hw) rfl (OwnC.pass (id := 13) rfl o55 hw) rfl (OwnC.pass (id := 14) rfl o59 hw) rfl (OwnC.pass (id := 15) rfl o63 hw) rfl (OwnC.pass (id := 16) rfl o67 hw) (RO.pass hg hw) x69 e69) (sevs_cons rfl sevs_nil)) rfl ?_)))
    rintro _ _ ⟨_, ⟨p70, n71, c72, C73, p74, n75, c76, C77, p78, n79, c80, C81, p82, n83, c84, C85, p86, n87, c88, C89, rfl, rfl, hnn71, o73, hnn75, o77, hnn79, o81, hnn83, o85, hnn87, o89⟩, rfl⟩
    obtain rfl := hnn71
    obtain rfl := hnn75
    obtain rfl := hnn79
    obtain rfl := hnn83
    obtain rfl := hnn87
    refine oD (mv rfl) rfl (oD (stp_extract rfl rfl) rfl (oD (stp_extract rfl rfl) rfl (oE (stpU_alloc 23 tz68 rfl) rfl ?_)))
    rintro _ _ ⟨b90, rfl, rfl⟩
    refine oF (stpU_store (id := 23) (cs' := [.slice p70 ((x69.1.m.t.b).length) c72, .slice p74 ((x69.1.m.t.f).length) c76, .slice p78 ((x69.1.m.c.l).length) c80, .int .i64 x69.1.m.c.h, .int .i64 x69.1.m.g.c, .int .i64 x69.1.m.g.n, .int .i64 x69.1.m.g.r, .slice p82 ((x69.1.m.g.o).length) c84, .int .i64 x69.1.m.s, .slice p86 ((x69.1.k).length) c88, .int .i64 x69.1.h]) ts68 rfl rfl rfl rfl rfl rfl rfl) ?_
    rintro _ _ rfl
    obtain ⟨x91, e91, H0⟩ := bind_some H0
    refine oD (sg rfl) rfl (nn (cw_seq (sr (oD (stp_loadN (us := [_, _, _, _, _, _, _, _, _, _, _]) ts68 rfl (Cells.box (id := 23) rfl 11 rfl)) rfl (oD (stp_loadN (us := [_, _, _, _, _, _, _, _, _, _, _]) ts68 rfl (Cells.box (id := 11) rfl 11 rfl)) rfl (oE (stpU_call (fun i => 24 + i) cf41 (fun w hw => c_l_eqMemory fl w x69.1 p70 ((x69.1.m.t.b).length) c72 p74 ((x69.1.m.t.f).length) c76 p78 ((x69.1.m.c.l).length) c80 p82 ((x69.1.m.g.o).length) c84 p86 ((x69.1.k).length) c88 x25.1 p26 ((x25.1.m.t.b).length) c28 p30 ((x25.1.m.t.f).length) c32 p34 ((x25.1.m.c.l).length) c36 p38 ((x25.1.m.g.o).length) c40 p42 ((x25.1.k).length) c44 rfl (OwnC.pass (id := 18) rfl o73 hw) rfl (OwnC.pass (id := 19) rfl o77 hw) rfl (OwnC.pass (id := 20) rfl o81 hw) rfl (OwnC.pass (id := 21) rfl o85 hw) rfl (OwnC.pass (id := 22) rfl o89 hw) rfl (OwnC.pass (id := 6) rfl o29 hw) rfl (OwnC.pass (id := 7) rfl o33 hw) rfl (OwnC.pass (id := 8) rfl o37 hw) rfl (OwnC.pass (id := 9) rfl o41 hw) rfl (OwnC.pass (id := 10) rfl o45 hw) x91 e91) (sevs_cons rfl (sevs_cons rfl sevs_nil))) rfl ?_))))))
    rintro _ _ ⟨_, ⟨rfl, rfl⟩, rfl⟩
    obtain ⟨y92, ey92, H0⟩ := bind_some H0
    refine oD (stp_not rfl) rfl (oD (mv rfl) rfl (ow_cutY 4 40 y92 ?_ ?_))
    · rcases Bool.eq_false_or_eq_true (!x91) with hy92 | hy92
      · have ey92 := cond_t ey92 hy92
        refine oO rfl hy92 rfl (oO rfl hy92 rfl (oO rfl hy92 rfl (oD (stp_pick_t rfl hy92 rfl) rfl ?_)))
        obtain rfl := Option.some.inj ey92
        exact ow_nil (jy 4 0)
      · have ey92 := cond_f ey92 hy92
        refine oG rfl hy92 (mv rfl) rfl (oG rfl hy92 (mv rfl) rfl (oG rfl hy92 (stp_neqB Tryz.underlying4 rfl rfl) rfl (oD (stp_pick_f rfl hy92 rfl) rfl ?_)))
        obtain rfl := Option.some.inj ey92
        exact ow_nil (jy 4 0)
    · refine ow_nil (kw_nx (cw_cond rfl (fun h93 => ?_) (fun h93 => ?_)))
      · have H0 := cond_t H0 h93
        refine sr (oD (sg rfl) rfl (nn (cw_ret (kw_nx_ret ?_))))
        have q0 := Option.some.inj H0
        subst q0
        exact kw_ret Tryz.results12 (.cons (.tmp rfl) .nil) [] [] trivial (by decide) ⟨rfl, rfl⟩
      · have H0 := cond_f H0 h93
        obtain ⟨x94, e94, H0⟩ := bind_some H0
        obtain ⟨x115, e115, H0⟩ := bind_some H0
        refine cw_skip (kw_nx (cw_seq (cw_seq (rdr g_mixed [1, 6] [0, 12, 13, 14, 15, 16, 17] { dst := dS [42, 43, 44, 45, 46], pre := gA [] [[], [], [1], [0, 1, 2], rn 0 4], ids := gA [] [[], [], [24, 25, 26, 27, 28]], rs := rL [[(6, 0)], [(1, 0)], [(42, 2)], [(41, 1), (43, 3)], [(44, 4)]], rh := rL [[(17, 0)], [(0, 0)], [], [(12, 0), (13, 0), (14, 0), (15, 0), (16, 0), (24, 3), (25, 3), (26, 3), (27, 3), (28, 3)]], V := fun i g => gA undef [.agg #[.slice p48 ((x47.m.t.b).length) c50, .slice p52 ((x47.m.t.f).length) c54, .slice p56 ((x47.m.c.l).length) c58, .int .i64 x47.m.c.h, .int .i64 x47.m.g.c, .int .i64 x47.m.g.n, .int .i64 x47.m.g.r, .slice p60 ((x47.m.g.o).length) c62, .int .i64 x47.m.s, .slice p64 ((x47.k).length) c66, .int .i64 x47.h], .agg #[.slice p0_0 ((a0.m.t.b).length) c0_0, .slice p0_1 ((a0.m.t.f).length) c0_1, .slice p0_2 ((a0.m.c.l).length) c0_2, .int .i64 a0.m.c.h, .int .i64 a0.m.g.c, .int .i64 a0.m.g.n, .int .i64 a0.m.g.r, .slice p0_3 ((a0.m.g.o).length) c0_3, .int .i64 a0.m.s, .slice p0_4 ((a0.k).length) c0_4, .int .i64 a0.h], .agg #[.slice ((g 2).A 0) ((x94.m.t.b).length) ((g 2).C 0), .slice ((g 2).A 1) ((x94.m.t.f).length) ((g 2).C 1), .slice ((g 2).A 2) ((x94.m.c.l).length) ((g 2).C 2), .int .i64 x94.m.c.h, .int .i64 x94.m.g.c, .int .i64 x94.m.g.n, .int .i64 x94.m.g.r, .slice ((g 2).A 3) ((x94.m.g.o).length) ((g 2).C 3), .int .i64 x94.m.s, .slice ((g 2).A 4) ((x94.k).length) ((g 2).C 4), .int .i64 x94.h], .bool x115, .bool (!x115)] i, U := fun i g => gA [] [[], [], [(24, ((g 2).R 0)), (25, ((g 2).R 1)), (26, ((g 2).R 2)), (27, ((g 2).R 3)), (28, ((g 2).R 4))]] i, Φ := fun i x => gA True [True, True, OwnC (α := Int) 3 (x.A 0) (x.C 0) x94.m.t.b (x.R 0) ∧ OwnC (α := F) 127 (x.A 1) (x.C 1) x94.m.t.f (x.R 1) ∧ OwnC (α := Ln) 112 (x.A 2) (x.C 2) x94.m.c.l (x.R 2) ∧ OwnC (α := Ow) 148 (x.A 3) (x.C 3) x94.m.g.o (x.R 3) ∧ OwnC (α := Bool) 4 (x.A 4) (x.C 4) x94.k (x.R 4)] i } ?_ ?_))))
        · refine ⟨⟨⟨⟨⟨trivial, lc rfl rfl fun hs hh => stp_loadN (us := [_, _, _, _, _, _, _, _, _, _, _]) ts68 (sv hs 6 rfl) (Cells.box (id := 17) (hh.get 17 _ rfl) 11 rfl)⟩, lc rfl rfl fun hs hh => stp_loadN (us := [_, _, _, _, _, _, _, _, _, _, _]) ts83 (sv hs 1 rfl) (Cells.box (id := 0) (hh.get 0 _ rfl) 11 rfl)⟩, ?_⟩, ?_⟩, lc rfl rfl fun hs hh => stp_not (sv hs 44 rfl)⟩
          · refine le rfl rfl (fun g hΦ s h hs hh => (stpU_call (fun i => 24 + i) cf46 (fun w hw => c_l_toMemory fl w a0 p0_0 ((a0.m.t.b).length) c0_0 p0_1 ((a0.m.t.f).length) c0_1 p0_2 ((a0.m.c.l).length) c0_2 p0_3 ((a0.m.g.o).length) c0_3 p0_4 ((a0.k).length) c0_4 rfl (RO.pass hr0_0 hw) rfl (RO.pass hr0_1 hw) rfl (RO.pass hr0_2 hw) rfl (RO.pass hr0_3 hw) rfl (RO.pass hr0_4 hw) x94 e94) (sevs_cons (sv hs 42 rfl) sevs_nil))) ?_
            rintro g _ _ ⟨_, ⟨p95, n96, c97, C98, p99, n100, c101, C102, p103, n104, c105, C106, p107, n108, c109, C110, p111, n112, c113, C114, rfl, rfl, hnn96, o98, hnn100, o102, hnn104, o106, hnn108, o110, hnn112, o114⟩, rfl⟩
            obtain rfl := hnn96
            obtain rfl := hnn100
            obtain rfl := hnn104
            obtain rfl := hnn108
            obtain rfl := hnn112
            exact ⟨⟨[p95, p99, p103, p107, p111], [c97, c101, c105, c109, c113], [C98, C102, C106, C110, C114]⟩, ⟨o98, o102, o106, o110, o114⟩, .inr rfl, rfl⟩
          · refine le rfl rfl (fun g hΦ s h hs hh => (stpU_call (fun i => 29 + i) cf41 (fun w hw => c_l_eqMemory fl w x47 p48 ((x47.m.t.b).length) c50 p52 ((x47.m.t.f).length) c54 p56 ((x47.m.c.l).length) c58 p60 ((x47.m.g.o).length) c62 p64 ((x47.k).length) c66 x94 ((g 2).A 0) ((x94.m.t.b).length) ((g 2).C 0) ((g 2).A 1) ((x94.m.t.f).length) ((g 2).C 1) ((g 2).A 2) ((x94.m.c.l).length) ((g 2).C 2) ((g 2).A 3) ((x94.m.g.o).length) ((g 2).C 3) ((g 2).A 4) ((x94.k).length) ((g 2).C 4) rfl (OwnC.pass (id := 12) (hh.get 12 _ rfl) o51 hw) rfl (OwnC.pass (id := 13) (hh.get 13 _ rfl) o55 hw) rfl (OwnC.pass (id := 14) (hh.get 14 _ rfl) o59 hw) rfl (OwnC.pass (id := 15) (hh.get 15 _ rfl) o63 hw) rfl (OwnC.pass (id := 16) (hh.get 16 _ rfl) o67 hw) rfl (OwnC.pass (id := 24) (hh.get 24 _ rfl) (hΦ 2 rfl).1 hw) rfl (OwnC.pass (id := 25) (hh.get 25 _ rfl) (hΦ 2 rfl).2.1 hw) rfl (OwnC.pass (id := 26) (hh.get 26 _ rfl) (hΦ 2 rfl).2.2.1 hw) rfl (OwnC.pass (id := 27) (hh.get 27 _ rfl) (hΦ 2 rfl).2.2.2.1 hw) rfl (OwnC.pass (id := 28) (hh.get 28 _ rfl) (hΦ 2 rfl).2.2.2.2 hw) x115 e115) (sevs_cons (sv hs 41 rfl) (sevs_cons (sv hs 43 rfl) sevs_nil)))) ?_
            rintro g _ _ ⟨_, ⟨rfl, rfl⟩, rfl⟩
            exact ⟨⟨[], [], []⟩, trivial, .inr rfl, rfl⟩
        · intro g hΦ
          refine kw_gen (ι := Option Addr × Option Addr × Option Addr × Option Addr × Option Addr × Nat × Nat × Nat × Nat × Nat × Res × Res × Res × Res × Res) (((g 2).A 0), ((g 2).A 1), ((g 2).A 2), ((g 2).A 3), ((g 2).A 4), ((g 2).C 0), ((g 2).C 1), ((g 2).C 2), ((g 2).C 3), ((g 2).C 4), ((g 2).R 0), ((g 2).R 1), ((g 2).R 2), ((g 2).R 3), ((g 2).R 4)) (fun | (p95, p99, p103, p107, p111, c97, c101, c105, c109, c113, C98, C102, C106, C110, C114) => OwnC (α := Int) 3 p95 c97 x94.m.t.b C98 ∧ OwnC (α := F) 127 p99 c101 x94.m.t.f C102 ∧ OwnC (α := Ln) 112 p103 c105 x94.m.c.l C106 ∧ OwnC (α := Ow) 148 p107 c109 x94.m.g.o C110 ∧ OwnC (α := Bool) 4 p111 c113 x94.k C114) (fun | (p95, p99, p103, p107, p111, c97, c101, c105, c109, c113, C98, C102, C106, C110, C114) => [(1, .pointer (some ⟨b1, 0, none⟩)), (4, .pointer (some ⟨b46, 0, none⟩)), (5, .bool x25.2), (6, .pointer (some ⟨b68, 0, none⟩)), (7, .pointer (some ⟨b90, 0, none⟩)), (8, .bool x69.2), (45, .bool (!x115))]) (fun | (p95, p99, p103, p107, p111, c97, c101, c105, c109, c113, C98, C102, C106, C110, C114) => [(0, [(b1, .cells #[.slice p0_0 ((a0.m.t.b).length) c0_0, .slice p0_1 ((a0.m.t.f).length) c0_1, .slice p0_2 ((a0.m.c.l).length) c0_2, .int .i64 a0.m.c.h, .int .i64 a0.m.g.c, .int .i64 a0.m.g.n, .int .i64 a0.m.g.r, .slice p0_3 ((a0.m.g.o).length) c0_3, .int .i64 a0.m.s, .slice p0_4 ((a0.k).length) c0_4, .int .i64 a0.h] 83 (0, 0))]), (6, C29), (7, C33), (8, C37), (9, C41), (10, C45), (11, [(b46, .cells #[.slice p26 ((x25.1.m.t.b).length) c28, .slice p30 ((x25.1.m.t.f).length) c32, .slice p34 ((x25.1.m.c.l).length) c36, .int .i64 x25.1.m.c.h, .int .i64 x25.1.m.g.c, .int .i64 x25.1.m.g.n, .int .i64 x25.1.m.g.r, .slice p38 ((x25.1.m.g.o).length) c40, .int .i64 x25.1.m.s, .slice p42 ((x25.1.k).length) c44, .int .i64 x25.1.h] 68 (0, 0))]), (12, C51), (13, C55), (14, C59), (15, C63), (16, C67), (17, [(b68, .cells #[.slice p48 ((x47.m.t.b).length) c50, .slice p52 ((x47.m.t.f).length) c54, .slice p56 ((x47.m.c.l).length) c58, .int .i64 x47.m.c.h, .int .i64 x47.m.g.c, .int .i64 x47.m.g.n, .int .i64 x47.m.g.r, .slice p60 ((x47.m.g.o).length) c62, .int .i64 x47.m.s, .slice p64 ((x47.k).length) c66, .int .i64 x47.h] 68 (0, 0))]), (18, C73), (19, C77), (20, C81), (21, C85), (22, C89), (23, [(b90, .cells #[.slice p70 ((x69.1.m.t.b).length) c72, .slice p74 ((x69.1.m.t.f).length) c76, .slice p78 ((x69.1.m.c.l).length) c80, .int .i64 x69.1.m.c.h, .int .i64 x69.1.m.g.c, .int .i64 x69.1.m.g.n, .int .i64 x69.1.m.g.r, .slice p82 ((x69.1.m.g.o).length) c84, .int .i64 x69.1.m.s, .slice p86 ((x69.1.k).length) c88, .int .i64 x69.1.h] 68 (0, 0))])]) ⟨(hΦ 2 (by decide)).1, (hΦ 2 (by decide)).2.1, (hΦ 2 (by decide)).2.2.1, (hΦ 2 (by decide)).2.2.2.1, (hΦ 2 (by decide)).2.2.2.2⟩ ⟨rfl, rfl, rfl, rfl, rfl, rfl, rfl, trivial⟩ ⟨rfl, rfl, rfl, rfl, rfl, rfl, rfl, rfl, rfl, rfl, rfl, rfl, rfl, rfl, rfl, rfl, rfl, rfl, rfl, trivial⟩ ?_
          rintro ⟨p95, p99, p103, p107, p111, c97, c101, c105, c109, c113, C98, C102, C106, C110, C114⟩ ⟨o98, o102, o106, o110, o114⟩
          refine KW.sub (s' := [(1, .pointer (some ⟨b1, 0, none⟩)), (4, .pointer (some ⟨b46, 0, none⟩)), (5, .bool x25.2), (6, .pointer (some ⟨b68, 0, none⟩)), (7, .pointer (some ⟨b90, 0, none⟩)), (8, .bool x69.2), (45, .bool (!x115))]) (h' := [(0, [(b1, .cells #[.slice p0_0 ((a0.m.t.b).length) c0_0, .slice p0_1 ((a0.m.t.f).length) c0_1, .slice p0_2 ((a0.m.c.l).length) c0_2, .int .i64 a0.m.c.h, .int .i64 a0.m.g.c, .int .i64 a0.m.g.n, .int .i64 a0.m.g.r, .slice p0_3 ((a0.m.g.o).length) c0_3, .int .i64 a0.m.s, .slice p0_4 ((a0.k).length) c0_4, .int .i64 a0.h] 83 (0, 0))]), (6, C29), (7, C33), (8, C37), (9, C41), (10, C45), (11, [(b46, .cells #[.slice p26 ((x25.1.m.t.b).length) c28, .slice p30 ((x25.1.m.t.f).length) c32, .slice p34 ((x25.1.m.c.l).length) c36, .int .i64 x25.1.m.c.h, .int .i64 x25.1.m.g.c, .int .i64 x25.1.m.g.n, .int .i64 x25.1.m.g.r, .slice p38 ((x25.1.m.g.o).length) c40, .int .i64 x25.1.m.s, .slice p42 ((x25.1.k).length) c44, .int .i64 x25.1.h] 68 (0, 0))]), (12, C51), (13, C55), (14, C59), (15, C63), (16, C67), (17, [(b68, .cells #[.slice p48 ((x47.m.t.b).length) c50, .slice p52 ((x47.m.t.f).length) c54, .slice p56 ((x47.m.c.l).length) c58, .int .i64 x47.m.c.h, .int .i64 x47.m.g.c, .int .i64 x47.m.g.n, .int .i64 x47.m.g.r, .slice p60 ((x47.m.g.o).length) c62, .int .i64 x47.m.s, .slice p64 ((x47.k).length) c66, .int .i64 x47.h] 68 (0, 0))]), (18, C73), (19, C77), (20, C81), (21, C85), (22, C89), (23, [(b90, .cells #[.slice p70 ((x69.1.m.t.b).length) c72, .slice p74 ((x69.1.m.t.f).length) c76, .slice p78 ((x69.1.m.c.l).length) c80, .int .i64 x69.1.m.c.h, .int .i64 x69.1.m.g.c, .int .i64 x69.1.m.g.n, .int .i64 x69.1.m.g.r, .slice p82 ((x69.1.m.g.o).length) c84, .int .i64 x69.1.m.s, .slice p86 ((x69.1.k).length) c88, .int .i64 x69.1.h] 68 (0, 0))])]) ?_ ⟨rfl, rfl, rfl, rfl, rfl, rfl, rfl, trivial⟩ ⟨rfl, rfl, rfl, rfl, rfl, rfl, rfl, rfl, rfl, rfl, rfl, rfl, rfl, rfl, rfl, rfl, rfl, rfl, rfl, trivial⟩
          refine kw_nx (cw_cond rfl (fun h116 => ?_) (fun h116 => ?_))
          · have H0 := cond_t H0 h116
            refine sr (oD (sg rfl) rfl (nn (cw_ret (kw_nx_ret ?_))))
            have q0 := Option.some.inj H0
            subst q0
            exact kw_ret Tryz.results12 (.cons (.tmp rfl) .nil) [] [] trivial (by decide) ⟨rfl, rfl⟩
          · have H0 := cond_f H0 h116
            obtain ⟨x117, e117, H0⟩ := bind_some H0
            refine cw_skip (kw_nx (sr (oD (sg rfl) rfl (nn (sr (oD (stp_loadN (us := [_, _, _, _, _, _, _, _, _, _, _]) ts68 rfl (Cells.box (id := 17) rfl 11 rfl)) rfl (oD (mv rfl) rfl (oE (stpU_callM (fun i => bif Nat.beq i 0 then 12 else bif Nat.beq i 1 then 13 else bif Nat.beq i 2 then 14 else bif Nat.beq i 3 then 15 else bif Nat.beq i 4 then 16 else 29 + i) cf42 (fun w hw hb => c_l_markMemory fl w x47 p48 ((x47.m.t.b).length) c50 C51 p52 ((x47.m.t.f).length) c54 C55 p56 ((x47.m.c.l).length) c58 C59 p60 ((x47.m.g.o).length) c62 C63 p64 ((x47.k).length) c66 C67 1 rfl o51 rfl o55 rfl o59 rfl o63 rfl o67 (hw.pass (js := [12, 13, 14, 15, 16]) ⟨12, [13, 14, 15, 16], rfl, rfl, 13, [14, 15, 16], rfl, rfl, 14, [15, 16], rfl, rfl, 15, [16], rfl, rfl, 16, [], rfl, rfl, trivial⟩ (by decide)) x117 e117) (sevs_cons rfl (sevs_cons rfl sevs_nil)) ⟨rfl, (fun _ _ hp => by obtain ⟨_, _, _, _, _, _, rfl, _⟩ := hp; exact ⟨_, rfl⟩), rfl, (fun _ _ hp => by obtain ⟨_, _, _, _, _, _, rfl, _⟩ := hp; exact ⟨_, rfl⟩), rfl, (fun _ _ hp => by obtain ⟨_, _, _, _, _, _, rfl, _⟩ := hp; exact ⟨_, rfl⟩), rfl, (fun _ _ hp => by obtain ⟨_, _, _, _, _, _, rfl, _⟩ := hp; exact ⟨_, rfl⟩), rfl, (fun _ _ hp => by obtain ⟨_, _, _, _, _, _, rfl, _⟩ := hp; exact ⟨_, rfl⟩), trivial⟩) rfl ?_))))))))
            rintro _ _ ⟨_, ⟨C118, C119, C120, C121, C122, rfl, rfl, hl118, o118, hl119, o119, hl120, o120, hl121, o121, hl122, o122⟩, rfl⟩
            obtain ⟨y123, ey123, H0⟩ := bind_some H0
            refine oD (sg rfl) rfl (nn (cw_seq (sr (oD (mv rfl) rfl (oD (stp_lss rfl rfl) rfl (oD (mv rfl) rfl (ow_cutY 5 56 y123 ?_ ?_)))))))
            · rcases Bool.eq_false_or_eq_true (decide (x117.1 < 0)) with hy123 | hy123
              · have ey123 := cond_t ey123 hy123
                refine oO rfl hy123 rfl (oO rfl hy123 rfl (oO rfl hy123 rfl (oO rfl hy123 rfl (oD (stp_pick_t rfl hy123 rfl) rfl ?_))))
                obtain rfl := Option.some.inj ey123
                exact ow_nil (jy 5 0)
              · have ey123 := cond_f ey123 hy123
                refine oG rfl hy123 (stp_loadN (us := [_, _, _, _, _, _, _, _, _, _, _]) ts68 rfl (Cells.box (id := 23) rfl 11 rfl)) rfl (oG rfl hy123 (stp_loadN (us := [_, _, _, _, _, _, _, _, _, _, _]) ts68 rfl (Cells.box (id := 11) rfl 11 rfl)) rfl (ow_eff (.some rfl hy123) (stpU_call (fun i => 34 + i) cf41 (fun w hw => c_l_eqMemory fl w x69.1 p70 ((x69.1.m.t.b).length) c72 p74 ((x69.1.m.t.f).length) c76 p78 ((x69.1.m.c.l).length) c80 p82 ((x69.1.m.g.o).length) c84 p86 ((x69.1.k).length) c88 x25.1 p26 ((x25.1.m.t.b).length) c28 p30 ((x25.1.m.t.f).length) c32 p34 ((x25.1.m.c.l).length) c36 p38 ((x25.1.m.g.o).length) c40 p42 ((x25.1.k).length) c44 rfl (OwnC.pass (id := 18) rfl o73 hw) rfl (OwnC.pass (id := 19) rfl o77 hw) rfl (OwnC.pass (id := 20) rfl o81 hw) rfl (OwnC.pass (id := 21) rfl o85 hw) rfl (OwnC.pass (id := 22) rfl o89 hw) rfl (OwnC.pass (id := 6) rfl o29 hw) rfl (OwnC.pass (id := 7) rfl o33 hw) rfl (OwnC.pass (id := 8) rfl o37 hw) rfl (OwnC.pass (id := 9) rfl o41 hw) rfl (OwnC.pass (id := 10) rfl o45 hw) x91 e91) (sevs_cons rfl (sevs_cons rfl sevs_nil))) rfl ?_))
                rintro _ _ ⟨_, ⟨rfl, rfl⟩, rfl⟩
                refine oG rfl hy123 (stp_not rfl) rfl (oD (stp_pick_f rfl hy123 rfl) rfl ?_)
                obtain rfl := Option.some.inj ey123
                exact ow_nil (jy 5 0)
            · obtain ⟨y124, ey124, H0⟩ := bind_some H0
              refine oD (mv rfl) rfl (ow_cutY 4 61 y124 ?_ ?_)
              · rcases Bool.eq_false_or_eq_true y123 with hy124 | hy124
                · have ey124 := cond_t ey124 hy124
                  refine oO rfl hy124 rfl (oO rfl hy124 rfl (oO rfl hy124 rfl (oD (stp_pick_t rfl hy124 rfl) rfl ?_)))
                  obtain rfl := Option.some.inj ey124
                  exact ow_nil (jy 4 0)
                · have ey124 := cond_f ey124 hy124
                  refine oG rfl hy124 (mv rfl) rfl (oG rfl hy124 (mv rfl) rfl (oG rfl hy124 (stp_neqB Tryz.underlying4 rfl rfl) rfl (oD (stp_pick_f rfl hy124 rfl) rfl ?_)))
                  obtain rfl := Option.some.inj ey124
                  exact ow_nil (jy 4 0)
              · refine ow_nil (kw_nx (cw_cond rfl (fun h125 => ?_) (fun h125 => ?_)))
                · have H0 := cond_t H0 h125
                  refine sr (oD (sg rfl) rfl (nn (cw_ret (kw_nx_ret ?_))))
                  have q0 := Option.some.inj H0
                  subst q0
                  exact kw_ret Tryz.results12 (.cons (.tmp rfl) .nil) [] [] trivial (by decide) ⟨rfl, rfl⟩
                · have H0 := cond_f H0 h125
                  obtain ⟨x126, e126, H0⟩ := bind_some H0
                  refine cw_skip (kw_nx (sr (oD (sg rfl) rfl (nn (sr (oD (stp_loadN (us := [_, _, _, _, _, _, _, _, _, _, _]) ts68 rfl (Cells.box (id := 23) rfl 11 rfl)) rfl (oD (mv rfl) rfl (oE (stpU_callM (fun i => bif Nat.beq i 0 then 18 else bif Nat.beq i 1 then 19 else bif Nat.beq i 2 then 20 else bif Nat.beq i 3 then 21 else bif Nat.beq i 4 then 22 else 34 + i) cf42 (fun w hw hb => c_l_markMemory fl w x69.1 p70 ((x69.1.m.t.b).length) c72 C73 p74 ((x69.1.m.t.f).length) c76 C77 p78 ((x69.1.m.c.l).length) c80 C81 p82 ((x69.1.m.g.o).length) c84 C85 p86 ((x69.1.k).length) c88 C89 1 rfl o73 rfl o77 rfl o81 rfl o85 rfl o89 (hw.pass (js := [18, 19, 20, 21, 22]) ⟨18, [19, 20, 21, 22], rfl, rfl, 19, [20, 21, 22], rfl, rfl, 20, [21, 22], rfl, rfl, 21, [22], rfl, rfl, 22, [], rfl, rfl, trivial⟩ (by decide)) x126 e126) (sevs_cons rfl (sevs_cons rfl sevs_nil)) ⟨rfl, (fun _ _ hp => by obtain ⟨_, _, _, _, _, _, rfl, _⟩ := hp; exact ⟨_, rfl⟩), rfl, (fun _ _ hp => by obtain ⟨_, _, _, _, _, _, rfl, _⟩ := hp; exact ⟨_, rfl⟩), rfl, (fun _ _ hp => by obtain ⟨_, _, _, _, _, _, rfl, _⟩ := hp; exact ⟨_, rfl⟩), rfl, (fun _ _ hp => by obtain ⟨_, _, _, _, _, _, rfl, _⟩ := hp; exact ⟨_, rfl⟩), rfl, (fun _ _ hp => by obtain ⟨_, _, _, _, _, _, rfl, _⟩ := hp; exact ⟨_, rfl⟩), trivial⟩) rfl ?_))))))))
                  rintro _ _ ⟨_, ⟨C127, C128, C129, C130, C131, rfl, rfl, hl127, o127, hl128, o128, hl129, o129, hl130, o130, hl131, o131⟩, rfl⟩
                  obtain ⟨x132, e132, H0⟩ := bind_some H0
                  refine oD (sg rfl) rfl (nn (sr (oD (sg rfl) rfl (nn (sr (oD (stp_loadN (us := [_, _, _, _, _, _, _, _, _, _, _]) ts68 rfl (Cells.box (id := 23) rfl 11 rfl)) rfl (oD (mv rfl) rfl (oE (stpU_call (fun i => 39 + i) cf43 (fun w hw => c_l_heldMemory fl w (⟨(⟨(⟨x126.2.1, x126.2.2.1⟩ : T), (⟨x126.2.2.2.1, x69.1.m.c.h⟩ : Ca), (⟨x69.1.m.g.c, x69.1.m.g.n, x69.1.m.g.r, x126.2.2.2.2.1⟩ : Tg), x69.1.m.s⟩ : Mc), x126.2.2.2.2.2, x69.1.h⟩ : Mm) p70 ((x69.1.m.t.b).length) c72 p74 ((x69.1.m.t.f).length) c76 p78 ((x69.1.m.c.l).length) c80 p82 ((x69.1.m.g.o).length) c84 p86 ((x69.1.k).length) c88 1 (by simp [hl127]) (OwnC.pass (id := 18) rfl o127 hw) (by simp [hl128]) (OwnC.pass (id := 19) rfl o128 hw) (by simp [hl129]) (OwnC.pass (id := 20) rfl o129 hw) (by simp [hl130]) (OwnC.pass (id := 21) rfl o130 hw) (by simp [hl131]) (OwnC.pass (id := 22) rfl o131 hw) x132 e132) (sevs_cons rfl (sevs_cons rfl sevs_nil))) rfl ?_))))))))
                  rintro _ _ ⟨_, ⟨rfl, rfl⟩, rfl⟩
                  refine oD (sg rfl) rfl (nn (cw_seq (sr (oD (mv rfl) rfl (oD (stp_lss rfl rfl) rfl (nn (cw_cond rfl (fun h133 => ?_) (fun h133 => ?_))))))))
                  · have H0 := cond_t H0 h133
                    refine sr (oD (sg rfl) rfl (nn (cw_ret (kw_nx_ret ?_))))
                    have q0 := Option.some.inj H0
                    subst q0
                    exact kw_ret Tryz.results12 (.cons (.tmp rfl) .nil) [] [] trivial (by decide) ⟨rfl, rfl⟩
                  · have H0 := cond_f H0 h133
                    refine cw_skip (kw_nx (cw_seq (sr (oD (mv rfl) rfl (oD (mv rfl) rfl (oD (stp_neq rfl rfl) rfl (nn (cw_cond rfl (fun h134 => ?_) (fun h134 => ?_)))))))))
                    · have H0 := cond_t H0 h134
                      refine sr (oD (sg rfl) rfl (nn (cw_ret (kw_nx_ret ?_))))
                      have q0 := Option.some.inj H0
                      subst q0
                      exact kw_ret Tryz.results12 (.cons (.tmp rfl) .nil) [] [] trivial (by decide) ⟨rfl, rfl⟩
                    · have H0 := cond_f H0 h134
                      obtain ⟨x135, e135, H0⟩ := bind_some H0
                      refine cw_skip (kw_nx (sr (oD (stp_loadN (us := [_, _, _, _, _, _, _, _, _, _, _]) ts83 rfl (Cells.box (id := 0) rfl 11 rfl)) rfl (oE (stpU_call (fun i => 39 + i) cf46 (fun w hw => c_l_toMemory fl w a0 p0_0 ((a0.m.t.b).length) c0_0 p0_1 ((a0.m.t.f).length) c0_1 p0_2 ((a0.m.c.l).length) c0_2 p0_3 ((a0.m.g.o).length) c0_3 p0_4 ((a0.k).length) c0_4 rfl (RO.pass hr0_0 hw) rfl (RO.pass hr0_1 hw) rfl (RO.pass hr0_2 hw) rfl (RO.pass hr0_3 hw) rfl (RO.pass hr0_4 hw) x135 e135) (sevs_cons rfl sevs_nil)) rfl ?_))))
                      rintro _ _ ⟨_, ⟨p136, n137, c138, C139, p140, n141, c142, C143, p144, n145, c146, C147, p148, n149, c150, C151, p152, n153, c154, C155, rfl, rfl, hnn137, o139, hnn141, o143, hnn145, o147, hnn149, o151, hnn153, o155⟩, rfl⟩
                      obtain rfl := hnn137
                      obtain rfl := hnn141
                      obtain rfl := hnn145
                      obtain rfl := hnn149
                      obtain rfl := hnn153
                      obtain ⟨x156, e156, H0⟩ := bind_some H0
                      refine oE (stpU_call (fun i => 44 + i) cf47 (fun w hw => c_i_ClearMarks fl w x135 p136 ((x135.m.t.b).length) c138 p140 ((x135.m.t.f).length) c142 p144 ((x135.m.c.l).length) c146 p148 ((x135.m.g.o).length) c150 p152 ((x135.k).length) c154 rfl (OwnC.pass (id := 39) rfl o139 hw) rfl (OwnC.pass (id := 40) rfl o143 hw) rfl (OwnC.pass (id := 41) rfl o147 hw) rfl (OwnC.pass (id := 42) rfl o151 hw) rfl (OwnC.pass (id := 43) rfl o155 hw) (RO.pass hg hw) x156 e156) (sevs_cons rfl sevs_nil)) rfl ?_
                      rintro _ _ ⟨_, ⟨p157, n158, c159, C160, p161, n162, c163, C164, p165, n166, c167, C168, p169, n170, c171, C172, p173, n174, c175, C176, rfl, rfl, hnn158, o160, hnn162, o164, hnn166, o168, hnn170, o172, hnn174, o176⟩, rfl⟩
                      obtain rfl := hnn158
                      obtain rfl := hnn162
                      obtain rfl := hnn166
                      obtain rfl := hnn170
                      obtain rfl := hnn174
                      refine oD (mv rfl) rfl (oD (stp_extract rfl rfl) rfl (oD (stp_extract rfl rfl) rfl (oE (stpU_alloc 49 tz68 rfl) rfl ?_)))
                      rintro _ _ ⟨b177, rfl, rfl⟩
                      refine oF (stpU_store (id := 49) (cs' := [.slice p157 ((x156.1.m.t.b).length) c159, .slice p161 ((x156.1.m.t.f).length) c163, .slice p165 ((x156.1.m.c.l).length) c167, .int .i64 x156.1.m.c.h, .int .i64 x156.1.m.g.c, .int .i64 x156.1.m.g.n, .int .i64 x156.1.m.g.r, .slice p169 ((x156.1.m.g.o).length) c171, .int .i64 x156.1.m.s, .slice p173 ((x156.1.k).length) c175, .int .i64 x156.1.h]) ts68 rfl rfl rfl rfl rfl rfl rfl) ?_
                      rintro _ _ rfl
                      obtain ⟨x178, e178, H0⟩ := bind_some H0
                      refine oD (sg rfl) rfl (nn (cw_seq (sr (oD (stp_loadN (us := [_, _, _, _, _, _, _, _, _, _, _]) ts68 rfl (Cells.box (id := 49) rfl 11 rfl)) rfl (oD (stp_loadN (us := [_, _, _, _, _, _, _, _, _, _, _]) ts68 rfl (Cells.box (id := 11) rfl 11 rfl)) rfl (oE (stpU_call (fun i => 50 + i) cf41 (fun w hw => c_l_eqMemory fl w x156.1 p157 ((x156.1.m.t.b).length) c159 p161 ((x156.1.m.t.f).length) c163 p165 ((x156.1.m.c.l).length) c167 p169 ((x156.1.m.g.o).length) c171 p173 ((x156.1.k).length) c175 x25.1 p26 ((x25.1.m.t.b).length) c28 p30 ((x25.1.m.t.f).length) c32 p34 ((x25.1.m.c.l).length) c36 p38 ((x25.1.m.g.o).length) c40 p42 ((x25.1.k).length) c44 rfl (OwnC.pass (id := 44) rfl o160 hw) rfl (OwnC.pass (id := 45) rfl o164 hw) rfl (OwnC.pass (id := 46) rfl o168 hw) rfl (OwnC.pass (id := 47) rfl o172 hw) rfl (OwnC.pass (id := 48) rfl o176 hw) rfl (OwnC.pass (id := 6) rfl o29 hw) rfl (OwnC.pass (id := 7) rfl o33 hw) rfl (OwnC.pass (id := 8) rfl o37 hw) rfl (OwnC.pass (id := 9) rfl o41 hw) rfl (OwnC.pass (id := 10) rfl o45 hw) x178 e178) (sevs_cons rfl (sevs_cons rfl sevs_nil))) rfl ?_))))))
                      rintro _ _ ⟨_, ⟨rfl, rfl⟩, rfl⟩
                      obtain ⟨y179, ey179, H0⟩ := bind_some H0
                      refine oD (stp_not rfl) rfl (oD (mv rfl) rfl (ow_cutY 4 87 y179 ?_ ?_))
                      · rcases Bool.eq_false_or_eq_true (!x178) with hy179 | hy179
                        · have ey179 := cond_t ey179 hy179
                          refine oO rfl hy179 rfl (oO rfl hy179 rfl (oO rfl hy179 rfl (oD (stp_pick_t rfl hy179 rfl) rfl ?_)))
                          obtain rfl := Option.some.inj ey179
                          exact ow_nil (jy 4 0)
                        · have ey179 := cond_f ey179 hy179
                          refine oG rfl hy179 (mv rfl) rfl (oG rfl hy179 (mv rfl) rfl (oG rfl hy179 (stp_neqB Tryz.underlying4 rfl rfl) rfl (oD (stp_pick_f rfl hy179 rfl) rfl ?_)))
                          obtain rfl := Option.some.inj ey179
                          exact ow_nil (jy 4 0)
                      · refine ow_nil (kw_nx (cw_cond rfl (fun h180 => ?_) (fun h180 => ?_)))
                        · have H0 := cond_t H0 h180
                          refine sr (oD (sg rfl) rfl (nn (cw_ret (kw_nx_ret ?_))))
                          have q0 := Option.some.inj H0
                          subst q0
                          exact kw_ret Tryz.results12 (.cons (.tmp rfl) .nil) [] [] trivial (by decide) ⟨rfl, rfl⟩
                        · have H0 := cond_f H0 h180
                          refine cw_skip (kw_nx (sr (oD (sg rfl) rfl (nn (sr (oD (stp_loadN (us := [_, _, _, _, _, _, _, _, _, _, _]) ts68 rfl (Cells.box (id := 23) rfl 11 rfl)) rfl (oD (mv rfl) rfl (oE (stpU_call (fun i => 50 + i) cf43 (fun w hw => c_l_heldMemory fl w (⟨(⟨(⟨x126.2.1, x126.2.2.1⟩ : T), (⟨x126.2.2.2.1, x69.1.m.c.h⟩ : Ca), (⟨x69.1.m.g.c, x69.1.m.g.n, x69.1.m.g.r, x126.2.2.2.2.1⟩ : Tg), x69.1.m.s⟩ : Mc), x126.2.2.2.2.2, x69.1.h⟩ : Mm) p70 ((x69.1.m.t.b).length) c72 p74 ((x69.1.m.t.f).length) c76 p78 ((x69.1.m.c.l).length) c80 p82 ((x69.1.m.g.o).length) c84 p86 ((x69.1.k).length) c88 1 (by simp [hl127]) (OwnC.pass (id := 18) rfl o127 hw) (by simp [hl128]) (OwnC.pass (id := 19) rfl o128 hw) (by simp [hl129]) (OwnC.pass (id := 20) rfl o129 hw) (by simp [hl130]) (OwnC.pass (id := 21) rfl o130 hw) (by simp [hl131]) (OwnC.pass (id := 22) rfl o131 hw) x132 e132) (sevs_cons rfl (sevs_cons rfl sevs_nil))) rfl ?_))))))))
                          rintro _ _ ⟨_, ⟨rfl, rfl⟩, rfl⟩
                          refine oD (sg rfl) rfl (nn (cw_seq (sr (oD (mv rfl) rfl (oD (stp_lss rfl rfl) rfl (nn (cw_cond rfl (fun h181 => ?_) (fun h181 => ?_))))))))
                          · have H0 := cond_t H0 h181
                            refine sr (oD (sg rfl) rfl (nn (cw_ret (kw_nx_ret ?_))))
                            have q0 := Option.some.inj H0
                            subst q0
                            exact kw_ret Tryz.results12 (.cons (.tmp rfl) .nil) [] [] trivial (by decide) ⟨rfl, rfl⟩
                          · have H0 := cond_f H0 h181
                            refine cw_skip (kw_nx (cw_seq (sr (oD (mv rfl) rfl (oD (mv rfl) rfl (oD (stp_neq rfl rfl) rfl (nn (cw_cond rfl (fun h182 => ?_) (fun h182 => ?_)))))))))
                            · have H0 := cond_t H0 h182
                              refine sr (oD (sg rfl) rfl (nn (cw_ret (kw_nx_ret ?_))))
                              have q0 := Option.some.inj H0
                              subst q0
                              exact kw_ret Tryz.results12 (.cons (.tmp rfl) .nil) [] [] trivial (by decide) ⟨rfl, rfl⟩
                            · have H0 := cond_f H0 h182
                              refine cw_skip (kw_nx (sr (oD (sg rfl) rfl (nn (cw_ret ?_)))))
                              have q0 := Option.some.inj H0
                              subst q0
                              exact kw_ret Tryz.results12 (.cons (.tmp rfl) .nil) [] [] trivial (by decide) ⟨rfl, rfl⟩
end Go.Proofs.YtbgodaeccgjdgaaGreatDoor
