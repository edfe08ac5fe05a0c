/- The walks: functions of the program return what their pure functions say. Printed by a program (gen.py). -/
import Derived.Test.YtbgodaeccgjdgaaGreatDoorGp
import Derived.Test.YtbgodaeccgjdgaaGreatDoorGt
import Derived.Test.YtbgodaeccgjdgaaGreatDoorMan
import Derived.Test.YtbgodaeccgjdgaaGreatDoorMap
import Derived.Test.YtbgodaeccgjdgaaGreatDoorGwaa
import Derived.Test.YtbgodaeccgjdgaaGreatDoorGwab
import Derived.Test.YtbgodaeccgjdgaaGreatDoorGwac
import Derived.Test.YtbgodaeccgjdgaaGreatDoorGwap
set_option linter.unusedSimpArgs false
set_option linter.unusedVariables false
set_option linter.unusedSectionVars false
namespace Go.Proofs.YtbgodaeccgjdgaaGreatDoor
open Go.RowKit
set_option maxHeartbeats 4000000 in
set_option maxRecDepth 20000 in
theorem c_s_NewMemory (fl : Nat) (w : World) (a0 : Mc) (p0_0 : Option Addr) (n0_0 c0_0 : Nat) (p0_1 : Option Addr) (n0_1 c0_1 : Nat) (p0_2 : Option Addr) (n0_2 c0_2 : Nat) (p0_3 : Option Addr) (n0_3 c0_3 : Nat) (hn0_0 : n0_0 = (a0.t.b).length) (hr0_0 : RO w (hkeys []) (RdL p0_0 c0_0 a0.t.b)) (hn0_1 : n0_1 = (a0.t.f).length) (hr0_1 : RO w (hkeys []) (RdL p0_1 c0_1 a0.t.f)) (hn0_2 : n0_2 = (a0.c.l).length) (hr0_2 : RO w (hkeys []) (RdL p0_2 c0_2 a0.c.l)) (hn0_3 : n0_3 = (a0.g.o).length) (hr0_3 : RO w (hkeys []) (RdL p0_3 c0_3 a0.g.o)) (r : Mm × Bool) (H0 : s_NewMemory fl a0 = some r) :
    Ct Tryz.prog 39 [.agg #[.slice p0_0 n0_0 c0_0, .slice p0_1 n0_1 c0_1, .slice p0_2 n0_2 c0_2, .int .i64 a0.c.h, .int .i64 a0.g.c, .int .i64 a0.g.n, .int .i64 a0.g.r, .slice p0_3 n0_3 c0_3, .int .i64 a0.s]] w [] (fun rv h' => ∃ (x0 : Option Addr) (y0 z0 : Nat) (C0 : Res) (x1 : Option Addr) (y1 z1 : Nat) (C1 : Res) (x2 : Option Addr) (y2 z2 : Nat) (C2 : Res) (x3 : Option Addr) (y3 z3 : Nat) (C3 : Res) (x4 : Option Addr) (y4 z4 : Nat) (C4 : Res), rv = .tuple #[.agg #[.slice x0 y0 z0, .slice x1 y1 z1, .slice x2 y2 z2, .int .i64 r.1.m.c.h, .int .i64 r.1.m.g.c, .int .i64 r.1.m.g.n, .int .i64 r.1.m.g.r, .slice x3 y3 z3, .int .i64 r.1.m.s, .slice x4 y4 z4, .int .i64 r.1.h], .bool r.2] ∧ h' = [(0, C0), (1, C1), (2, C2), (3, C3), (4, C4)] ∧ y0 = (r.1.m.t.b).length ∧ OwnC 3 x0 z0 r.1.m.t.b C0 ∧ y1 = (r.1.m.t.f).length ∧ OwnC 127 x1 z1 r.1.m.t.f C1 ∧ y2 = (r.1.m.c.l).length ∧ OwnC 112 x2 z2 r.1.m.c.l C2 ∧ y3 = (r.1.m.g.o).length ∧ OwnC 148 x3 z3 r.1.m.g.o C3 ∧ y4 = (r.1.k).length ∧ OwnC 4 x4 z4 r.1.k C4) := by
  obtain rfl := hn0_0
  obtain rfl := hn0_1
  obtain rfl := hn0_2
  obtain rfl := hn0_3
  unfold s_NewMemory at H0
  refine ct_of_cw Tryz.func39 rfl Tryz.ntmps39 rfl (Sat.refl _ _) ?_
  refine sr (oE (stpU_box 0 rfl rfl) rfl ?_)
  rintro _ _ ⟨b1, rfl, rfl⟩
  refine oE (stpU_alloc 1 tz68 rfl) rfl ?_
  rintro _ _ ⟨b2, rfl, rfl⟩
  obtain ⟨x3, e3, H0⟩ := bind_some H0
  refine oD (sg rfl) rfl (nn (cw_seq (sr (oD (stp_loadN (us := [_, _, _, _, _, _, _, _, _]) ts47 rfl (Cells.box (id := 0) rfl 9 rfl)) rfl (oE (stpU_call (fun i => 2 + i) cf53 (fun w hw => c_s_MachineValid fl w a0 p0_0 ((a0.t.b).length) c0_0 p0_1 ((a0.t.f).length) c0_1 p0_2 ((a0.c.l).length) c0_2 p0_3 ((a0.g.o).length) c0_3 rfl (RO.pass hr0_0 hw) rfl (RO.pass hr0_1 hw) rfl (RO.pass hr0_2 hw) rfl (RO.pass hr0_3 hw) x3 e3) (sevs_cons rfl sevs_nil)) rfl ?_)))))
  rintro _ _ ⟨_, ⟨rfl, rfl⟩, rfl⟩
  refine oD (stp_not rfl) rfl (nn (cw_cond rfl (fun h4 => ?_) (fun h4 => ?_)))
  · have H0 := cond_t H0 h4
    refine sr (oD (stp_build (cs := #[.slice none 0 0, .slice none 0 0, .slice none 0 0, .int .i64 0, .int .i64 0, .int .i64 0, .int .i64 0, .slice none 0 0, .int .i64 0, .slice none 0 0, .int .i64 0]) sevp_nil bt68_18) rfl (oF (stpU_store (id := 1) (cs' := [.slice none 0 0, .slice none 0 0, .slice none 0 0, .int .i64 0, .int .i64 0, .int .i64 0, .int .i64 0, .slice none 0 0, .int .i64 0, .slice none 0 0, .int .i64 0]) ts68 rfl rfl rfl rfl rfl rfl rfl) ?_))
    rintro _ _ rfl
    refine oD (sg rfl) rfl (nn (cw_ret (kw_nx_ret (kw_addNil 2 (kw_addNil 3 (kw_addNil 4 (kw_addNil 5 (kw_addNil 6 ?_))))))))
    have q0 := Option.some.inj H0
    subst q0
    exact kw_ret Tryz.results39 (.cons (.cellN (us := [_, _, _, _, _, _, _, _, _, _, _]) ts68 rfl (Cells.box (id := 1) rfl 11 rfl)) (.cons (.tmp rfl) .nil)) [(0, []), (1, []), (2, []), (3, []), (4, [])] [2, 3, 4, 5, 6] ⟨2, [3, 4, 5, 6], rfl, rfl, 3, [4, 5, 6], rfl, rfl, 4, [5, 6], rfl, rfl, 5, [6], rfl, rfl, 6, [], rfl, rfl, trivial⟩ (by decide) ⟨none, 0, 0, [], none, 0, 0, [], none, 0, 0, [], none, 0, 0, [], none, 0, 0, [], rfl, rfl, rfl, (OwnC.nil _ _), rfl, (OwnC.nil _ _), rfl, (OwnC.nil _ _), rfl, (OwnC.nil _ _), rfl, (OwnC.nil _ _)⟩
  · have H0 := cond_f H0 h4
    obtain ⟨x5, e5, H0⟩ := bind_some H0
    obtain ⟨x22, e22, H0⟩ := bind_some H0
    refine cw_skip (kw_nx (cw_seq (rdr g_mixed [1, 2] [0, 1] { dst := dS [9, 10, 11, 12, 13, 14, 15, 16, 0, 4], pre := gA [] [[], [0], [], [2], [2, 3], [2, 3, 4], rn 2 4, rn 0 7, rn 0 8, rn 0 9], ids := gA [] [[], [7, 8, 9, 10], [], [], [], [], [11], [], [1]], rs := rL [[(1, 0)], [(8, 1)], [(1, 0)], [(10, 3)], [(11, 4)], [(12, 5)], [(13, 6)], [(9, 2), (14, 7)], [(2, 0), (15, 8)], []], rh := rL [[(0, 0)], [], [], [], [(0, 0)], [], [], [], [(1, 0)]], V := fun i g => gA undef [.agg #[.slice p0_0 ((a0.t.b).length) c0_0, .slice p0_1 ((a0.t.f).length) c0_1, .slice p0_2 ((a0.c.l).length) c0_2, .int .i64 a0.c.h, .int .i64 a0.g.c, .int .i64 a0.g.n, .int .i64 a0.g.r, .slice p0_3 ((a0.g.o).length) c0_3, .int .i64 a0.s], .agg #[.slice ((g 1).A 0) ((x5.t.b).length) ((g 1).C 0), .slice ((g 1).A 1) ((x5.t.f).length) ((g 1).C 1), .slice ((g 1).A 2) ((x5.c.l).length) ((g 1).C 2), .int .i64 x5.c.h, .int .i64 x5.g.c, .int .i64 x5.g.n, .int .i64 x5.g.r, .slice ((g 1).A 3) ((x5.g.o).length) ((g 1).C 3), .int .i64 x5.s], .pointer (some ⟨b1, 0, none⟩), .pointer (some ⟨b1, 1, none⟩), .slice p0_1 ((a0.t.f).length) c0_1, .int .i64 ((a0.t.f).length : Int), .slice ((g 6).A 0) x22 x22, .agg #[.slice ((g 1).A 0) ((x5.t.b).length) ((g 1).C 0), .slice ((g 1).A 1) ((x5.t.f).length) ((g 1).C 1), .slice ((g 1).A 2) ((x5.c.l).length) ((g 1).C 2), .int .i64 x5.c.h, .int .i64 x5.g.c, .int .i64 x5.g.n, .int .i64 x5.g.r, .slice ((g 1).A 3) ((x5.g.o).length) ((g 1).C 3), .int .i64 x5.s, .slice ((g 6).A 0) x22 x22, .int .i64 0], undef, .bool true] i, U := fun i g => gA [] [[], [(7, ((g 1).R 0)), (8, ((g 1).R 1)), (9, ((g 1).R 2)), (10, ((g 1).R 3))], [], [], [], [], [(11, ((g 6).R 0))], [], [(1, [(b2, .cells #[.slice ((g 1).A 0) ((x5.t.b).length) ((g 1).C 0), .slice ((g 1).A 1) ((x5.t.f).length) ((g 1).C 1), .slice ((g 1).A 2) ((x5.c.l).length) ((g 1).C 2), .int .i64 x5.c.h, .int .i64 x5.g.c, .int .i64 x5.g.n, .int .i64 x5.g.r, .slice ((g 1).A 3) ((x5.g.o).length) ((g 1).C 3), .int .i64 x5.s, .slice ((g 6).A 0) x22 x22, .int .i64 0] 68 (0, 0))])]] i, Φ := fun i x => match i with | 1 => OwnC (α := Int) 3 (x.A 0) (x.C 0) x5.t.b (x.R 0) ∧ OwnC (α := F) 127 (x.A 1) (x.C 1) x5.t.f (x.R 1) ∧ OwnC (α := Ln) 112 (x.A 2) (x.C 2) x5.c.l (x.R 2) ∧ OwnC (α := Ow) 148 (x.A 3) (x.C 3) x5.g.o (x.R 3) | 6 => OwnC (α := Bool) 4 (x.A 0) x22 (List.replicate x22 false) (x.R 0) | _ => True } ?_ ?_)))
    · refine ⟨⟨⟨⟨⟨⟨⟨⟨⟨⟨trivial, lc rfl rfl fun hs hh => stp_loadN (us := [_, _, _, _, _, _, _, _, _]) ts47 (sv hs 1 rfl) (Cells.box (id := 0) (hh.get 0 _ rfl) 9 rfl)⟩, ?_⟩, lc rfl rfl fun hs hh => stp_fieldAddr (j := 0) Tryz.underlying47 rfl ts39 rfl (sv hs 1 rfl) rfl⟩, lc rfl rfl fun hs hh => stp_fieldAddr (j := 1) Tryz.underlying39 rfl ts37 rfl (sv hs 10 rfl) rfl⟩, lc rfl rfl fun hs hh => stp_load1 ts37 (sv hs 11 rfl) (Cells.box (id := 0) (hh.get 0 _ rfl) 1 rfl)⟩, lc rfl rfl fun hs hh => stp_len Tryz.underlying37 (sv hs 12 rfl)⟩, ?_⟩, ld rfl rfl fun g hΦ s h hs hh => stp_build (cs := #[.slice ((g 1).A 0) ((x5.t.b).length) ((g 1).C 0), .slice ((g 1).A 1) ((x5.t.f).length) ((g 1).C 1), .slice ((g 1).A 2) ((x5.c.l).length) ((g 1).C 2), .int .i64 x5.c.h, .int .i64 x5.g.c, .int .i64 x5.g.n, .int .i64 x5.g.r, .slice ((g 1).A 3) ((x5.g.o).length) ((g 1).C 3), .int .i64 x5.s, .slice ((g 6).A 0) x22 x22, .int .i64 0]) (sevp_cons (sv hs 9 rfl) (sevp_cons (sv hs 14 rfl) sevp_nil)) bt68_19⟩, ?_⟩, lc rfl rfl fun hs hh => stp_assign rfl⟩
      · refine le rfl rfl (fun g hΦ s h hs hh => (stpU_call (fun i => 7 + i) cf56 (fun w hw => c_s_l6Copy fl w a0 p0_0 ((a0.t.b).length) c0_0 p0_1 ((a0.t.f).length) c0_1 p0_2 ((a0.c.l).length) c0_2 p0_3 ((a0.g.o).length) c0_3 rfl (RO.pass hr0_0 hw) rfl (RO.pass hr0_1 hw) rfl (RO.pass hr0_2 hw) rfl (RO.pass hr0_3 hw) x5 e5) (sevs_cons (sv hs 8 rfl) sevs_nil))) ?_
        rintro g _ _ ⟨_, ⟨p6, n7, c8, C9, p10, n11, c12, C13, p14, n15, c16, C17, p18, n19, c20, C21, rfl, rfl, hnn7, o9, hnn11, o13, hnn15, o17, hnn19, o21⟩, rfl⟩
        obtain rfl := hnn7
        obtain rfl := hnn11
        obtain rfl := hnn15
        obtain rfl := hnn19
        exact ⟨⟨[p6, p10, p14, p18], [c8, c12, c16, c20], [C9, C13, C17, C21]⟩, ⟨o9, o13, o17, o21⟩, .inr rfl, rfl⟩
      · refine le rfl rfl (fun g hΦ s h hs hh => (stpU_make sl66 rfl 11 (sv hs 13 rfl) (sv hs 13 rfl) e22)) ?_
        rintro g _ _ ⟨p23, C24, rfl, rfl, o24⟩
        exact ⟨⟨[p23], [], [C24]⟩, o24, .inr rfl, rfl⟩
      · refine le rfl rfl (fun g hΦ s h hs hh => (stpU_store (id := 1) (cs' := [.slice ((g 1).A 0) ((x5.t.b).length) ((g 1).C 0), .slice ((g 1).A 1) ((x5.t.f).length) ((g 1).C 1), .slice ((g 1).A 2) ((x5.c.l).length) ((g 1).C 2), .int .i64 x5.c.h, .int .i64 x5.g.c, .int .i64 x5.g.n, .int .i64 x5.g.r, .slice ((g 1).A 3) ((x5.g.o).length) ((g 1).C 3), .int .i64 x5.s, .slice ((g 6).A 0) x22 x22, .int .i64 0]) ts68 (sv hs 2 rfl) (sv hs 15 rfl) (hh.get 1 _ rfl) rfl rfl rfl rfl)) ?_
        rintro g _ _ rfl
        exact ⟨⟨[], [], []⟩, trivial, .inl rfl, rfl⟩
    · intro g hΦ
      refine kw_gen (ι := Option Addr × Option Addr × Option Addr × Option Addr × Nat × Nat × Nat × Nat × Res × Res × Res × Res × Option Addr × Res) (((g 1).A 0), ((g 1).A 1), ((g 1).A 2), ((g 1).A 3), ((g 1).C 0), ((g 1).C 1), ((g 1).C 2), ((g 1).C 3), ((g 1).R 0), ((g 1).R 1), ((g 1).R 2), ((g 1).R 3), ((g 6).A 0), ((g 6).R 0)) (fun | (p6, p10, p14, p18, c8, c12, c16, c20, C9, C13, C17, C21, p23, C24) => OwnC (α := Int) 3 p6 c8 x5.t.b C9 ∧ OwnC (α := F) 127 p10 c12 x5.t.f C13 ∧ OwnC (α := Ln) 112 p14 c16 x5.c.l C17 ∧ OwnC (α := Ow) 148 p18 c20 x5.g.o C21 ∧ OwnC (α := Bool) 4 p23 x22 (List.replicate x22 false) C24) (fun | (p6, p10, p14, p18, c8, c12, c16, c20, C9, C13, C17, C21, p23, C24) => [(2, .pointer (some ⟨b2, 0, none⟩)), (3, .bool true)]) (fun | (p6, p10, p14, p18, c8, c12, c16, c20, C9, C13, C17, C21, p23, C24) => [(1, [(b2, .cells #[.slice p6 ((x5.t.b).length) c8, .slice p10 ((x5.t.f).length) c12, .slice p14 ((x5.c.l).length) c16, .int .i64 x5.c.h, .int .i64 x5.g.c, .int .i64 x5.g.n, .int .i64 x5.g.r, .slice p18 ((x5.g.o).length) c20, .int .i64 x5.s, .slice p23 x22 x22, .int .i64 0] 68 (0, 0))]), (7, C9), (8, C13), (9, C17), (10, C21), (11, C24)]) ⟨(hΦ 1 (by decide)).1, (hΦ 1 (by decide)).2.1, (hΦ 1 (by decide)).2.2.1, (hΦ 1 (by decide)).2.2.2, (hΦ 6 (by decide))⟩ ⟨rfl, rfl, trivial⟩ ⟨rfl, rfl, rfl, rfl, rfl, rfl, trivial⟩ ?_
      rintro ⟨p6, p10, p14, p18, c8, c12, c16, c20, C9, C13, C17, C21, p23, C24⟩ ⟨o9, o13, o17, o21, o24⟩
      refine KW.sub (s' := [(2, .pointer (some ⟨b2, 0, none⟩)), (3, .bool true)]) (h' := [(1, [(b2, .cells #[.slice p6 ((x5.t.b).length) c8, .slice p10 ((x5.t.f).length) c12, .slice p14 ((x5.c.l).length) c16, .int .i64 x5.c.h, .int .i64 x5.g.c, .int .i64 x5.g.n, .int .i64 x5.g.r, .slice p18 ((x5.g.o).length) c20, .int .i64 x5.s, .slice p23 x22 x22, .int .i64 0] 68 (0, 0))]), (7, C9), (8, C13), (9, C17), (10, C21), (11, C24)]) ?_ ⟨rfl, rfl, trivial⟩ ⟨rfl, rfl, rfl, rfl, rfl, rfl, trivial⟩
      refine kw_nx (cw_ret ?_)
      have q0 := Option.some.inj H0
      subst q0
      exact kw_ret Tryz.results39 (.cons (.cellN (us := [_, _, _, _, _, _, _, _, _, _, _]) ts68 rfl (Cells.box (id := 1) rfl 11 rfl)) (.cons (.tmp rfl) .nil)) [(0, C9), (1, C13), (2, C17), (3, C21), (4, C24)] [7, 8, 9, 10, 11] ⟨7, [8, 9, 10, 11], rfl, rfl, 8, [9, 10, 11], rfl, rfl, 9, [10, 11], rfl, rfl, 10, [11], rfl, rfl, 11, [], rfl, rfl, trivial⟩ (by decide) ⟨p6, ((x5.t.b).length), c8, C9, p10, ((x5.t.f).length), c12, C13, p14, ((x5.c.l).length), c16, C17, p18, ((x5.g.o).length), c20, C21, p23, x22, x22, C24, rfl, rfl, rfl, o9, rfl, o13, rfl, o17, rfl, o21, (by simp), o24⟩

set_option maxHeartbeats 4000000 in
set_option maxRecDepth 20000 in
theorem c_i_NewMemory (fl : Nat) (w : World) (a0 : Mc) (p0_0 : Option Addr) (n0_0 c0_0 : Nat) (p0_1 : Option Addr) (n0_1 c0_1 : Nat) (p0_2 : Option Addr) (n0_2 c0_2 : Nat) (p0_3 : Option Addr) (n0_3 c0_3 : Nat) (hn0_0 : n0_0 = (a0.t.b).length) (hr0_0 : RO w (hkeys []) (RdL p0_0 c0_0 a0.t.b)) (hn0_1 : n0_1 = (a0.t.f).length) (hr0_1 : RO w (hkeys []) (RdL p0_1 c0_1 a0.t.f)) (hn0_2 : n0_2 = (a0.c.l).length) (hr0_2 : RO w (hkeys []) (RdL p0_2 c0_2 a0.c.l)) (hn0_3 : n0_3 = (a0.g.o).length) (hr0_3 : RO w (hkeys []) (RdL p0_3 c0_3 a0.g.o)) (hg : RO w (hkeys []) (fun w' => w'.rangeAt 0 0 [.bool false, .int .i64 0, .int .i64 0, .int .i64 0, .int .i64 (-1)])) (r : Mm × Bool) (H0 : i_NewMemory fl a0 = some r) :
    Ct Tryz.prog 40 [.agg #[.slice p0_0 n0_0 c0_0, .slice p0_1 n0_1 c0_1, .slice p0_2 n0_2 c0_2, .int .i64 a0.c.h, .int .i64 a0.g.c, .int .i64 a0.g.n, .int .i64 a0.g.r, .slice p0_3 n0_3 c0_3, .int .i64 a0.s]] w [] (fun rv h' => ∃ (x0 : Option Addr) (y0 z0 : Nat) (C0 : Res) (x1 : Option Addr) (y1 z1 : Nat) (C1 : Res) (x2 : Option Addr) (y2 z2 : Nat) (C2 : Res) (x3 : Option Addr) (y3 z3 : Nat) (C3 : Res) (x4 : Option Addr) (y4 z4 : Nat) (C4 : Res), rv = .tuple #[.agg #[.slice x0 y0 z0, .slice x1 y1 z1, .slice x2 y2 z2, .int .i64 r.1.m.c.h, .int .i64 r.1.m.g.c, .int .i64 r.1.m.g.n, .int .i64 r.1.m.g.r, .slice x3 y3 z3, .int .i64 r.1.m.s, .slice x4 y4 z4, .int .i64 r.1.h], .bool r.2] ∧ h' = [(0, C0), (1, C1), (2, C2), (3, C3), (4, C4)] ∧ y0 = (r.1.m.t.b).length ∧ OwnC 3 x0 z0 r.1.m.t.b C0 ∧ y1 = (r.1.m.t.f).length ∧ OwnC 127 x1 z1 r.1.m.t.f C1 ∧ y2 = (r.1.m.c.l).length ∧ OwnC 112 x2 z2 r.1.m.c.l C2 ∧ y3 = (r.1.m.g.o).length ∧ OwnC 148 x3 z3 r.1.m.g.o C3 ∧ y4 = (r.1.k).length ∧ OwnC 4 x4 z4 r.1.k C4) := by
  obtain rfl := hn0_0
  obtain rfl := hn0_1
  obtain rfl := hn0_2
  obtain rfl := hn0_3
  unfold i_NewMemory at H0
  refine ct_of_cw Tryz.func40 rfl Tryz.ntmps40 rfl (Sat.refl _ _) ?_
  refine sr (oE (stpU_box 0 rfl rfl) rfl ?_)
  rintro _ _ ⟨b1, rfl, rfl⟩
  refine oE (stpU_alloc 1 tz68 rfl) rfl ?_
  rintro _ _ ⟨b2, rfl, rfl⟩
  obtain ⟨x3, e3, H0⟩ := bind_some H0
  refine oD (sg rfl) rfl (nn (cw_seq (sr (oD (stp_loadN (us := [_, _, _, _, _, _, _, _, _]) ts47 rfl (Cells.box (id := 0) rfl 9 rfl)) rfl (oE (stpU_call (fun i => 2 + i) cf60 (fun w hw => c_i_MachineValid fl w a0 p0_0 ((a0.t.b).length) c0_0 p0_1 ((a0.t.f).length) c0_1 p0_2 ((a0.c.l).length) c0_2 p0_3 ((a0.g.o).length) c0_3 rfl (RO.pass hr0_0 hw) rfl (RO.pass hr0_1 hw) rfl (RO.pass hr0_2 hw) rfl (RO.pass hr0_3 hw) (RO.pass hg hw) x3 e3) (sevs_cons rfl sevs_nil)) rfl ?_)))))
  rintro _ _ ⟨_, ⟨rfl, rfl⟩, rfl⟩
  refine oD (stp_not rfl) rfl (nn (cw_cond rfl (fun h4 => ?_) (fun h4 => ?_)))
  · have H0 := cond_t H0 h4
    refine sr (oD (stp_build (cs := #[.slice none 0 0, .slice none 0 0, .slice none 0 0, .int .i64 0, .int .i64 0, .int .i64 0, .int .i64 0, .slice none 0 0, .int .i64 0, .slice none 0 0, .int .i64 0]) sevp_nil bt68_18) rfl (oF (stpU_store (id := 1) (cs' := [.slice none 0 0, .slice none 0 0, .slice none 0 0, .int .i64 0, .int .i64 0, .int .i64 0, .int .i64 0, .slice none 0 0, .int .i64 0, .slice none 0 0, .int .i64 0]) ts68 rfl rfl rfl rfl rfl rfl rfl) ?_))
    rintro _ _ rfl
    refine oD (sg rfl) rfl (nn (cw_ret (kw_nx_ret (kw_addNil 2 (kw_addNil 3 (kw_addNil 4 (kw_addNil 5 (kw_addNil 6 ?_))))))))
    have q0 := Option.some.inj H0
    subst q0
    exact kw_ret Tryz.results40 (.cons (.cellN (us := [_, _, _, _, _, _, _, _, _, _, _]) ts68 rfl (Cells.box (id := 1) rfl 11 rfl)) (.cons (.tmp rfl) .nil)) [(0, []), (1, []), (2, []), (3, []), (4, [])] [2, 3, 4, 5, 6] ⟨2, [3, 4, 5, 6], rfl, rfl, 3, [4, 5, 6], rfl, rfl, 4, [5, 6], rfl, rfl, 5, [6], rfl, rfl, 6, [], rfl, rfl, trivial⟩ (by decide) ⟨none, 0, 0, [], none, 0, 0, [], none, 0, 0, [], none, 0, 0, [], none, 0, 0, [], rfl, rfl, rfl, (OwnC.nil _ _), rfl, (OwnC.nil _ _), rfl, (OwnC.nil _ _), rfl, (OwnC.nil _ _), rfl, (OwnC.nil _ _)⟩
  · have H0 := cond_f H0 h4
    obtain ⟨x5, e5, H0⟩ := bind_some H0
    obtain ⟨x22, e22, H0⟩ := bind_some H0
    refine cw_skip (kw_nx (cw_seq (rdr g_mixed [1, 2] [0, 1] { dst := dS [9, 10, 11, 12, 13, 14, 15, 16, 0, 4], pre := gA [] [[], [0], [], [2], [2, 3], [2, 3, 4], rn 2 4, rn 0 7, rn 0 8, rn 0 9], ids := gA [] [[], [7, 8, 9, 10], [], [], [], [], [11], [], [1]], rs := rL [[(1, 0)], [(8, 1)], [(1, 0)], [(10, 3)], [(11, 4)], [(12, 5)], [(13, 6)], [(9, 2), (14, 7)], [(2, 0), (15, 8)], []], rh := rL [[(0, 0)], [], [], [], [(0, 0)], [], [], [], [(1, 0)]], V := fun i g => gA undef [.agg #[.slice p0_0 ((a0.t.b).length) c0_0, .slice p0_1 ((a0.t.f).length) c0_1, .slice p0_2 ((a0.c.l).length) c0_2, .int .i64 a0.c.h, .int .i64 a0.g.c, .int .i64 a0.g.n, .int .i64 a0.g.r, .slice p0_3 ((a0.g.o).length) c0_3, .int .i64 a0.s], .agg #[.slice ((g 1).A 0) ((x5.t.b).length) ((g 1).C 0), .slice ((g 1).A 1) ((x5.t.f).length) ((g 1).C 1), .slice ((g 1).A 2) ((x5.c.l).length) ((g 1).C 2), .int .i64 x5.c.h, .int .i64 x5.g.c, .int .i64 x5.g.n, .int .i64 x5.g.r, .slice ((g 1).A 3) ((x5.g.o).length) ((g 1).C 3), .int .i64 x5.s], .pointer (some ⟨b1, 0, none⟩), .pointer (some ⟨b1, 1, none⟩), .slice p0_1 ((a0.t.f).length) c0_1, .int .i64 ((a0.t.f).length : Int), .slice ((g 6).A 0) x22 x22, .agg #[.slice ((g 1).A 0) ((x5.t.b).length) ((g 1).C 0), .slice ((g 1).A 1) ((x5.t.f).length) ((g 1).C 1), .slice ((g 1).A 2) ((x5.c.l).length) ((g 1).C 2), .int .i64 x5.c.h, .int .i64 x5.g.c, .int .i64 x5.g.n, .int .i64 x5.g.r, .slice ((g 1).A 3) ((x5.g.o).length) ((g 1).C 3), .int .i64 x5.s, .slice ((g 6).A 0) x22 x22, .int .i64 0], undef, .bool true] i, U := fun i g => gA [] [[], [(7, ((g 1).R 0)), (8, ((g 1).R 1)), (9, ((g 1).R 2)), (10, ((g 1).R 3))], [], [], [], [], [(11, ((g 6).R 0))], [], [(1, [(b2, .cells #[.slice ((g 1).A 0) ((x5.t.b).length) ((g 1).C 0), .slice ((g 1).A 1) ((x5.t.f).length) ((g 1).C 1), .slice ((g 1).A 2) ((x5.c.l).length) ((g 1).C 2), .int .i64 x5.c.h, .int .i64 x5.g.c, .int .i64 x5.g.n, .int .i64 x5.g.r, .slice ((g 1).A 3) ((x5.g.o).length) ((g 1).C 3), .int .i64 x5.s, .slice ((g 6).A 0) x22 x22, .int .i64 0] 68 (0, 0))])]] i, Φ := fun i x => match i with | 1 => OwnC (α := Int) 3 (x.A 0) (x.C 0) x5.t.b (x.R 0) ∧ OwnC (α := F) 127 (x.A 1) (x.C 1) x5.t.f (x.R 1) ∧ OwnC (α := Ln) 112 (x.A 2) (x.C 2) x5.c.l (x.R 2) ∧ OwnC (α := Ow) 148 (x.A 3) (x.C 3) x5.g.o (x.R 3) | 6 => OwnC (α := Bool) 4 (x.A 0) x22 (List.replicate x22 false) (x.R 0) | _ => True } ?_ ?_)))
    · refine ⟨⟨⟨⟨⟨⟨⟨⟨⟨⟨trivial, lc rfl rfl fun hs hh => stp_loadN (us := [_, _, _, _, _, _, _, _, _]) ts47 (sv hs 1 rfl) (Cells.box (id := 0) (hh.get 0 _ rfl) 9 rfl)⟩, ?_⟩, lc rfl rfl fun hs hh => stp_fieldAddr (j := 0) Tryz.underlying47 rfl ts39 rfl (sv hs 1 rfl) rfl⟩, lc rfl rfl fun hs hh => stp_fieldAddr (j := 1) Tryz.underlying39 rfl ts37 rfl (sv hs 10 rfl) rfl⟩, lc rfl rfl fun hs hh => stp_load1 ts37 (sv hs 11 rfl) (Cells.box (id := 0) (hh.get 0 _ rfl) 1 rfl)⟩, lc rfl rfl fun hs hh => stp_len Tryz.underlying37 (sv hs 12 rfl)⟩, ?_⟩, ld rfl rfl fun g hΦ s h hs hh => stp_build (cs := #[.slice ((g 1).A 0) ((x5.t.b).length) ((g 1).C 0), .slice ((g 1).A 1) ((x5.t.f).length) ((g 1).C 1), .slice ((g 1).A 2) ((x5.c.l).length) ((g 1).C 2), .int .i64 x5.c.h, .int .i64 x5.g.c, .int .i64 x5.g.n, .int .i64 x5.g.r, .slice ((g 1).A 3) ((x5.g.o).length) ((g 1).C 3), .int .i64 x5.s, .slice ((g 6).A 0) x22 x22, .int .i64 0]) (sevp_cons (sv hs 9 rfl) (sevp_cons (sv hs 14 rfl) (sevp_cons rfl sevp_nil))) bt68_20⟩, ?_⟩, lc rfl rfl fun hs hh => stp_assign rfl⟩
      · refine le rfl rfl (fun g hΦ s h hs hh => (stpU_call (fun i => 7 + i) cf63 (fun w hw => c_i_Machine_clone fl w a0 p0_0 ((a0.t.b).length) c0_0 p0_1 ((a0.t.f).length) c0_1 p0_2 ((a0.c.l).length) c0_2 p0_3 ((a0.g.o).length) c0_3 rfl (RO.pass hr0_0 hw) rfl (RO.pass hr0_1 hw) rfl (RO.pass hr0_2 hw) rfl (RO.pass hr0_3 hw) x5 e5) (sevs_cons (sv hs 8 rfl) sevs_nil))) ?_
        rintro g _ _ ⟨_, ⟨p6, n7, c8, C9, p10, n11, c12, C13, p14, n15, c16, C17, p18, n19, c20, C21, rfl, rfl, hnn7, o9, hnn11, o13, hnn15, o17, hnn19, o21⟩, rfl⟩
        obtain rfl := hnn7
        obtain rfl := hnn11
        obtain rfl := hnn15
        obtain rfl := hnn19
        exact ⟨⟨[p6, p10, p14, p18], [c8, c12, c16, c20], [C9, C13, C17, C21]⟩, ⟨o9, o13, o17, o21⟩, .inr rfl, rfl⟩
      · refine le rfl rfl (fun g hΦ s h hs hh => (stpU_make sl66 rfl 11 (sv hs 13 rfl) (sv hs 13 rfl) e22)) ?_
        rintro g _ _ ⟨p23, C24, rfl, rfl, o24⟩
        exact ⟨⟨[p23], [], [C24]⟩, o24, .inr rfl, rfl⟩
      · refine le rfl rfl (fun g hΦ s h hs hh => (stpU_store (id := 1) (cs' := [.slice ((g 1).A 0) ((x5.t.b).length) ((g 1).C 0), .slice ((g 1).A 1) ((x5.t.f).length) ((g 1).C 1), .slice ((g 1).A 2) ((x5.c.l).length) ((g 1).C 2), .int .i64 x5.c.h, .int .i64 x5.g.c, .int .i64 x5.g.n, .int .i64 x5.g.r, .slice ((g 1).A 3) ((x5.g.o).length) ((g 1).C 3), .int .i64 x5.s, .slice ((g 6).A 0) x22 x22, .int .i64 0]) ts68 (sv hs 2 rfl) (sv hs 15 rfl) (hh.get 1 _ rfl) rfl rfl rfl rfl)) ?_
        rintro g _ _ rfl
        exact ⟨⟨[], [], []⟩, trivial, .inl rfl, rfl⟩
    · intro g hΦ
      refine kw_gen (ι := Option Addr × Option Addr × Option Addr × Option Addr × Nat × Nat × Nat × Nat × Res × Res × Res × Res × Option Addr × Res) (((g 1).A 0), ((g 1).A 1), ((g 1).A 2), ((g 1).A 3), ((g 1).C 0), ((g 1).C 1), ((g 1).C 2), ((g 1).C 3), ((g 1).R 0), ((g 1).R 1), ((g 1).R 2), ((g 1).R 3), ((g 6).A 0), ((g 6).R 0)) (fun | (p6, p10, p14, p18, c8, c12, c16, c20, C9, C13, C17, C21, p23, C24) => OwnC (α := Int) 3 p6 c8 x5.t.b C9 ∧ OwnC (α := F) 127 p10 c12 x5.t.f C13 ∧ OwnC (α := Ln) 112 p14 c16 x5.c.l C17 ∧ OwnC (α := Ow) 148 p18 c20 x5.g.o C21 ∧ OwnC (α := Bool) 4 p23 x22 (List.replicate x22 false) C24) (fun | (p6, p10, p14, p18, c8, c12, c16, c20, C9, C13, C17, C21, p23, C24) => [(2, .pointer (some ⟨b2, 0, none⟩)), (3, .bool true)]) (fun | (p6, p10, p14, p18, c8, c12, c16, c20, C9, C13, C17, C21, p23, C24) => [(1, [(b2, .cells #[.slice p6 ((x5.t.b).length) c8, .slice p10 ((x5.t.f).length) c12, .slice p14 ((x5.c.l).length) c16, .int .i64 x5.c.h, .int .i64 x5.g.c, .int .i64 x5.g.n, .int .i64 x5.g.r, .slice p18 ((x5.g.o).length) c20, .int .i64 x5.s, .slice p23 x22 x22, .int .i64 0] 68 (0, 0))]), (7, C9), (8, C13), (9, C17), (10, C21), (11, C24)]) ⟨(hΦ 1 (by decide)).1, (hΦ 1 (by decide)).2.1, (hΦ 1 (by decide)).2.2.1, (hΦ 1 (by decide)).2.2.2, (hΦ 6 (by decide))⟩ ⟨rfl, rfl, trivial⟩ ⟨rfl, rfl, rfl, rfl, rfl, rfl, trivial⟩ ?_
      rintro ⟨p6, p10, p14, p18, c8, c12, c16, c20, C9, C13, C17, C21, p23, C24⟩ ⟨o9, o13, o17, o21, o24⟩
      refine KW.sub (s' := [(2, .pointer (some ⟨b2, 0, none⟩)), (3, .bool true)]) (h' := [(1, [(b2, .cells #[.slice p6 ((x5.t.b).length) c8, .slice p10 ((x5.t.f).length) c12, .slice p14 ((x5.c.l).length) c16, .int .i64 x5.c.h, .int .i64 x5.g.c, .int .i64 x5.g.n, .int .i64 x5.g.r, .slice p18 ((x5.g.o).length) c20, .int .i64 x5.s, .slice p23 x22 x22, .int .i64 0] 68 (0, 0))]), (7, C9), (8, C13), (9, C17), (10, C21), (11, C24)]) ?_ ⟨rfl, rfl, trivial⟩ ⟨rfl, rfl, rfl, rfl, rfl, rfl, trivial⟩
      refine kw_nx (cw_ret ?_)
      have q0 := Option.some.inj H0
      subst q0
      exact kw_ret Tryz.results40 (.cons (.cellN (us := [_, _, _, _, _, _, _, _, _, _, _]) ts68 rfl (Cells.box (id := 1) rfl 11 rfl)) (.cons (.tmp rfl) .nil)) [(0, C9), (1, C13), (2, C17), (3, C21), (4, C24)] [7, 8, 9, 10, 11] ⟨7, [8, 9, 10, 11], rfl, rfl, 8, [9, 10, 11], rfl, rfl, 9, [10, 11], rfl, rfl, 10, [11], rfl, rfl, 11, [], rfl, rfl, trivial⟩ (by decide) ⟨p6, ((x5.t.b).length), c8, C9, p10, ((x5.t.f).length), c12, C13, p14, ((x5.c.l).length), c16, C17, p18, ((x5.g.o).length), c20, C21, p23, x22, x22, C24, rfl, rfl, rfl, o9, rfl, o13, rfl, o17, rfl, o21, (by simp), o24⟩

set_option maxHeartbeats 4000000 in
set_option maxRecDepth 20000 in
theorem c_l_FnExactNewMemory (fl : Nat) (w : World) (a0 : Mc) (p0_0 : Option Addr) (n0_0 c0_0 : Nat) (p0_1 : Option Addr) (n0_1 c0_1 : Nat) (p0_2 : Option Addr) (n0_2 c0_2 : Nat) (p0_3 : Option Addr) (n0_3 c0_3 : Nat) (hn0_0 : n0_0 = (a0.t.b).length) (hr0_0 : RO w (hkeys []) (RdL p0_0 c0_0 a0.t.b)) (hn0_1 : n0_1 = (a0.t.f).length) (hr0_1 : RO w (hkeys []) (RdL p0_1 c0_1 a0.t.f)) (hn0_2 : n0_2 = (a0.c.l).length) (hr0_2 : RO w (hkeys []) (RdL p0_2 c0_2 a0.c.l)) (hn0_3 : n0_3 = (a0.g.o).length) (hr0_3 : RO w (hkeys []) (RdL p0_3 c0_3 a0.g.o)) (hg : RO w (hkeys []) (fun w' => w'.rangeAt 0 0 [.bool false, .int .i64 0, .int .i64 0, .int .i64 0, .int .i64 (-1)])) (r : Bool) (H0 : l_FnExactNewMemory fl a0 = some r) :
    Ct Tryz.prog 11 [.agg #[.slice p0_0 n0_0 c0_0, .slice p0_1 n0_1 c0_1, .slice p0_2 n0_2 c0_2, .int .i64 a0.c.h, .int .i64 a0.g.c, .int .i64 a0.g.n, .int .i64 a0.g.r, .slice p0_3 n0_3 c0_3, .int .i64 a0.s]] w [] (fun rv h' => rv = .bool r ∧ h' = []) := by
  obtain rfl := hn0_0
  obtain rfl := hn0_1
  obtain rfl := hn0_2
  obtain rfl := hn0_3
  unfold l_FnExactNewMemory at H0
  refine ct_of_cw Tryz.func11 rfl Tryz.ntmps11 rfl (Sat.refl _ _) ?_
  refine sr (oE (stpU_box 0 rfl rfl) rfl ?_)
  rintro _ _ ⟨b1, rfl, rfl⟩
  obtain ⟨x2, e2, H0⟩ := bind_some H0
  refine oD (sg rfl) rfl (nn (sr (oD (sg rfl) rfl (nn (sr (oD (stp_loadN (us := [_, _, _, _, _, _, _, _, _]) ts33 rfl (Cells.box (id := 0) rfl 9 rfl)) rfl (oD (mv rfl) rfl (oE (stpU_call (fun i => 1 + i) cf14 (fun w hw => c_l_szMachine fl w a0 p0_0 ((a0.t.b).length) c0_0 p0_1 ((a0.t.f).length) c0_1 p0_2 ((a0.c.l).length) c0_2 p0_3 ((a0.g.o).length) c0_3 1048576 rfl (RO.pass hr0_0 hw) rfl (RO.pass hr0_1 hw) rfl (RO.pass hr0_2 hw) rfl (RO.pass hr0_3 hw) x2 e2) (sevs_cons rfl (sevs_cons rfl sevs_nil))) rfl ?_))))))))
  rintro _ _ ⟨_, ⟨rfl, rfl⟩, rfl⟩
  refine oD (sg rfl) rfl (nn (cw_seq (sr (oD (mv rfl) rfl (oD (stp_lss rfl rfl) rfl (nn (cw_cond rfl (fun h3 => ?_) (fun h3 => ?_))))))))
  · have H0 := cond_t H0 h3
    refine sr (oD (sg rfl) rfl (nn (cw_ret (kw_nx_ret ?_))))
    have q0 := Option.some.inj H0
    subst q0
    exact kw_ret Tryz.results11 (.cons (.tmp rfl) .nil) [] [] trivial (by decide) ⟨rfl, rfl⟩
  · have H0 := cond_f H0 h3
    obtain ⟨x4, e4, H0⟩ := bind_some H0
    refine cw_skip (kw_nx (sr (oD (stp_loadN (us := [_, _, _, _, _, _, _, _, _]) ts33 rfl (Cells.box (id := 0) rfl 9 rfl)) rfl (oE (stpU_call (fun i => 1 + i) cf16 (fun w hw => c_l_toMachine fl w a0 p0_0 ((a0.t.b).length) c0_0 p0_1 ((a0.t.f).length) c0_1 p0_2 ((a0.c.l).length) c0_2 p0_3 ((a0.g.o).length) c0_3 rfl (RO.pass hr0_0 hw) rfl (RO.pass hr0_1 hw) rfl (RO.pass hr0_2 hw) rfl (RO.pass hr0_3 hw) x4 e4) (sevs_cons rfl sevs_nil)) rfl ?_))))
    rintro _ _ ⟨_, ⟨p5, n6, c7, C8, p9, n10, c11, C12, p13, n14, c15, C16, p17, n18, c19, C20, rfl, rfl, hnn6, o8, hnn10, o12, hnn14, o16, hnn18, o20⟩, rfl⟩
    obtain rfl := hnn6
    obtain rfl := hnn10
    obtain rfl := hnn14
    obtain rfl := hnn18
    obtain ⟨x21, e21, H0⟩ := bind_some H0
    refine oE (stpU_call (fun i => 5 + i) cf39 (fun w hw => c_s_NewMemory fl w x4 p5 ((x4.t.b).length) c7 p9 ((x4.t.f).length) c11 p13 ((x4.c.l).length) c15 p17 ((x4.g.o).length) c19 rfl (OwnC.pass (id := 1) rfl o8 hw) rfl (OwnC.pass (id := 2) rfl o12 hw) rfl (OwnC.pass (id := 3) rfl o16 hw) rfl (OwnC.pass (id := 4) rfl o20 hw) x21 e21) (sevs_cons rfl sevs_nil)) rfl ?_
    rintro _ _ ⟨_, ⟨p22, n23, c24, C25, p26, n27, c28, C29, p30, n31, c32, C33, p34, n35, c36, C37, p38, n39, c40, C41, rfl, rfl, hnn23, o25, hnn27, o29, hnn31, o33, hnn35, o37, hnn39, o41⟩, rfl⟩
    obtain rfl := hnn23
    obtain rfl := hnn27
    obtain rfl := hnn31
    obtain rfl := hnn35
    obtain rfl := hnn39
    refine oD (mv rfl) rfl (oD (stp_extract rfl rfl) rfl (oD (stp_extract rfl rfl) rfl (oE (stpU_alloc 10 tz68 rfl) rfl ?_)))
    rintro _ _ ⟨b42, rfl, rfl⟩
    refine oF (stpU_store (id := 10) (cs' := [.slice p22 ((x21.1.m.t.b).length) c24, .slice p26 ((x21.1.m.t.f).length) c28, .slice p30 ((x21.1.m.c.l).length) c32, .int .i64 x21.1.m.c.h, .int .i64 x21.1.m.g.c, .int .i64 x21.1.m.g.n, .int .i64 x21.1.m.g.r, .slice p34 ((x21.1.m.g.o).length) c36, .int .i64 x21.1.m.s, .slice p38 ((x21.1.k).length) c40, .int .i64 x21.1.h]) ts68 rfl rfl rfl rfl rfl rfl rfl) ?_
    rintro _ _ rfl
    obtain ⟨x43, e43, H0⟩ := bind_some H0
    refine oD (sg rfl) rfl (nn (sr (oD (stp_loadN (us := [_, _, _, _, _, _, _, _, _]) ts33 rfl (Cells.box (id := 0) rfl 9 rfl)) rfl (oE (stpU_call (fun i => 11 + i) cf16 (fun w hw => c_l_toMachine fl w a0 p0_0 ((a0.t.b).length) c0_0 p0_1 ((a0.t.f).length) c0_1 p0_2 ((a0.c.l).length) c0_2 p0_3 ((a0.g.o).length) c0_3 rfl (RO.pass hr0_0 hw) rfl (RO.pass hr0_1 hw) rfl (RO.pass hr0_2 hw) rfl (RO.pass hr0_3 hw) x43 e43) (sevs_cons rfl sevs_nil)) rfl ?_))))
    rintro _ _ ⟨_, ⟨p44, n45, c46, C47, p48, n49, c50, C51, p52, n53, c54, C55, p56, n57, c58, C59, rfl, rfl, hnn45, o47, hnn49, o51, hnn53, o55, hnn57, o59⟩, rfl⟩
    obtain rfl := hnn45
    obtain rfl := hnn49
    obtain rfl := hnn53
    obtain rfl := hnn57
    refine oE (stpU_alloc 15 tz47 rfl) rfl ?_
    rintro _ _ ⟨b60, rfl, rfl⟩
    refine oF (stpU_store (id := 15) (cs' := [.slice p44 ((x43.t.b).length) c46, .slice p48 ((x43.t.f).length) c50, .slice p52 ((x43.c.l).length) c54, .int .i64 x43.c.h, .int .i64 x43.g.c, .int .i64 x43.g.n, .int .i64 x43.g.r, .slice p56 ((x43.g.o).length) c58, .int .i64 x43.s]) ts47 rfl rfl rfl rfl rfl rfl rfl) ?_
    rintro _ _ rfl
    obtain ⟨x61, e61, H0⟩ := bind_some H0
    refine nn (sr (oD (stp_loadN (us := [_, _, _, _, _, _, _, _, _]) ts47 rfl (Cells.box (id := 15) rfl 9 rfl)) rfl (oE (stpU_call (fun i => 16 + i) cf40 (fun w hw => c_i_NewMemory fl w x43 p44 ((x43.t.b).length) c46 p48 ((x43.t.f).length) c50 p52 ((x43.c.l).length) c54 p56 ((x43.g.o).length) c58 rfl (OwnC.pass (id := 11) rfl o47 hw) rfl (OwnC.pass (id := 12) rfl o51 hw) rfl (OwnC.pass (id := 13) rfl o55 hw) rfl (OwnC.pass (id := 14) rfl o59 hw) (RO.pass hg hw) x61 e61) (sevs_cons rfl sevs_nil)) rfl ?_)))
    rintro _ _ ⟨_, ⟨p62, n63, c64, C65, p66, n67, c68, C69, p70, n71, c72, C73, p74, n75, c76, C77, p78, n79, c80, C81, rfl, rfl, hnn63, o65, hnn67, o69, hnn71, o73, hnn75, o77, hnn79, o81⟩, rfl⟩
    obtain rfl := hnn63
    obtain rfl := hnn67
    obtain rfl := hnn71
    obtain rfl := hnn75
    obtain rfl := hnn79
    refine oD (mv rfl) rfl (oD (stp_extract rfl rfl) rfl (oD (stp_extract rfl rfl) rfl (oE (stpU_alloc 21 tz68 rfl) rfl ?_)))
    rintro _ _ ⟨b82, rfl, rfl⟩
    refine oF (stpU_store (id := 21) (cs' := [.slice p62 ((x61.1.m.t.b).length) c64, .slice p66 ((x61.1.m.t.f).length) c68, .slice p70 ((x61.1.m.c.l).length) c72, .int .i64 x61.1.m.c.h, .int .i64 x61.1.m.g.c, .int .i64 x61.1.m.g.n, .int .i64 x61.1.m.g.r, .slice p74 ((x61.1.m.g.o).length) c76, .int .i64 x61.1.m.s, .slice p78 ((x61.1.k).length) c80, .int .i64 x61.1.h]) ts68 rfl rfl rfl rfl rfl rfl rfl) ?_
    rintro _ _ rfl
    obtain ⟨x83, e83, H0⟩ := bind_some H0
    refine oD (sg rfl) rfl (nn (cw_seq (sr (oD (stp_loadN (us := [_, _, _, _, _, _, _, _, _, _, _]) ts68 rfl (Cells.box (id := 21) rfl 11 rfl)) rfl (oD (stp_loadN (us := [_, _, _, _, _, _, _, _, _, _, _]) ts68 rfl (Cells.box (id := 10) rfl 11 rfl)) rfl (oE (stpU_call (fun i => 22 + i) cf41 (fun w hw => c_l_eqMemory fl w x61.1 p62 ((x61.1.m.t.b).length) c64 p66 ((x61.1.m.t.f).length) c68 p70 ((x61.1.m.c.l).length) c72 p74 ((x61.1.m.g.o).length) c76 p78 ((x61.1.k).length) c80 x21.1 p22 ((x21.1.m.t.b).length) c24 p26 ((x21.1.m.t.f).length) c28 p30 ((x21.1.m.c.l).length) c32 p34 ((x21.1.m.g.o).length) c36 p38 ((x21.1.k).length) c40 rfl (OwnC.pass (id := 16) rfl o65 hw) rfl (OwnC.pass (id := 17) rfl o69 hw) rfl (OwnC.pass (id := 18) rfl o73 hw) rfl (OwnC.pass (id := 19) rfl o77 hw) rfl (OwnC.pass (id := 20) rfl o81 hw) rfl (OwnC.pass (id := 5) rfl o25 hw) rfl (OwnC.pass (id := 6) rfl o29 hw) rfl (OwnC.pass (id := 7) rfl o33 hw) rfl (OwnC.pass (id := 8) rfl o37 hw) rfl (OwnC.pass (id := 9) rfl o41 hw) x83 e83) (sevs_cons rfl (sevs_cons rfl sevs_nil))) rfl ?_))))))
    rintro _ _ ⟨_, ⟨rfl, rfl⟩, rfl⟩
    obtain ⟨y84, ey84, H0⟩ := bind_some H0
    refine oD (stp_not rfl) rfl (oD (mv rfl) rfl (ow_cutY 4 40 y84 ?_ ?_))
    · rcases Bool.eq_false_or_eq_true (!x83) with hy84 | hy84
      · have ey84 := cond_t ey84 hy84
        refine oO rfl hy84 rfl (oO rfl hy84 rfl (oO rfl hy84 rfl (oD (stp_pick_t rfl hy84 rfl) rfl ?_)))
        obtain rfl := Option.some.inj ey84
        exact ow_nil (jy 4 0)
      · have ey84 := cond_f ey84 hy84
        refine oG rfl hy84 (mv rfl) rfl (oG rfl hy84 (mv rfl) rfl (oG rfl hy84 (stp_neqB Tryz.underlying4 rfl rfl) rfl (oD (stp_pick_f rfl hy84 rfl) rfl ?_)))
        obtain rfl := Option.some.inj ey84
        exact ow_nil (jy 4 0)
    · refine ow_nil (kw_nx (cw_cond rfl (fun h85 => ?_) (fun h85 => ?_)))
      · have H0 := cond_t H0 h85
        refine sr (oD (sg rfl) rfl (nn (cw_ret (kw_nx_ret ?_))))
        have q0 := Option.some.inj H0
        subst q0
        exact kw_ret Tryz.results11 (.cons (.tmp rfl) .nil) [] [] trivial (by decide) ⟨rfl, rfl⟩
      · have H0 := cond_f H0 h85
        obtain ⟨x86, e86, H0⟩ := bind_some H0
        obtain ⟨x103, e103, H0⟩ := bind_some H0
        refine cw_skip (kw_nx (cw_seq (cw_seq (rdr g_mixed [1, 6] [0, 11, 12, 13, 14, 15] { dst := dS [42, 43, 44, 45, 46], pre := gA [] [[], [], [1], [0, 1, 2], rn 0 4], ids := gA [] [[], [], [22, 23, 24, 25]], rs := rL [[(6, 0)], [(1, 0)], [(42, 2)], [(41, 1), (43, 3)], [(44, 4)]], rh := rL [[(15, 0)], [(0, 0)], [], [(11, 0), (12, 0), (13, 0), (14, 0), (22, 3), (23, 3), (24, 3), (25, 3)]], V := fun i g => gA undef [.agg #[.slice p44 ((x43.t.b).length) c46, .slice p48 ((x43.t.f).length) c50, .slice p52 ((x43.c.l).length) c54, .int .i64 x43.c.h, .int .i64 x43.g.c, .int .i64 x43.g.n, .int .i64 x43.g.r, .slice p56 ((x43.g.o).length) c58, .int .i64 x43.s], .agg #[.slice p0_0 ((a0.t.b).length) c0_0, .slice p0_1 ((a0.t.f).length) c0_1, .slice p0_2 ((a0.c.l).length) c0_2, .int .i64 a0.c.h, .int .i64 a0.g.c, .int .i64 a0.g.n, .int .i64 a0.g.r, .slice p0_3 ((a0.g.o).length) c0_3, .int .i64 a0.s], .agg #[.slice ((g 2).A 0) ((x86.t.b).length) ((g 2).C 0), .slice ((g 2).A 1) ((x86.t.f).length) ((g 2).C 1), .slice ((g 2).A 2) ((x86.c.l).length) ((g 2).C 2), .int .i64 x86.c.h, .int .i64 x86.g.c, .int .i64 x86.g.n, .int .i64 x86.g.r, .slice ((g 2).A 3) ((x86.g.o).length) ((g 2).C 3), .int .i64 x86.s], .bool x103, .bool (!x103)] i, U := fun i g => gA [] [[], [], [(22, ((g 2).R 0)), (23, ((g 2).R 1)), (24, ((g 2).R 2)), (25, ((g 2).R 3))]] i, Φ := fun i x => gA True [True, True, OwnC (α := Int) 3 (x.A 0) (x.C 0) x86.t.b (x.R 0) ∧ OwnC (α := F) 127 (x.A 1) (x.C 1) x86.t.f (x.R 1) ∧ OwnC (α := Ln) 112 (x.A 2) (x.C 2) x86.c.l (x.R 2) ∧ OwnC (α := Ow) 148 (x.A 3) (x.C 3) x86.g.o (x.R 3)] i } ?_ ?_))))
        · refine ⟨⟨⟨⟨⟨trivial, lc rfl rfl fun hs hh => stp_loadN (us := [_, _, _, _, _, _, _, _, _]) ts47 (sv hs 6 rfl) (Cells.box (id := 15) (hh.get 15 _ rfl) 9 rfl)⟩, lc rfl rfl fun hs hh => stp_loadN (us := [_, _, _, _, _, _, _, _, _]) ts33 (sv hs 1 rfl) (Cells.box (id := 0) (hh.get 0 _ rfl) 9 rfl)⟩, ?_⟩, ?_⟩, lc rfl rfl fun hs hh => stp_not (sv hs 44 rfl)⟩
          · refine le rfl rfl (fun g hΦ s h hs hh => (stpU_call (fun i => 22 + i) cf16 (fun w hw => c_l_toMachine fl w a0 p0_0 ((a0.t.b).length) c0_0 p0_1 ((a0.t.f).length) c0_1 p0_2 ((a0.c.l).length) c0_2 p0_3 ((a0.g.o).length) c0_3 rfl (RO.pass hr0_0 hw) rfl (RO.pass hr0_1 hw) rfl (RO.pass hr0_2 hw) rfl (RO.pass hr0_3 hw) x86 e86) (sevs_cons (sv hs 42 rfl) sevs_nil))) ?_
            rintro g _ _ ⟨_, ⟨p87, n88, c89, C90, p91, n92, c93, C94, p95, n96, c97, C98, p99, n100, c101, C102, rfl, rfl, hnn88, o90, hnn92, o94, hnn96, o98, hnn100, o102⟩, rfl⟩
            obtain rfl := hnn88
            obtain rfl := hnn92
            obtain rfl := hnn96
            obtain rfl := hnn100
            exact ⟨⟨[p87, p91, p95, p99], [c89, c93, c97, c101], [C90, C94, C98, C102]⟩, ⟨o90, o94, o98, o102⟩, .inr rfl, rfl⟩
          · refine le rfl rfl (fun g hΦ s h hs hh => (stpU_call (fun i => 26 + i) cf19 (fun w hw => c_l_eqMachine fl w x43 p44 ((x43.t.b).length) c46 p48 ((x43.t.f).length) c50 p52 ((x43.c.l).length) c54 p56 ((x43.g.o).length) c58 x86 ((g 2).A 0) ((x86.t.b).length) ((g 2).C 0) ((g 2).A 1) ((x86.t.f).length) ((g 2).C 1) ((g 2).A 2) ((x86.c.l).length) ((g 2).C 2) ((g 2).A 3) ((x86.g.o).length) ((g 2).C 3) rfl (OwnC.pass (id := 11) (hh.get 11 _ rfl) o47 hw) rfl (OwnC.pass (id := 12) (hh.get 12 _ rfl) o51 hw) rfl (OwnC.pass (id := 13) (hh.get 13 _ rfl) o55 hw) rfl (OwnC.pass (id := 14) (hh.get 14 _ rfl) o59 hw) rfl (OwnC.pass (id := 22) (hh.get 22 _ rfl) (hΦ 2 rfl).1 hw) rfl (OwnC.pass (id := 23) (hh.get 23 _ rfl) (hΦ 2 rfl).2.1 hw) rfl (OwnC.pass (id := 24) (hh.get 24 _ rfl) (hΦ 2 rfl).2.2.1 hw) rfl (OwnC.pass (id := 25) (hh.get 25 _ rfl) (hΦ 2 rfl).2.2.2 hw) x103 e103) (sevs_cons (sv hs 41 rfl) (sevs_cons (sv hs 43 rfl) sevs_nil)))) ?_
            rintro g _ _ ⟨_, ⟨rfl, rfl⟩, rfl⟩
            exact ⟨⟨[], [], []⟩, trivial, .inr rfl, rfl⟩
        · intro g hΦ
          refine kw_gen (ι := Option Addr × Option Addr × Option Addr × Option Addr × Nat × Nat × Nat × Nat × Res × Res × Res × Res) (((g 2).A 0), ((g 2).A 1), ((g 2).A 2), ((g 2).A 3), ((g 2).C 0), ((g 2).C 1), ((g 2).C 2), ((g 2).C 3), ((g 2).R 0), ((g 2).R 1), ((g 2).R 2), ((g 2).R 3)) (fun | (p87, p91, p95, p99, c89, c93, c97, c101, C90, C94, C98, C102) => OwnC (α := Int) 3 p87 c89 x86.t.b C90 ∧ OwnC (α := F) 127 p91 c93 x86.t.f C94 ∧ OwnC (α := Ln) 112 p95 c97 x86.c.l C98 ∧ OwnC (α := Ow) 148 p99 c101 x86.g.o C102) (fun | (p87, p91, p95, p99, c89, c93, c97, c101, C90, C94, C98, C102) => [(1, .pointer (some ⟨b1, 0, none⟩)), (4, .pointer (some ⟨b42, 0, none⟩)), (5, .bool x21.2), (6, .pointer (some ⟨b60, 0, none⟩)), (7, .pointer (some ⟨b82, 0, none⟩)), (8, .bool x61.2), (45, .bool (!x103))]) (fun | (p87, p91, p95, p99, c89, c93, c97, c101, C90, C94, C98, C102) => [(0, [(b1, .cells #[.slice p0_0 ((a0.t.b).length) c0_0, .slice p0_1 ((a0.t.f).length) c0_1, .slice p0_2 ((a0.c.l).length) c0_2, .int .i64 a0.c.h, .int .i64 a0.g.c, .int .i64 a0.g.n, .int .i64 a0.g.r, .slice p0_3 ((a0.g.o).length) c0_3, .int .i64 a0.s] 33 (0, 0))]), (5, C25), (6, C29), (7, C33), (8, C37), (9, C41), (10, [(b42, .cells #[.slice p22 ((x21.1.m.t.b).length) c24, .slice p26 ((x21.1.m.t.f).length) c28, .slice p30 ((x21.1.m.c.l).length) c32, .int .i64 x21.1.m.c.h, .int .i64 x21.1.m.g.c, .int .i64 x21.1.m.g.n, .int .i64 x21.1.m.g.r, .slice p34 ((x21.1.m.g.o).length) c36, .int .i64 x21.1.m.s, .slice p38 ((x21.1.k).length) c40, .int .i64 x21.1.h] 68 (0, 0))]), (11, C47), (12, C51), (13, C55), (14, C59), (15, [(b60, .cells #[.slice p44 ((x43.t.b).length) c46, .slice p48 ((x43.t.f).length) c50, .slice p52 ((x43.c.l).length) c54, .int .i64 x43.c.h, .int .i64 x43.g.c, .int .i64 x43.g.n, .int .i64 x43.g.r, .slice p56 ((x43.g.o).length) c58, .int .i64 x43.s] 47 (0, 0))]), (16, C65), (17, C69), (18, C73), (19, C77), (20, C81), (21, [(b82, .cells #[.slice p62 ((x61.1.m.t.b).length) c64, .slice p66 ((x61.1.m.t.f).length) c68, .slice p70 ((x61.1.m.c.l).length) c72, .int .i64 x61.1.m.c.h, .int .i64 x61.1.m.g.c, .int .i64 x61.1.m.g.n, .int .i64 x61.1.m.g.r, .slice p74 ((x61.1.m.g.o).length) c76, .int .i64 x61.1.m.s, .slice p78 ((x61.1.k).length) c80, .int .i64 x61.1.h] 68 (0, 0))])]) ⟨(hΦ 2 (by decide)).1, (hΦ 2 (by decide)).2.1, (hΦ 2 (by decide)).2.2.1, (hΦ 2 (by decide)).2.2.2⟩ ⟨rfl, rfl, rfl, rfl, rfl, rfl, rfl, trivial⟩ ⟨rfl, rfl, rfl, rfl, rfl, rfl, rfl, rfl, rfl, rfl, rfl, rfl, rfl, rfl, rfl, rfl, rfl, rfl, trivial⟩ ?_
          rintro ⟨p87, p91, p95, p99, c89, c93, c97, c101, C90, C94, C98, C102⟩ ⟨o90, o94, o98, o102⟩
          refine KW.sub (s' := [(1, .pointer (some ⟨b1, 0, none⟩)), (4, .pointer (some ⟨b42, 0, none⟩)), (5, .bool x21.2), (6, .pointer (some ⟨b60, 0, none⟩)), (7, .pointer (some ⟨b82, 0, none⟩)), (8, .bool x61.2), (45, .bool (!x103))]) (h' := [(0, [(b1, .cells #[.slice p0_0 ((a0.t.b).length) c0_0, .slice p0_1 ((a0.t.f).length) c0_1, .slice p0_2 ((a0.c.l).length) c0_2, .int .i64 a0.c.h, .int .i64 a0.g.c, .int .i64 a0.g.n, .int .i64 a0.g.r, .slice p0_3 ((a0.g.o).length) c0_3, .int .i64 a0.s] 33 (0, 0))]), (5, C25), (6, C29), (7, C33), (8, C37), (9, C41), (10, [(b42, .cells #[.slice p22 ((x21.1.m.t.b).length) c24, .slice p26 ((x21.1.m.t.f).length) c28, .slice p30 ((x21.1.m.c.l).length) c32, .int .i64 x21.1.m.c.h, .int .i64 x21.1.m.g.c, .int .i64 x21.1.m.g.n, .int .i64 x21.1.m.g.r, .slice p34 ((x21.1.m.g.o).length) c36, .int .i64 x21.1.m.s, .slice p38 ((x21.1.k).length) c40, .int .i64 x21.1.h] 68 (0, 0))]), (11, C47), (12, C51), (13, C55), (14, C59), (15, [(b60, .cells #[.slice p44 ((x43.t.b).length) c46, .slice p48 ((x43.t.f).length) c50, .slice p52 ((x43.c.l).length) c54, .int .i64 x43.c.h, .int .i64 x43.g.c, .int .i64 x43.g.n, .int .i64 x43.g.r, .slice p56 ((x43.g.o).length) c58, .int .i64 x43.s] 47 (0, 0))]), (16, C65), (17, C69), (18, C73), (19, C77), (20, C81), (21, [(b82, .cells #[.slice p62 ((x61.1.m.t.b).length) c64, .slice p66 ((x61.1.m.t.f).length) c68, .slice p70 ((x61.1.m.c.l).length) c72, .int .i64 x61.1.m.c.h, .int .i64 x61.1.m.g.c, .int .i64 x61.1.m.g.n, .int .i64 x61.1.m.g.r, .slice p74 ((x61.1.m.g.o).length) c76, .int .i64 x61.1.m.s, .slice p78 ((x61.1.k).length) c80, .int .i64 x61.1.h] 68 (0, 0))])]) ?_ ⟨rfl, rfl, rfl, rfl, rfl, rfl, rfl, trivial⟩ ⟨rfl, rfl, rfl, rfl, rfl, rfl, rfl, rfl, rfl, rfl, rfl, rfl, rfl, rfl, rfl, rfl, rfl, rfl, trivial⟩
          refine kw_nx (cw_cond rfl (fun h104 => ?_) (fun h104 => ?_))
          · have H0 := cond_t H0 h104
            refine sr (oD (sg rfl) rfl (nn (cw_ret (kw_nx_ret ?_))))
            have q0 := Option.some.inj H0
            subst q0
            exact kw_ret Tryz.results11 (.cons (.tmp rfl) .nil) [] [] trivial (by decide) ⟨rfl, rfl⟩
          · have H0 := cond_f H0 h104
            obtain ⟨x105, e105, H0⟩ := bind_some H0
            refine cw_skip (kw_nx (sr (oD (sg rfl) rfl (nn (sr (oD (stp_loadN (us := [_, _, _, _, _, _, _, _, _]) ts47 rfl (Cells.box (id := 15) rfl 9 rfl)) rfl (oD (mv rfl) rfl (oE (stpU_callM (fun i => bif Nat.beq i 0 then 11 else bif Nat.beq i 1 then 12 else bif Nat.beq i 2 then 13 else bif Nat.beq i 3 then 14 else 26 + i) cf20 (fun w hw hb => c_l_markMachine fl w x43 p44 ((x43.t.b).length) c46 C47 p48 ((x43.t.f).length) c50 C51 p52 ((x43.c.l).length) c54 C55 p56 ((x43.g.o).length) c58 C59 1 rfl o47 rfl o51 rfl o55 rfl o59 (hw.pass (js := [11, 12, 13, 14]) ⟨11, [12, 13, 14], rfl, rfl, 12, [13, 14], rfl, rfl, 13, [14], rfl, rfl, 14, [], rfl, rfl, trivial⟩ (by decide)) x105 e105) (sevs_cons rfl (sevs_cons rfl sevs_nil)) ⟨rfl, (fun _ _ hp => by obtain ⟨_, _, _, _, _, rfl, _⟩ := hp; exact ⟨_, rfl⟩), rfl, (fun _ _ hp => by obtain ⟨_, _, _, _, _, rfl, _⟩ := hp; exact ⟨_, rfl⟩), rfl, (fun _ _ hp => by obtain ⟨_, _, _, _, _, rfl, _⟩ := hp; exact ⟨_, rfl⟩), rfl, (fun _ _ hp => by obtain ⟨_, _, _, _, _, rfl, _⟩ := hp; exact ⟨_, rfl⟩), trivial⟩) rfl ?_))))))))
            rintro _ _ ⟨_, ⟨C106, C107, C108, C109, rfl, rfl, hl106, o106, hl107, o107, hl108, o108, hl109, o109⟩, rfl⟩
            obtain ⟨y110, ey110, H0⟩ := bind_some H0
            refine oD (sg rfl) rfl (nn (cw_seq (sr (oD (mv rfl) rfl (oD (stp_lss rfl rfl) rfl (oD (mv rfl) rfl (ow_cutY 5 56 y110 ?_ ?_)))))))
            · rcases Bool.eq_false_or_eq_true (decide (x105.1 < 0)) with hy110 | hy110
              · have ey110 := cond_t ey110 hy110
                refine oO rfl hy110 rfl (oO rfl hy110 rfl (oO rfl hy110 rfl (oO rfl hy110 rfl (oD (stp_pick_t rfl hy110 rfl) rfl ?_))))
                obtain rfl := Option.some.inj ey110
                exact ow_nil (jy 5 0)
              · have ey110 := cond_f ey110 hy110
                refine oG rfl hy110 (stp_loadN (us := [_, _, _, _, _, _, _, _, _, _, _]) ts68 rfl (Cells.box (id := 21) rfl 11 rfl)) rfl (oG rfl hy110 (stp_loadN (us := [_, _, _, _, _, _, _, _, _, _, _]) ts68 rfl (Cells.box (id := 10) rfl 11 rfl)) rfl (ow_eff (.some rfl hy110) (stpU_call (fun i => 30 + i) cf41 (fun w hw => c_l_eqMemory fl w x61.1 p62 ((x61.1.m.t.b).length) c64 p66 ((x61.1.m.t.f).length) c68 p70 ((x61.1.m.c.l).length) c72 p74 ((x61.1.m.g.o).length) c76 p78 ((x61.1.k).length) c80 x21.1 p22 ((x21.1.m.t.b).length) c24 p26 ((x21.1.m.t.f).length) c28 p30 ((x21.1.m.c.l).length) c32 p34 ((x21.1.m.g.o).length) c36 p38 ((x21.1.k).length) c40 rfl (OwnC.pass (id := 16) rfl o65 hw) rfl (OwnC.pass (id := 17) rfl o69 hw) rfl (OwnC.pass (id := 18) rfl o73 hw) rfl (OwnC.pass (id := 19) rfl o77 hw) rfl (OwnC.pass (id := 20) rfl o81 hw) rfl (OwnC.pass (id := 5) rfl o25 hw) rfl (OwnC.pass (id := 6) rfl o29 hw) rfl (OwnC.pass (id := 7) rfl o33 hw) rfl (OwnC.pass (id := 8) rfl o37 hw) rfl (OwnC.pass (id := 9) rfl o41 hw) x83 e83) (sevs_cons rfl (sevs_cons rfl sevs_nil))) rfl ?_))
                rintro _ _ ⟨_, ⟨rfl, rfl⟩, rfl⟩
                refine oG rfl hy110 (stp_not rfl) rfl (oD (stp_pick_f rfl hy110 rfl) rfl ?_)
                obtain rfl := Option.some.inj ey110
                exact ow_nil (jy 5 0)
            · obtain ⟨y111, ey111, H0⟩ := bind_some H0
              refine oD (mv rfl) rfl (ow_cutY 4 61 y111 ?_ ?_)
              · rcases Bool.eq_false_or_eq_true y110 with hy111 | hy111
                · have ey111 := cond_t ey111 hy111
                  refine oO rfl hy111 rfl (oO rfl hy111 rfl (oO rfl hy111 rfl (oD (stp_pick_t rfl hy111 rfl) rfl ?_)))
                  obtain rfl := Option.some.inj ey111
                  exact ow_nil (jy 4 0)
                · have ey111 := cond_f ey111 hy111
                  refine oG rfl hy111 (mv rfl) rfl (oG rfl hy111 (mv rfl) rfl (oG rfl hy111 (stp_neqB Tryz.underlying4 rfl rfl) rfl (oD (stp_pick_f rfl hy111 rfl) rfl ?_)))
                  obtain rfl := Option.some.inj ey111
                  exact ow_nil (jy 4 0)
              · refine ow_nil (kw_nx (cw_cond rfl (fun h112 => ?_) (fun h112 => ?_)))
                · have H0 := cond_t H0 h112
                  refine sr (oD (sg rfl) rfl (nn (cw_ret (kw_nx_ret ?_))))
                  have q0 := Option.some.inj H0
                  subst q0
                  exact kw_ret Tryz.results11 (.cons (.tmp rfl) .nil) [] [] trivial (by decide) ⟨rfl, rfl⟩
                · have H0 := cond_f H0 h112
                  obtain ⟨x113, e113, H0⟩ := bind_some H0
                  refine cw_skip (kw_nx (sr (oD (sg rfl) rfl (nn (sr (oD (stp_loadN (us := [_, _, _, _, _, _, _, _, _, _, _]) ts68 rfl (Cells.box (id := 21) rfl 11 rfl)) rfl (oD (mv rfl) rfl (oE (stpU_callM (fun i => bif Nat.beq i 0 then 16 else bif Nat.beq i 1 then 17 else bif Nat.beq i 2 then 18 else bif Nat.beq i 3 then 19 else bif Nat.beq i 4 then 20 else 30 + i) cf42 (fun w hw hb => c_l_markMemory fl w x61.1 p62 ((x61.1.m.t.b).length) c64 C65 p66 ((x61.1.m.t.f).length) c68 C69 p70 ((x61.1.m.c.l).length) c72 C73 p74 ((x61.1.m.g.o).length) c76 C77 p78 ((x61.1.k).length) c80 C81 1 rfl o65 rfl o69 rfl o73 rfl o77 rfl o81 (hw.pass (js := [16, 17, 18, 19, 20]) ⟨16, [17, 18, 19, 20], rfl, rfl, 17, [18, 19, 20], rfl, rfl, 18, [19, 20], rfl, rfl, 19, [20], rfl, rfl, 20, [], rfl, rfl, trivial⟩ (by decide)) x113 e113) (sevs_cons rfl (sevs_cons rfl sevs_nil)) ⟨rfl, (fun _ _ hp => by obtain ⟨_, _, _, _, _, _, rfl, _⟩ := hp; exact ⟨_, rfl⟩), rfl, (fun _ _ hp => by obtain ⟨_, _, _, _, _, _, rfl, _⟩ := hp; exact ⟨_, rfl⟩), rfl, (fun _ _ hp => by obtain ⟨_, _, _, _, _, _, rfl, _⟩ := hp; exact ⟨_, rfl⟩), rfl, (fun _ _ hp => by obtain ⟨_, _, _, _, _, _, rfl, _⟩ := hp; exact ⟨_, rfl⟩), rfl, (fun _ _ hp => by obtain ⟨_, _, _, _, _, _, rfl, _⟩ := hp; exact ⟨_, rfl⟩), trivial⟩) rfl ?_))))))))
                  rintro _ _ ⟨_, ⟨C114, C115, C116, C117, C118, rfl, rfl, hl114, o114, hl115, o115, hl116, o116, hl117, o117, hl118, o118⟩, rfl⟩
                  obtain ⟨x119, e119, H0⟩ := bind_some H0
                  refine oD (sg rfl) rfl (nn (sr (oD (sg rfl) rfl (nn (sr (oD (stp_loadN (us := [_, _, _, _, _, _, _, _, _, _, _]) ts68 rfl (Cells.box (id := 21) rfl 11 rfl)) rfl (oD (mv rfl) rfl (oE (stpU_call (fun i => 35 + i) cf43 (fun w hw => c_l_heldMemory fl w (⟨(⟨(⟨x113.2.1, x113.2.2.1⟩ : T), (⟨x113.2.2.2.1, x61.1.m.c.h⟩ : Ca), (⟨x61.1.m.g.c, x61.1.m.g.n, x61.1.m.g.r, x113.2.2.2.2.1⟩ : Tg), x61.1.m.s⟩ : Mc), x113.2.2.2.2.2, x61.1.h⟩ : Mm) p62 ((x61.1.m.t.b).length) c64 p66 ((x61.1.m.t.f).length) c68 p70 ((x61.1.m.c.l).length) c72 p74 ((x61.1.m.g.o).length) c76 p78 ((x61.1.k).length) c80 1 (by simp [hl114]) (OwnC.pass (id := 16) rfl o114 hw) (by simp [hl115]) (OwnC.pass (id := 17) rfl o115 hw) (by simp [hl116]) (OwnC.pass (id := 18) rfl o116 hw) (by simp [hl117]) (OwnC.pass (id := 19) rfl o117 hw) (by simp [hl118]) (OwnC.pass (id := 20) rfl o118 hw) x119 e119) (sevs_cons rfl (sevs_cons rfl sevs_nil))) rfl ?_))))))))
                  rintro _ _ ⟨_, ⟨rfl, rfl⟩, rfl⟩
                  refine oD (sg rfl) rfl (nn (cw_seq (sr (oD (mv rfl) rfl (oD (stp_lss rfl rfl) rfl (nn (cw_cond rfl (fun h120 => ?_) (fun h120 => ?_))))))))
                  · have H0 := cond_t H0 h120
                    refine sr (oD (sg rfl) rfl (nn (cw_ret (kw_nx_ret ?_))))
                    have q0 := Option.some.inj H0
                    subst q0
                    exact kw_ret Tryz.results11 (.cons (.tmp rfl) .nil) [] [] trivial (by decide) ⟨rfl, rfl⟩
                  · have H0 := cond_f H0 h120
                    refine cw_skip (kw_nx (cw_seq (sr (oD (mv rfl) rfl (oD (mv rfl) rfl (oD (stp_neq rfl rfl) rfl (nn (cw_cond rfl (fun h121 => ?_) (fun h121 => ?_)))))))))
                    · have H0 := cond_t H0 h121
                      refine sr (oD (sg rfl) rfl (nn (cw_ret (kw_nx_ret ?_))))
                      have q0 := Option.some.inj H0
                      subst q0
                      exact kw_ret Tryz.results11 (.cons (.tmp rfl) .nil) [] [] trivial (by decide) ⟨rfl, rfl⟩
                    · have H0 := cond_f H0 h121
                      obtain ⟨x122, e122, H0⟩ := bind_some H0
                      refine cw_skip (kw_nx (sr (oD (stp_loadN (us := [_, _, _, _, _, _, _, _, _]) ts33 rfl (Cells.box (id := 0) rfl 9 rfl)) rfl (oE (stpU_call (fun i => 35 + i) cf16 (fun w hw => c_l_toMachine fl w a0 p0_0 ((a0.t.b).length) c0_0 p0_1 ((a0.t.f).length) c0_1 p0_2 ((a0.c.l).length) c0_2 p0_3 ((a0.g.o).length) c0_3 rfl (RO.pass hr0_0 hw) rfl (RO.pass hr0_1 hw) rfl (RO.pass hr0_2 hw) rfl (RO.pass hr0_3 hw) x122 e122) (sevs_cons rfl sevs_nil)) rfl ?_))))
                      rintro _ _ ⟨_, ⟨p123, n124, c125, C126, p127, n128, c129, C130, p131, n132, c133, C134, p135, n136, c137, C138, rfl, rfl, hnn124, o126, hnn128, o130, hnn132, o134, hnn136, o138⟩, rfl⟩
                      obtain rfl := hnn124
                      obtain rfl := hnn128
                      obtain rfl := hnn132
                      obtain rfl := hnn136
                      obtain ⟨x139, e139, H0⟩ := bind_some H0
                      refine oE (stpU_call (fun i => 39 + i) cf40 (fun w hw => c_i_NewMemory fl w x122 p123 ((x122.t.b).length) c125 p127 ((x122.t.f).length) c129 p131 ((x122.c.l).length) c133 p135 ((x122.g.o).length) c137 rfl (OwnC.pass (id := 35) rfl o126 hw) rfl (OwnC.pass (id := 36) rfl o130 hw) rfl (OwnC.pass (id := 37) rfl o134 hw) rfl (OwnC.pass (id := 38) rfl o138 hw) (RO.pass hg hw) x139 e139) (sevs_cons rfl sevs_nil)) rfl ?_
                      rintro _ _ ⟨_, ⟨p140, n141, c142, C143, p144, n145, c146, C147, p148, n149, c150, C151, p152, n153, c154, C155, p156, n157, c158, C159, rfl, rfl, hnn141, o143, hnn145, o147, hnn149, o151, hnn153, o155, hnn157, o159⟩, rfl⟩
                      obtain rfl := hnn141
                      obtain rfl := hnn145
                      obtain rfl := hnn149
                      obtain rfl := hnn153
                      obtain rfl := hnn157
                      refine oD (mv rfl) rfl (oD (stp_extract rfl rfl) rfl (oD (stp_extract rfl rfl) rfl (oE (stpU_alloc 44 tz68 rfl) rfl ?_)))
                      rintro _ _ ⟨b160, rfl, rfl⟩
                      refine oF (stpU_store (id := 44) (cs' := [.slice p140 ((x139.1.m.t.b).length) c142, .slice p144 ((x139.1.m.t.f).length) c146, .slice p148 ((x139.1.m.c.l).length) c150, .int .i64 x139.1.m.c.h, .int .i64 x139.1.m.g.c, .int .i64 x139.1.m.g.n, .int .i64 x139.1.m.g.r, .slice p152 ((x139.1.m.g.o).length) c154, .int .i64 x139.1.m.s, .slice p156 ((x139.1.k).length) c158, .int .i64 x139.1.h]) ts68 rfl rfl rfl rfl rfl rfl rfl) ?_
                      rintro _ _ rfl
                      obtain ⟨x161, e161, H0⟩ := bind_some H0
                      refine oD (sg rfl) rfl (nn (cw_seq (sr (oD (stp_loadN (us := [_, _, _, _, _, _, _, _, _, _, _]) ts68 rfl (Cells.box (id := 44) rfl 11 rfl)) rfl (oD (stp_loadN (us := [_, _, _, _, _, _, _, _, _, _, _]) ts68 rfl (Cells.box (id := 10) rfl 11 rfl)) rfl (oE (stpU_call (fun i => 45 + i) cf41 (fun w hw => c_l_eqMemory fl w x139.1 p140 ((x139.1.m.t.b).length) c142 p144 ((x139.1.m.t.f).length) c146 p148 ((x139.1.m.c.l).length) c150 p152 ((x139.1.m.g.o).length) c154 p156 ((x139.1.k).length) c158 x21.1 p22 ((x21.1.m.t.b).length) c24 p26 ((x21.1.m.t.f).length) c28 p30 ((x21.1.m.c.l).length) c32 p34 ((x21.1.m.g.o).length) c36 p38 ((x21.1.k).length) c40 rfl (OwnC.pass (id := 39) rfl o143 hw) rfl (OwnC.pass (id := 40) rfl o147 hw) rfl (OwnC.pass (id := 41) rfl o151 hw) rfl (OwnC.pass (id := 42) rfl o155 hw) rfl (OwnC.pass (id := 43) rfl o159 hw) rfl (OwnC.pass (id := 5) rfl o25 hw) rfl (OwnC.pass (id := 6) rfl o29 hw) rfl (OwnC.pass (id := 7) rfl o33 hw) rfl (OwnC.pass (id := 8) rfl o37 hw) rfl (OwnC.pass (id := 9) rfl o41 hw) x161 e161) (sevs_cons rfl (sevs_cons rfl sevs_nil))) rfl ?_))))))
                      rintro _ _ ⟨_, ⟨rfl, rfl⟩, rfl⟩
                      obtain ⟨y162, ey162, H0⟩ := bind_some H0
                      refine oD (stp_not rfl) rfl (oD (mv rfl) rfl (ow_cutY 4 87 y162 ?_ ?_))
                      · rcases Bool.eq_false_or_eq_true (!x161) with hy162 | hy162
                        · have ey162 := cond_t ey162 hy162
                          refine oO rfl hy162 rfl (oO rfl hy162 rfl (oO rfl hy162 rfl (oD (stp_pick_t rfl hy162 rfl) rfl ?_)))
                          obtain rfl := Option.some.inj ey162
                          exact ow_nil (jy 4 0)
                        · have ey162 := cond_f ey162 hy162
                          refine oG rfl hy162 (mv rfl) rfl (oG rfl hy162 (mv rfl) rfl (oG rfl hy162 (stp_neqB Tryz.underlying4 rfl rfl) rfl (oD (stp_pick_f rfl hy162 rfl) rfl ?_)))
                          obtain rfl := Option.some.inj ey162
                          exact ow_nil (jy 4 0)
                      · refine ow_nil (kw_nx (cw_cond rfl (fun h163 => ?_) (fun h163 => ?_)))
                        · have H0 := cond_t H0 h163
                          refine sr (oD (sg rfl) rfl (nn (cw_ret (kw_nx_ret ?_))))
                          have q0 := Option.some.inj H0
                          subst q0
                          exact kw_ret Tryz.results11 (.cons (.tmp rfl) .nil) [] [] trivial (by decide) ⟨rfl, rfl⟩
                        · have H0 := cond_f H0 h163
                          refine cw_skip (kw_nx (sr (oD (sg rfl) rfl (nn (sr (oD (stp_loadN (us := [_, _, _, _, _, _, _, _, _, _, _]) ts68 rfl (Cells.box (id := 21) rfl 11 rfl)) rfl (oD (mv rfl) rfl (oE (stpU_call (fun i => 45 + i) cf43 (fun w hw => c_l_heldMemory fl w (⟨(⟨(⟨x113.2.1, x113.2.2.1⟩ : T), (⟨x113.2.2.2.1, x61.1.m.c.h⟩ : Ca), (⟨x61.1.m.g.c, x61.1.m.g.n, x61.1.m.g.r, x113.2.2.2.2.1⟩ : Tg), x61.1.m.s⟩ : Mc), x113.2.2.2.2.2, x61.1.h⟩ : Mm) p62 ((x61.1.m.t.b).length) c64 p66 ((x61.1.m.t.f).length) c68 p70 ((x61.1.m.c.l).length) c72 p74 ((x61.1.m.g.o).length) c76 p78 ((x61.1.k).length) c80 1 (by simp [hl114]) (OwnC.pass (id := 16) rfl o114 hw) (by simp [hl115]) (OwnC.pass (id := 17) rfl o115 hw) (by simp [hl116]) (OwnC.pass (id := 18) rfl o116 hw) (by simp [hl117]) (OwnC.pass (id := 19) rfl o117 hw) (by simp [hl118]) (OwnC.pass (id := 20) rfl o118 hw) x119 e119) (sevs_cons rfl (sevs_cons rfl sevs_nil))) rfl ?_))))))))
                          rintro _ _ ⟨_, ⟨rfl, rfl⟩, rfl⟩
                          refine oD (sg rfl) rfl (nn (cw_seq (sr (oD (mv rfl) rfl (oD (stp_lss rfl rfl) rfl (nn (cw_cond rfl (fun h164 => ?_) (fun h164 => ?_))))))))
                          · have H0 := cond_t H0 h164
                            refine sr (oD (sg rfl) rfl (nn (cw_ret (kw_nx_ret ?_))))
                            have q0 := Option.some.inj H0
                            subst q0
                            exact kw_ret Tryz.results11 (.cons (.tmp rfl) .nil) [] [] trivial (by decide) ⟨rfl, rfl⟩
                          · have H0 := cond_f H0 h164
                            refine cw_skip (kw_nx (cw_seq (sr (oD (mv rfl) rfl (oD (mv rfl) rfl (oD (stp_neq rfl rfl) rfl (nn (cw_cond rfl (fun h165 => ?_) (fun h165 => ?_)))))))))
                            · have H0 := cond_t H0 h165
                              refine sr (oD (sg rfl) rfl (nn (cw_ret (kw_nx_ret ?_))))
                              have q0 := Option.some.inj H0
                              subst q0
                              exact kw_ret Tryz.results11 (.cons (.tmp rfl) .nil) [] [] trivial (by decide) ⟨rfl, rfl⟩
                            · have H0 := cond_f H0 h165
                              refine cw_skip (kw_nx (sr (oD (sg rfl) rfl (nn (cw_ret ?_)))))
                              have q0 := Option.some.inj H0
                              subst q0
                              exact kw_ret Tryz.results11 (.cons (.tmp rfl) .nil) [] [] trivial (by decide) ⟨rfl, rfl⟩
end Go.Proofs.YtbgodaeccgjdgaaGreatDoor
