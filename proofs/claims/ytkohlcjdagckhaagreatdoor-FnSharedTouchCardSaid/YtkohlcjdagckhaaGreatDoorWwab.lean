/- The walks: functions of the program return what their pure functions say. Printed by a program (gen.py). -/
import Derived.Test.YtkohlcjdagckhaaGreatDoorWp
import Derived.Test.YtkohlcjdagckhaaGreatDoorWt
import Derived.Test.YtkohlcjdagckhaaGreatDoorMan
import Derived.Test.YtkohlcjdagckhaaGreatDoorMap
import Derived.Test.YtkohlcjdagckhaaGreatDoorCpy
import Derived.Test.YtkohlcjdagckhaaGreatDoorWe
import Derived.Test.YtkohlcjdagckhaaGreatDoorWwaa
set_option linter.unusedSimpArgs false
set_option linter.unusedVariables false
set_option linter.unusedSectionVars false
namespace Go.Proofs.YtkohlcjdagckhaaGreatDoor
open Go.RowKit
set_option maxHeartbeats 4000000
set_option maxRecDepth 20000
variable {p0_0 p0_0_0 p0_1 p0_2 p0_3 p1_0 p1_1 p1_2 p1_3 : Option Addr} {n0_0 n0_0_0 n0_1 n0_2 n0_3 n1_0 n1_1 n1_2 n1_3 : Nat} {c0_0 c0_0_0 c0_1 c0_2 c0_3 c1_0 c1_1 c1_2 c1_3 : Nat} {C1_0 C1_1 C1_2 C1_3 : Res}
theorem c_s_l3Copy (fl : Nat) (w : World) (a0 : T) (hn0_0 : n0_0 = (a0.b).length) (hr0_0 : RO w (hkeys []) (RdL p0_0 c0_0 a0.b)) (hn0_1 : n0_1 = (a0.f).length) (hr0_1 : RO w (hkeys []) (RdL p0_1 c0_1 a0.f)) (r : T) (H0 : s_l3Copy fl a0 = some r) :
  Ct Tryz.prog 108 [.agg #[.slice p0_0 n0_0 c0_0, .slice p0_1 n0_1 c0_1]] w [] (fun rv h' => ∃ (x0 : Option Addr) (y0 z0 : Nat) (C0 : Res) (x1 : Option Addr) (y1 z1 : Nat) (C1 : Res), rv = .agg #[.slice x0 y0 z0, .slice x1 y1 z1] ∧ h' = [(0, C0), (1, C1)] ∧ y0 = (r.b).length ∧ OwnC 3 x0 z0 r.b C0 ∧ y1 = (r.f).length ∧ OwnC 58 x1 z1 r.f C1) := by
 subst hn0_0 hn0_1
 unfold s_l3Copy at H0
 refine ct_of_cw Tryz.func108 rfl Tryz.ntmps108 rfl (Sat.refl _ _) ?_
 refine sr (oE (stpU_box 0 rfl rfl) rfl ?_)
 rintro _ _ ⟨b1, rfl, rfl⟩
 refine oE (stpU_alloc 1 tz26 rfl) rfl ?_
 rintro _ _ ⟨b2, rfl, rfl⟩
 obtain ⟨x5, e5, H0⟩ := bS H0
 obtain ⟨x11, e11, H0⟩ := bS H0
 refine nn (cw_seq (rdq g_mixed [1, 2] [0, 1] { dst := dS [4, 5, 6, 7, 8, 9, 10, 11, 12, 0], pre := gA [] [[], [], [1], [0, 1, 2], [], [], [5], rn 0 7, rn 0 8, rn 0 9], ids := gA [] [[2], [], [], [2], [3], [], [], [3], [], [1]], rs := rL [[], [(1, 0)], [(4, 2)], [(3, 1), (5, 3)], [], [(1, 0)], [(8, 6)], [(7, 5), (9, 7)], [(6, 4), (10, 8)], [(2, 0), (11, 9)]], rh := rL [[], [], [(0, 0)], [(2, 1)], [], [], [(0, 0)], [(3, 5)], [], [(1, 0)]], V := fun i g => gA undef [.slice ((g 0).A 0) 0 0, .pointer (some ⟨b1, 0, none⟩), .slice p0_0 ((a0.b).length) c0_0, .slice ((g 3).A 0) ((x5).length) ((g 3).C 0), .slice ((g 4).A 0) 0 0, .pointer (some ⟨b1, 1, none⟩), .slice p0_1 ((a0.f).length) c0_1, .slice ((g 7).A 0) ((x11).length) ((g 7).C 0), .agg #[.slice ((g 3).A 0) ((x5).length) ((g 3).C 0), .slice ((g 7).A 0) ((x11).length) ((g 7).C 0)]] i, U := fun i g => gA [] [[(2, ((g 0).R 0))], [], [], [(2, ((g 3).R 0))], [(3, ((g 4).R 0))], [], [], [(3, ((g 7).R 0))], [], [(1, [(b2, .cells #[.slice ((g 3).A 0) ((x5).length) ((g 3).C 0), .slice ((g 7).A 0) ((x11).length) ((g 7).C 0)] 26 (0, 0))])]] i, Φ := fun i x => gA True [OwnC (α := Int) 3 (x.A 0) 0 ([] : List Int) (x.R 0), True, True, OwnC 3 (x.A 0) (x.C 0) x5 (x.R 0), OwnC (α := F) 58 (x.A 0) 0 ([] : List F) (x.R 0), True, True, OwnC 58 (x.A 0) (x.C 0) x11 (x.R 0)] i } ?_ ?_))
 ·refine ⟨?_, lc rfl rfl fun hs hh => stp_fieldAddr (j := 0) Tryz.underlying26 rfl ts23 rfl (sv hs 1 rfl) rfl, lc rfl rfl fun hs hh => stp_load1 ts23 (sv hs 4 rfl) (Cells.box (id := 0) (hh.get 0 _ rfl) 1 rfl), ?_, ?_, lc rfl rfl fun hs hh => stp_fieldAddr (j := 1) Tryz.underlying26 rfl ts24 rfl (sv hs 1 rfl) rfl, lc rfl rfl fun hs hh => stp_load1 ts24 (sv hs 8 rfl) (Cells.box (id := 0) (hh.get 0 _ rfl) 1 rfl), ?_, ld rfl rfl fun g hΦ s h hs hh => stp_build (cs := #[.slice ((g 3).A 0) ((x5).length) ((g 3).C 0), .slice ((g 7).A 0) ((x11).length) ((g 7).C 0)]) (sevp_cons (sv hs 6 rfl) (sevp_cons (sv hs 10 rfl) sevp_nil)) bt26_14, ?_, trivial⟩
  ·refine le rfl rfl (fun g hΦ s h hs hh => (stpU_lit0 sl23 2)) ?_
   rintro g _ _ ⟨p3, C4, rfl, rfl, o4⟩
   exact ⟨⟨[p3], [], [C4]⟩, o4, .inr rfl, rfl⟩
  ·refine le rfl rfl (fun g hΦ s h hs hh => (stpU_append sl23 rfl (id := 2) (sv hs 3 rfl) (by simp) (sv hs 5 rfl) rfl (hh.get 2 _ rfl) (hΦ 0 rfl) (Rdb.ro hr0_0) e5)) ?_
   rintro g _ _ ⟨p6, c7, C8, rfl, rfl, o8⟩
   exact ⟨⟨[p6], [c7], [C8]⟩, o8, .inr rfl, rfl⟩
  ·refine le rfl rfl (fun g hΦ s h hs hh => (stpU_lit0 sl24 3)) ?_
   rintro g _ _ ⟨p9, C10, rfl, rfl, o10⟩
   exact ⟨⟨[p9], [], [C10]⟩, o10, .inr rfl, rfl⟩
  ·refine le rfl rfl (fun g hΦ s h hs hh => (stpU_append sl24 rfl (id := 3) (sv hs 7 rfl) (by simp) (sv hs 9 rfl) rfl (hh.get 3 _ rfl) (hΦ 4 rfl) (Rdb.ro hr0_1) e11)) ?_
   rintro g _ _ ⟨p12, c13, C14, rfl, rfl, o14⟩
   exact ⟨⟨[p12], [c13], [C14]⟩, o14, .inr rfl, rfl⟩
  refine le rfl rfl (fun g hΦ s h hs hh => (stpU_store (id := 1) (cs' := [.slice ((g 3).A 0) ((x5).length) ((g 3).C 0), .slice ((g 7).A 0) ((x11).length) ((g 7).C 0)]) ts26 (sv hs 2 rfl) (sv hs 11 rfl) (hh.get 1 _ rfl) rfl rfl rfl rfl)) ?_
  rintro g _ _ rfl
  exact ⟨⟨[], [], []⟩, trivial, .inl rfl, rfl⟩
 intro g hΦ
 refine kw_gen (ι := Option Addr × Res × Option Addr × Nat × Res × Option Addr × Res × Option Addr × Nat × Res) (((g 0).A 0), ((g 0).R 0), ((g 3).A 0), ((g 3).C 0), ((g 3).R 0), ((g 4).A 0), ((g 4).R 0), ((g 7).A 0), ((g 7).C 0), ((g 7).R 0)) (fun | (p3, C4, p6, c7, C8, p9, C10, p12, c13, C14) => OwnC (α := Int) 3 p3 0 ([] : List Int) C4 ∧ OwnC 3 p6 c7 x5 C8 ∧ OwnC (α := F) 58 p9 0 ([] : List F) C10 ∧ OwnC 58 p12 c13 x11 C14) (fun | (p3, C4, p6, c7, C8, p9, C10, p12, c13, C14) => [(2, .pointer (some ⟨b2, 0, none⟩))]) (fun | (p3, C4, p6, c7, C8, p9, C10, p12, c13, C14) => [(1, [(b2, .cells #[.slice p6 ((x5).length) c7, .slice p12 ((x11).length) c13] 26 (0, 0))]), (2, C8), (3, C14)]) ⟨(hΦ 0 (by decide)), (hΦ 3 (by decide)), (hΦ 4 (by decide)), (hΦ 7 (by decide))⟩ ⟨rfl, trivial⟩ ⟨rfl, rfl, rfl, trivial⟩ ?_
 rintro ⟨p3, C4, p6, c7, C8, p9, C10, p12, c13, C14⟩ ⟨o4, o8, o10, o14⟩
 dsimp only
 refine kw_nx (cw_ret ?_)
 obtain rfl := sI H0
 exact kr Tryz.results108 (rC2 1 ts26 rfl rfl) [2, 3] ⟨_, _, _, _, _, _, _, _, rfl, rfl, rfl, o8, rfl, o14⟩

theorem c_s_l4Copy (fl : Nat) (w : World) (a0 : Ca) (hn0_0 : n0_0 = (a0.l).length) (hr0_0 : RO w (hkeys []) (RdL p0_0 c0_0 a0.l)) (r : Ca) (H0 : s_l4Copy fl a0 = some r) :
  Ct Tryz.prog 109 [.agg #[.slice p0_0 n0_0 c0_0, .int .i64 a0.h]] w [] (fun rv h' => ∃ (x0 : Option Addr) (y0 z0 : Nat) (C0 : Res), rv = .agg #[.slice x0 y0 z0, .int .i64 r.h] ∧ h' = [(0, C0)] ∧ y0 = (r.l).length ∧ OwnC 41 x0 z0 r.l C0) := by
 subst hn0_0
 unfold s_l4Copy at H0
 refine ct_of_cw Tryz.func109 rfl Tryz.ntmps109 rfl (Sat.refl _ _) ?_
 refine sr (oE (stpU_box 0 rfl rfl) rfl ?_)
 rintro _ _ ⟨b1, rfl, rfl⟩
 refine oE (stpU_alloc 1 tz29 rfl) rfl ?_
 rintro _ _ ⟨b2, rfl, rfl⟩
 obtain ⟨x5, e5, H0⟩ := bS H0
 refine nn (cw_seq (rdq g_mixed [1, 2] [0, 1] { dst := dS [4, 5, 6, 7, 8, 9, 10, 0], pre := gA [] [[], [], [1], [0, 1, 2], [], [4], rn 0 6, rn 0 7], ids := gA [] [[2], [], [], [2], [], [], [], [1]], rs := rL [[], [(1, 0)], [(4, 2)], [(3, 1), (5, 3)], [(1, 0)], [(7, 5)], [(6, 4), (8, 6)], [(2, 0), (9, 7)]], rh := rL [[], [], [(0, 0)], [(2, 1)], [], [(0, 0)], [], [(1, 0)]], V := fun i g => gA undef [.slice ((g 0).A 0) 0 0, .pointer (some ⟨b1, 0, none⟩), .slice p0_0 ((a0.l).length) c0_0, .slice ((g 3).A 0) ((x5).length) ((g 3).C 0), .pointer (some ⟨b1, 1, none⟩), .int .i64 a0.h, .agg #[.slice ((g 3).A 0) ((x5).length) ((g 3).C 0), .int .i64 a0.h]] i, U := fun i g => gA [] [[(2, ((g 0).R 0))], [], [], [(2, ((g 3).R 0))], [], [], [], [(1, [(b2, .cells #[.slice ((g 3).A 0) ((x5).length) ((g 3).C 0), .int .i64 a0.h] 29 (0, 0))])]] i, Φ := fun i x => gA True [OwnC (α := Ln) 41 (x.A 0) 0 ([] : List Ln) (x.R 0), True, True, OwnC 41 (x.A 0) (x.C 0) x5 (x.R 0)] i } ?_ ?_))
 ·refine ⟨?_, lc rfl rfl fun hs hh => stp_fieldAddr (j := 0) Tryz.underlying29 rfl ts27 rfl (sv hs 1 rfl) rfl, lc rfl rfl fun hs hh => stp_load1 ts27 (sv hs 4 rfl) (Cells.box (id := 0) (hh.get 0 _ rfl) 1 rfl), ?_, lc rfl rfl fun hs hh => stp_fieldAddr (j := 1) Tryz.underlying29 rfl ts3 rfl (sv hs 1 rfl) rfl, lc rfl rfl fun hs hh => stp_load1 ts3 (sv hs 7 rfl) (Cells.box (id := 0) (hh.get 0 _ rfl) 1 rfl), ld rfl rfl fun g hΦ s h hs hh => stp_build (cs := #[.slice ((g 3).A 0) ((x5).length) ((g 3).C 0), .int .i64 a0.h]) (sevp_cons (sv hs 6 rfl) (sevp_cons (sv hs 8 rfl) sevp_nil)) bt29_15, ?_, trivial⟩
  ·refine le rfl rfl (fun g hΦ s h hs hh => (stpU_lit0 sl27 2)) ?_
   rintro g _ _ ⟨p3, C4, rfl, rfl, o4⟩
   exact ⟨⟨[p3], [], [C4]⟩, o4, .inr rfl, rfl⟩
  ·refine le rfl rfl (fun g hΦ s h hs hh => (stpU_append sl27 rfl (id := 2) (sv hs 3 rfl) (by simp) (sv hs 5 rfl) rfl (hh.get 2 _ rfl) (hΦ 0 rfl) (Rdb.ro hr0_0) e5)) ?_
   rintro g _ _ ⟨p6, c7, C8, rfl, rfl, o8⟩
   exact ⟨⟨[p6], [c7], [C8]⟩, o8, .inr rfl, rfl⟩
  refine le rfl rfl (fun g hΦ s h hs hh => (stpU_store (id := 1) (cs' := [.slice ((g 3).A 0) ((x5).length) ((g 3).C 0), .int .i64 a0.h]) ts29 (sv hs 2 rfl) (sv hs 9 rfl) (hh.get 1 _ rfl) rfl rfl rfl rfl)) ?_
  rintro g _ _ rfl
  exact ⟨⟨[], [], []⟩, trivial, .inl rfl, rfl⟩
 intro g hΦ
 refine kw_gen (ι := Option Addr × Res × Option Addr × Nat × Res) (((g 0).A 0), ((g 0).R 0), ((g 3).A 0), ((g 3).C 0), ((g 3).R 0)) (fun | (p3, C4, p6, c7, C8) => OwnC (α := Ln) 41 p3 0 ([] : List Ln) C4 ∧ OwnC 41 p6 c7 x5 C8) (fun | (p3, C4, p6, c7, C8) => [(2, .pointer (some ⟨b2, 0, none⟩))]) (fun | (p3, C4, p6, c7, C8) => [(1, [(b2, .cells #[.slice p6 ((x5).length) c7, .int .i64 a0.h] 29 (0, 0))]), (2, C8)]) ⟨(hΦ 0 (by decide)), (hΦ 3 (by decide))⟩ ⟨rfl, trivial⟩ ⟨rfl, rfl, trivial⟩ ?_
 rintro ⟨p3, C4, p6, c7, C8⟩ ⟨o4, o8⟩
 dsimp only
 refine kw_nx (cw_ret ?_)
 obtain rfl := sI H0
 exact kr Tryz.results109 (rC2 1 ts29 rfl rfl) [2] ⟨_, _, _, _, rfl, rfl, rfl, o8⟩

theorem c_s_l6Copy (fl : Nat) (w : World) (a0 : Mc) (hn0_0 : n0_0 = (a0.t.b).length) (hr0_0 : RO w (hkeys []) (RdL p0_0 c0_0 a0.t.b)) (hn0_1 : n0_1 = (a0.t.f).length) (hr0_1 : RO w (hkeys []) (RdL p0_1 c0_1 a0.t.f)) (hn0_2 : n0_2 = (a0.c.l).length) (hr0_2 : RO w (hkeys []) (RdL p0_2 c0_2 a0.c.l)) (hn0_3 : n0_3 = (a0.g.o).length) (hr0_3 : RO w (hkeys []) (RdL p0_3 c0_3 a0.g.o)) (r : Mc) (H0 : s_l6Copy fl a0 = some r) :
  Ct Tryz.prog 52 [.agg #[.slice p0_0 n0_0 c0_0, .slice p0_1 n0_1 c0_1, .slice p0_2 n0_2 c0_2, .int .i64 a0.c.h, .int .i64 a0.g.c, .int .i64 a0.g.n, .int .i64 a0.g.r, .slice p0_3 n0_3 c0_3, .int .i64 a0.s]] w [] (fun rv h' => ∃ (x0 : Option Addr) (y0 z0 : Nat) (C0 : Res) (x1 : Option Addr) (y1 z1 : Nat) (C1 : Res) (x2 : Option Addr) (y2 z2 : Nat) (C2 : Res) (x3 : Option Addr) (y3 z3 : Nat) (C3 : Res), rv = .agg #[.slice x0 y0 z0, .slice x1 y1 z1, .slice x2 y2 z2, .int .i64 r.c.h, .int .i64 r.g.c, .int .i64 r.g.n, .int .i64 r.g.r, .slice x3 y3 z3, .int .i64 r.s] ∧ h' = [(0, C0), (1, C1), (2, C2), (3, C3)] ∧ y0 = (r.t.b).length ∧ OwnC 3 x0 z0 r.t.b C0 ∧ y1 = (r.t.f).length ∧ OwnC 58 x1 z1 r.t.f C1 ∧ y2 = (r.c.l).length ∧ OwnC 41 x2 z2 r.c.l C2 ∧ y3 = (r.g.o).length ∧ OwnC 118 x3 z3 r.g.o C3) := by
 subst hn0_0 hn0_1 hn0_2 hn0_3
 unfold s_l6Copy at H0
 refine ct_of_cw Tryz.func52 rfl Tryz.ntmps52 rfl (Sat.refl _ _) ?_
 refine sr (oE (stpU_box 0 rfl rfl) rfl ?_)
 rintro _ _ ⟨b1, rfl, rfl⟩
 refine oE (stpU_alloc 1 tz34 rfl) rfl ?_
 rintro _ _ ⟨b2, rfl, rfl⟩
 obtain ⟨x3, e3, H0⟩ := bS H0
 obtain ⟨x12, e12, H0⟩ := bS H0
 obtain ⟨x17, e17, H0⟩ := bS H0
 refine nn (cw_seq (rdq g_mixed [1, 2] [0, 1] { dst := dS [4, 5, 6, 7, 8, 9, 10, 11, 12, 13, 14, 15, 0], pre := gA [] [[], [0], [0, 1], [], [3], rn 0 5, [], [6], rn 0 8, [], [9], rn 0 11, rn 0 12], ids := gA [] [[], [], [2, 3], [], [], [4], [], [], [5], [], [], [], [1]], rs := rL [[(1, 0)], [(3, 1)], [(4, 2)], [(1, 0)], [(6, 4)], [(7, 5)], [(1, 0)], [(9, 7)], [(10, 8)], [(1, 0)], [(12, 10)], [(5, 3), (8, 6), (11, 9), (13, 11)], [(2, 0), (14, 12)]], rh := rL [[], [(0, 0)], [], [], [(0, 0)], [], [], [(0, 0)], [], [], [(0, 0)], [], [(1, 0)]], V := fun i g => gA undef [.pointer (some ⟨b1, 0, none⟩), .agg #[.slice p0_0 ((a0.t.b).length) c0_0, .slice p0_1 ((a0.t.f).length) c0_1], .agg #[.slice ((g 2).A 0) ((x3.b).length) ((g 2).C 0), .slice ((g 2).A 1) ((x3.f).length) ((g 2).C 1)], .pointer (some ⟨b1, 2, none⟩), .agg #[.slice p0_2 ((a0.c.l).length) c0_2, .int .i64 a0.c.h], .agg #[.slice ((g 5).A 0) ((x12.l).length) ((g 5).C 0), .int .i64 x12.h], .pointer (some ⟨b1, 4, none⟩), .agg #[.int .i64 a0.g.c, .int .i64 a0.g.n, .int .i64 a0.g.r, .slice p0_3 ((a0.g.o).length) c0_3], .agg #[.int .i64 x17.c, .int .i64 x17.n, .int .i64 x17.r, .slice ((g 8).A 0) ((x17.o).length) ((g 8).C 0)], .pointer (some ⟨b1, 8, none⟩), .int .i64 a0.s, .agg #[.slice ((g 2).A 0) ((x3.b).length) ((g 2).C 0), .slice ((g 2).A 1) ((x3.f).length) ((g 2).C 1), .slice ((g 5).A 0) ((x12.l).length) ((g 5).C 0), .int .i64 x12.h, .int .i64 x17.c, .int .i64 x17.n, .int .i64 x17.r, .slice ((g 8).A 0) ((x17.o).length) ((g 8).C 0), .int .i64 a0.s]] i, U := fun i g => gA [] [[], [], [(2, ((g 2).R 0)), (3, ((g 2).R 1))], [], [], [(4, ((g 5).R 0))], [], [], [(5, ((g 8).R 0))], [], [], [], [(1, [(b2, .cells #[.slice ((g 2).A 0) ((x3.b).length) ((g 2).C 0), .slice ((g 2).A 1) ((x3.f).length) ((g 2).C 1), .slice ((g 5).A 0) ((x12.l).length) ((g 5).C 0), .int .i64 x12.h, .int .i64 x17.c, .int .i64 x17.n, .int .i64 x17.r, .slice ((g 8).A 0) ((x17.o).length) ((g 8).C 0), .int .i64 a0.s] 34 (0, 0))])]] i, Φ := fun i x => match i with | 2 => OwnC 3 (x.A 0) (x.C 0) x3.b (x.R 0) ∧ OwnC 58 (x.A 1) (x.C 1) x3.f (x.R 1) | 5 => OwnC 41 (x.A 0) (x.C 0) x12.l (x.R 0) | 8 => OwnC 118 (x.A 0) (x.C 0) x17.o (x.R 0) | _ => True } ?_ ?_))
 ·refine ⟨lc rfl rfl fun hs hh => stp_fieldAddr (j := 0) Tryz.underlying34 rfl ts26 rfl (sv hs 1 rfl) rfl, lc rfl rfl fun hs hh => stp_loadN (us := [_, _]) ts26 (sv hs 3 rfl) (Cells.box (id := 0) (hh.get 0 _ rfl) 2 rfl), ?_, lc rfl rfl fun hs hh => stp_fieldAddr (j := 2) Tryz.underlying34 rfl ts29 rfl (sv hs 1 rfl) rfl, lc rfl rfl fun hs hh => stp_loadN (us := [_, _]) ts29 (sv hs 6 rfl) (Cells.box (id := 0) (hh.get 0 _ rfl) 2 rfl), ?_, lc rfl rfl fun hs hh => stp_fieldAddr (j := 4) Tryz.underlying34 rfl ts32 rfl (sv hs 1 rfl) rfl, lc rfl rfl fun hs hh => stp_loadN (us := [_, _, _, _]) ts32 (sv hs 9 rfl) (Cells.box (id := 0) (hh.get 0 _ rfl) 4 rfl), ?_, lc rfl rfl fun hs hh => stp_fieldAddr (j := 8) Tryz.underlying34 rfl ts3 rfl (sv hs 1 rfl) rfl, lc rfl rfl fun hs hh => stp_load1 ts3 (sv hs 12 rfl) (Cells.box (id := 0) (hh.get 0 _ rfl) 1 rfl), ld rfl rfl fun g hΦ s h hs hh => stp_build (cs := #[.slice ((g 2).A 0) ((x3.b).length) ((g 2).C 0), .slice ((g 2).A 1) ((x3.f).length) ((g 2).C 1), .slice ((g 5).A 0) ((x12.l).length) ((g 5).C 0), .int .i64 x12.h, .int .i64 x17.c, .int .i64 x17.n, .int .i64 x17.r, .slice ((g 8).A 0) ((x17.o).length) ((g 8).C 0), .int .i64 a0.s]) (sevp_cons (sv hs 5 rfl) (sevp_cons (sv hs 8 rfl) (sevp_cons (sv hs 11 rfl) (sevp_cons (sv hs 13 rfl) sevp_nil)))) bt34_16, ?_, trivial⟩
  ·refine le rfl rfl (fun g hΦ s h hs hh => (stpU_call (fun i => 2 + i) cf108 (fun w hw => c_s_l3Copy fl w a0.t rfl (RO.pass hr0_0 hw) rfl (RO.pass hr0_1 hw) x3 e3) (yA (sv hs 4 rfl)))) ?_
   rintro g _ _ ⟨_, ⟨p4, _, c6, C7, p8, _, c10, C11, rfl, rfl, rfl, o7, rfl, o11⟩, rfl⟩
   exact ⟨⟨[p4, p8], [c6, c10], [C7, C11]⟩, ⟨o7, o11⟩, .inr rfl, rfl⟩
  ·refine le rfl rfl (fun g hΦ s h hs hh => (stpU_call (fun i => 4 + i) cf109 (fun w hw => c_s_l4Copy fl w a0.c rfl (RO.pass hr0_2 hw) x12 e12) (yA (sv hs 7 rfl)))) ?_
   rintro g _ _ ⟨_, ⟨p13, _, c15, C16, rfl, rfl, rfl, o16⟩, rfl⟩
   exact ⟨⟨[p13], [c15], [C16]⟩, o16, .inr rfl, rfl⟩
  ·refine le rfl rfl (fun g hΦ s h hs hh => (stpU_call (fun i => 5 + i) cf103 (fun w hw => c_s_l5Copy fl w a0.g rfl (RO.pass hr0_3 hw) x17 e17) (yA (sv hs 10 rfl)))) ?_
   rintro g _ _ ⟨_, ⟨p18, _, c20, C21, rfl, rfl, rfl, o21⟩, rfl⟩
   exact ⟨⟨[p18], [c20], [C21]⟩, o21, .inr rfl, rfl⟩
  refine le rfl rfl (fun g hΦ s h hs hh => (stpU_store (id := 1) (cs' := [.slice ((g 2).A 0) ((x3.b).length) ((g 2).C 0), .slice ((g 2).A 1) ((x3.f).length) ((g 2).C 1), .slice ((g 5).A 0) ((x12.l).length) ((g 5).C 0), .int .i64 x12.h, .int .i64 x17.c, .int .i64 x17.n, .int .i64 x17.r, .slice ((g 8).A 0) ((x17.o).length) ((g 8).C 0), .int .i64 a0.s]) ts34 (sv hs 2 rfl) (sv hs 14 rfl) (hh.get 1 _ rfl) rfl rfl rfl rfl)) ?_
  rintro g _ _ rfl
  exact ⟨⟨[], [], []⟩, trivial, .inl rfl, rfl⟩
 intro g hΦ
 refine kw_gen (ι := Option Addr × Option Addr × Nat × Nat × Res × Res × Option Addr × Nat × Res × Option Addr × Nat × Res) (((g 2).A 0), ((g 2).A 1), ((g 2).C 0), ((g 2).C 1), ((g 2).R 0), ((g 2).R 1), ((g 5).A 0), ((g 5).C 0), ((g 5).R 0), ((g 8).A 0), ((g 8).C 0), ((g 8).R 0)) (fun | (p4, p8, c6, c10, C7, C11, p13, c15, C16, p18, c20, C21) => OwnC 3 p4 c6 x3.b C7 ∧ OwnC 58 p8 c10 x3.f C11 ∧ OwnC 41 p13 c15 x12.l C16 ∧ OwnC 118 p18 c20 x17.o C21) (fun | (p4, p8, c6, c10, C7, C11, p13, c15, C16, p18, c20, C21) => [(2, .pointer (some ⟨b2, 0, none⟩))]) (fun | (p4, p8, c6, c10, C7, C11, p13, c15, C16, p18, c20, C21) => [(1, [(b2, .cells #[.slice p4 ((x3.b).length) c6, .slice p8 ((x3.f).length) c10, .slice p13 ((x12.l).length) c15, .int .i64 x12.h, .int .i64 x17.c, .int .i64 x17.n, .int .i64 x17.r, .slice p18 ((x17.o).length) c20, .int .i64 a0.s] 34 (0, 0))]), (2, C7), (3, C11), (4, C16), (5, C21)]) ⟨(hΦ 2 (by decide)).1, (hΦ 2 (by decide)).2, (hΦ 5 (by decide)), (hΦ 8 (by decide))⟩ ⟨rfl, trivial⟩ ⟨rfl, rfl, rfl, rfl, rfl, trivial⟩ ?_
 rintro ⟨p4, p8, c6, c10, C7, C11, p13, c15, C16, p18, c20, C21⟩ ⟨o7, o11, o16, o21⟩
 dsimp only
 refine kw_nx (cw_ret ?_)
 obtain rfl := sI H0
 exact kr Tryz.results52 (rC9 1 ts34 rfl rfl) [2, 3, 4, 5] ⟨_, _, _, _, _, _, _, _, _, _, _, _, _, _, _, _, rfl, rfl, rfl, o7, rfl, o11, rfl, o16, rfl, o21⟩

theorem c_s_l6Fresh (fl : Nat) (w : World) (a0 : Ca) (hn0_0 : n0_0 = (a0.l).length) (hr0_0 : RO w (hkeys []) (RdL p0_0 c0_0 a0.l)) (r : Ca) (H0 : s_l6Fresh fl a0 = some r) :
  Ct Tryz.prog 53 [.agg #[.slice p0_0 n0_0 c0_0, .int .i64 a0.h]] w [] (fun rv h' => ∃ (x0 : Option Addr) (y0 z0 : Nat) (C0 : Res), rv = .agg #[.slice x0 y0 z0, .int .i64 r.h] ∧ h' = [(0, C0)] ∧ y0 = (r.l).length ∧ OwnC 41 x0 z0 r.l C0) := by
 subst hn0_0
 unfold s_l6Fresh at H0
 refine ct_of_cw Tryz.func53 rfl Tryz.ntmps53 rfl (Sat.refl _ _) ?_
 refine sr (oE (stpU_box 0 rfl rfl) rfl ?_)
 rintro _ _ ⟨b1, rfl, rfl⟩
 refine oE (stpU_alloc 1 tz29 rfl) rfl ?_
 rintro _ _ ⟨b2, rfl, rfl⟩
 obtain ⟨x3, e3, H0⟩ := bS H0
 refine nn (sr (oB2 0 ts29 rfl (oE (stpU_call (fun i => 2 + i) cf109 (fun w hw => c_s_l4Copy fl w a0 rfl (RO.pass hr0_0 hw) x3 e3) (yA rfl)) rfl ?_)))
 rintro _ _ ⟨_, ⟨p4, _, c6, C7, rfl, rfl, rfl, o7⟩, rfl⟩
 refine oE (stpU_alloc 3 tz29 rfl) rfl ?_
 rintro _ _ ⟨b8, rfl, rfl⟩
 obtain ⟨o0_0, eo0_0, H0⟩ := bS H0
 refine oC2 3 ts29 rfl rfl (nn (cw_seq (sr (oS rfl (nn (cw_join (ι := (List Ln) × Int × Res) (fun | (v9, v11, C10) => o0_0 = .out (v9, v11) ∧ (x3.l).length = (v9).length ∧ OwnC 41 p4 c6 v9 C10) (fun | (v9, v11, C10) => [(2, .pointer (some ⟨b2, 0, none⟩)), (3, .pointer (some ⟨b8, 0, none⟩)), (4, .int .i64 v11)]) (fun | (v9, v11, C10) => [(1, [(b2, .cells #[.slice none 0 0, .int .i64 0] 29 (0, 0))]), (2, C10), (3, [(b8, .cells #[.slice p4 ((x3.l).length) c6, .int .i64 x3.h] 29 (0, 0))])]) ?_ ?_))))))
 ·refine cw_block (cw_loopS (ι := Nat × (List Ln) × Int × Res) (js := [1, 2, 3]) (fun x => x.1) (fun | (fuel, v9, v11, C10) => s_l6Fresh_L0 fl x3 fuel v9 v11 = some o0_0 ∧ (x3.l).length = (v9).length ∧ OwnC 41 p4 c6 v9 C10) (fun | (_, v9, v11, C10) => [(2, .pointer (some ⟨b2, 0, none⟩)), (3, .pointer (some ⟨b8, 0, none⟩)), (4, .int .i64 v11)]) (fun | (_, v9, v11, C10) => [(1, [(b2, .cells #[.slice none 0 0, .int .i64 0] 29 (0, 0))]), (2, C10), (3, [(b8, .cells #[.slice p4 ((x3.l).length) c6, .int .i64 x3.h] 29 (0, 0))])]) (fl, x3.l, 0, C7) ⟨eo0_0, rfl, o7⟩ ⟨rfl, rfl, rfl, trivial⟩ ⟨1, [2, 3], rfl, rfl, 2, [3], rfl, rfl, 3, [], rfl, rfl, trivial⟩ (by decide) ?_)
  rintro ⟨fuel, v9, v11, C10⟩ ⟨H1, hl10, o10⟩
  have H1 : s_l6Fresh_L0 fl x3 fuel v9 v11 = some o0_0 := H1
  rcases fuel with _ | fuel
  ·rw [s_l6Fresh_L0.eq_1] at H1; cases H1
  rw [s_l6Fresh_L0.eq_2] at H1
  dsimp only
  refine cw_seq (sr (oM rfl (oA 0 Tryz.underlying29 rfl ts27 rfl (oL 3 ts27 rfl (oD (stp_len Tryz.underlying27 rfl) rfl (oW rfl (nn (cw_cond rfl (fun h12 => ?_) (fun h12 => ?_)))))))))
  ·have H1 := cond_t H1 h12
   obtain ⟨x13, e13, H1⟩ := bS H1
   refine cw_skip (kw_nx (cw_seq (cw_block (sr (oA 0 Tryz.underlying29 rfl ts27 rfl (oL 3 ts27 rfl (oM rfl (oD (stp_indexAddr Tryz.underlying27 ts41 (by decide) rfl (by simp [hl10]) rfl (Rdb.own (id := 2) rfl o10) e13) rfl (oA 1 Tryz.underlying41 rfl ts3 rfl (oD (stp_load1 ts3 rfl (Cells.el (Rdb.own (id := 2) rfl o10) (by decide) e13 1 1 rfl)) rfl (oU rfl (nn (cw_cond rfl (fun h14 => ?_) (fun h14 => ?_))))))))))))))
   ·have H1 := cond_t H1 h14
    refine cw_region (oA 0 Tryz.underlying29 rfl ts27 rfl (oL 3 ts27 rfl (oM rfl (oD (stp_build (cs := #[.bool false, .int .i64 0, .int .i64 0, .int .i64 0, .int .i64 0, .bool false]) sevp_nil bt41_11) rfl (oD (stp_indexAddr Tryz.underlying27 ts41 (by decide) rfl (by simp [hl10]) rfl (Rdb.own (id := 2) rfl o10) e13) rfl (oF (stpU_storeEl (id := 2) (i := 0) (⟨false, 0, 0, 0, 0, false⟩ : Ln) (by decide) ts41 rfl rfl rfl o10 e13 rfl rfl rfl rfl) ?_))))))
    rintro _ _ ⟨C15, rfl, o15⟩
    obtain ⟨x16, e16, H1⟩ := bS H1
    exact ow_nil (kw_bl_normal (kw_nx (cw_region (oM rfl (oP e16 rfl (oS rfl (ow_nil (kw_lqS (js := [1, 2, 3]) (fuel, (v9.set (Int.toNat v11) (⟨false, 0, 0, 0, 0, false⟩ : Ln)), x16, C15) ⟨H1, (by simp [hl10]), o15⟩ (Nat.lt_succ_self _) ⟨rfl, rfl, rfl, trivial⟩ ⟨1, [2, 3], rfl, rfl, 2, [3], rfl, rfl, 3, [], rfl, rfl, trivial⟩ (by decide)))))))))
   have H1 := cond_f H1 h14
   obtain ⟨x17, e17, H1⟩ := bS H1
   exact cw_skip (kw_bl_normal (kw_nx (cw_region (oM rfl (oP e17 rfl (oS rfl (ow_nil (kw_lqS (js := [1, 2, 3]) (fuel, v9, x17, C10) ⟨H1, (by simp [hl10]), o10⟩ (Nat.lt_succ_self _) ⟨rfl, rfl, rfl, trivial⟩ ⟨1, [2, 3], rfl, rfl, 2, [3], rfl, rfl, 3, [], rfl, rfl, trivial⟩ (by decide)))))))))
  have H1 := cond_f H1 h12
  refine cw_exit (kw_nx_exit (kw_lq_exit (kw_bl ?_)))
  obtain rfl := sI H1
  exact kw_joinS (js := [1, 2, 3]) (v9, v11, C10) ⟨rfl, (by simp [hl10]), o10⟩ ⟨rfl, rfl, rfl, trivial⟩ ⟨1, [2, 3], rfl, rfl, 2, [3], rfl, rfl, 3, [], rfl, rfl, trivial⟩ (by decide)
 rintro ⟨v9, v11, C10⟩ ⟨rfl, hl10, o10⟩
 dsimp only
 refine kw_nx (sr (oB2 3 ts29 rfl (oC2 1 ts29 rfl rfl (nn (cw_ret ?_)))))
 obtain rfl := sI H0
 exact kr Tryz.results53 (rC2 1 ts29 rfl rfl) [2] ⟨_, _, _, _, rfl, rfl, (by simp [hl10]), o10⟩

theorem c_s_EnterSpace (fl : Nat) (w : World) (a0 : Mc) (a1 : Int) (hn0_0 : n0_0 = (a0.t.b).length) (hr0_0 : RO w (hkeys []) (RdL p0_0 c0_0 a0.t.b)) (hn0_1 : n0_1 = (a0.t.f).length) (hr0_1 : RO w (hkeys []) (RdL p0_1 c0_1 a0.t.f)) (hn0_2 : n0_2 = (a0.c.l).length) (hr0_2 : RO w (hkeys []) (RdL p0_2 c0_2 a0.c.l)) (hn0_3 : n0_3 = (a0.g.o).length) (hr0_3 : RO w (hkeys []) (RdL p0_3 c0_3 a0.g.o)) (r : Mc × Bool) (H0 : s_EnterSpace fl a0 a1 = some r) :
  Ct Tryz.prog 17 [.agg #[.slice p0_0 n0_0 c0_0, .slice p0_1 n0_1 c0_1, .slice p0_2 n0_2 c0_2, .int .i64 a0.c.h, .int .i64 a0.g.c, .int .i64 a0.g.n, .int .i64 a0.g.r, .slice p0_3 n0_3 c0_3, .int .i64 a0.s], .int .i64 a1] w [] (fun rv h' => ∃ (x0 : Option Addr) (y0 z0 : Nat) (C0 : Res) (x1 : Option Addr) (y1 z1 : Nat) (C1 : Res) (x2 : Option Addr) (y2 z2 : Nat) (C2 : Res) (x3 : Option Addr) (y3 z3 : Nat) (C3 : Res), rv = .tuple #[.agg #[.slice x0 y0 z0, .slice x1 y1 z1, .slice x2 y2 z2, .int .i64 r.1.c.h, .int .i64 r.1.g.c, .int .i64 r.1.g.n, .int .i64 r.1.g.r, .slice x3 y3 z3, .int .i64 r.1.s], .bool r.2] ∧ h' = [(0, C0), (1, C1), (2, C2), (3, C3)] ∧ y0 = (r.1.t.b).length ∧ OwnC 3 x0 z0 r.1.t.b C0 ∧ y1 = (r.1.t.f).length ∧ OwnC 58 x1 z1 r.1.t.f C1 ∧ y2 = (r.1.c.l).length ∧ OwnC 41 x2 z2 r.1.c.l C2 ∧ y3 = (r.1.g.o).length ∧ OwnC 118 x3 z3 r.1.g.o C3) := by
 subst hn0_0 hn0_1 hn0_2 hn0_3
 unfold s_EnterSpace at H0
 refine ct_of_cw Tryz.func17 rfl Tryz.ntmps17 rfl (Sat.refl _ _) ?_
 refine sr (oE (stpU_box 0 rfl rfl) rfl ?_)
 rintro _ _ ⟨b1, rfl, rfl⟩
 refine oE (stpU_alloc 1 tz34 rfl) rfl ?_
 rintro _ _ ⟨b2, rfl, rfl⟩
 obtain ⟨x3, e3, H0⟩ := bS H0
 refine oS rfl (nn (sr (oA 4 Tryz.underlying34 rfl ts32 rfl (oB4 0 ts32 rfl (oM rfl (oE (stpU_call (fun i => 2 + i) cf50 (fun w hw => c_s_TakeTag fl w a0.g a1 rfl (RO.pass hr0_3 hw) x3 e3) (yB rfl rfl)) rfl ?_))))))
 rintro _ _ ⟨_, ⟨p4, _, c6, C7, rfl, rfl, rfl, o7⟩, rfl⟩
 refine oM rfl (oT rfl (oT rfl (oT rfl (oT rfl (oE (stpU_alloc 3 tz32 rfl) rfl ?_)))))
 rintro _ _ ⟨b8, rfl, rfl⟩
 obtain ⟨x9, e9, H0⟩ := bS H0
 refine oC4 3 ts32 rfl rfl (oS rfl (oS rfl (oS rfl (nn (cw_seq (sr (oB9 0 ts34 rfl (oE (stpU_call (fun i => 4 + i) cf51 (fun w hw => c_s_MachineValid fl w a0 rfl (RO.pass hr0_0 hw) rfl (RO.pass hr0_1 hw) rfl (RO.pass hr0_2 hw) rfl (RO.pass hr0_3 hw) x9 e9) (yA rfl)) rfl ?_))))))))
 rintro _ _ ⟨_, ⟨rfl, rfl⟩, rfl⟩
 obtain ⟨y10, ey10, H0⟩ := bS H0
 refine oK rfl (oM rfl (ow_cutY 3 26 y10 ?_ ?_))
 ·rcases Bool.eq_false_or_eq_true (!x9) with hy10 | hy10
  ·have ey10 := cond_t ey10 hy10
   refine oO rfl hy10 rfl (oO rfl hy10 rfl (oD (stp_pick_t rfl hy10 rfl) rfl ?_))
   obtain rfl := sI ey10
   exact ow_nil (jy 3 0)
  have ey10 := cond_f ey10 hy10
  refine oG rfl hy10 (mv rfl) rfl (oG rfl hy10 (stp_not rfl) rfl (oD (stp_pick_f rfl hy10 rfl) rfl ?_))
  obtain rfl := sI ey10
  exact ow_nil (jy 3 0)
 refine ow_nil (kw_nx (cw_cond rfl (fun h11 => ?_) (fun h11 => ?_)))
 ·have H0 := cond_t H0 h11
  refine sr (oD (stp_build (cs := #[.slice none 0 0, .slice none 0 0, .slice none 0 0, .int .i64 0, .int .i64 0, .int .i64 0, .int .i64 0, .slice none 0 0, .int .i64 0]) sevp_nil bt34_6) rfl (oC9 1 ts34 rfl rfl (oS rfl (nn (cw_ret (kw_nx_ret (kw_addNil 4 (kw_addNil 5 (kw_addNil 6 (kw_addNil 7 ?_))))))))))
  obtain rfl := sI H0
  exact kr Tryz.results17 (.cons (.cellN (us := [_, _, _, _, _, _, _, _, _]) ts34 rfl (Cells.box (id := 1) rfl 9 rfl)) (rT rfl)) [4, 5, 6, 7] ⟨_, _, _, _, _, _, _, _, _, _, _, _, _, _, _, _, rfl, rfl, rfl, (OwnC.nil _ _), rfl, (OwnC.nil _ _), rfl, (OwnC.nil _ _), rfl, (OwnC.nil _ _)⟩
 have H0 := cond_f H0 h11
 obtain ⟨x12, e12, H0⟩ := bS H0
 refine cw_skip (kw_nx (sr (oB9 0 ts34 rfl (oE (stpU_call (fun i => 8 + i) cf52 (fun w hw => c_s_l6Copy fl w a0 rfl (RO.pass hr0_0 hw) rfl (RO.pass hr0_1 hw) rfl (RO.pass hr0_2 hw) rfl (RO.pass hr0_3 hw) x12 e12) (yA rfl)) rfl ?_))))
 rintro _ _ ⟨_, ⟨p13, _, c15, C16, p17, _, c19, C20, p21, _, c23, C24, p25, _, c27, C28, rfl, rfl, rfl, o16, rfl, o20, rfl, o24, rfl, o28⟩, rfl⟩
 refine oE (stpU_alloc 12 tz34 rfl) rfl ?_
 rintro _ _ ⟨b29, rfl, rfl⟩
 refine oC9 12 ts34 rfl rfl (nn (sr (oB4 3 ts32 rfl (oA 4 Tryz.underlying34 rfl ts32 rfl (oC9 12 ts32 rfl rfl (nn (sr (oM rfl (oA 8 Tryz.underlying34 rfl ts3 rfl (oC9 12 ts3 rfl rfl (nn (cw_seq (sr ?_)))))))))))))
 refine oM rfl (nn (cw_cond rfl (fun h30 => ?_) (fun h30 => ?_)))
 ·have H0 := cond_t H0 h30
  obtain ⟨x31, e31, H0⟩ := bS H0
  refine cw_region (oA 2 Tryz.underlying34 rfl ts29 rfl (oB2 0 ts29 rfl (oE (stpU_call (fun i => 13 + i) cf53 (fun w hw => c_s_l6Fresh fl w a0.c rfl (RO.pass hr0_2 hw) x31 e31) (yA rfl)) rfl ?_)))
  rintro _ _ ⟨_, ⟨p32, _, c34, C35, rfl, rfl, rfl, o35⟩, rfl⟩
  refine oA 2 Tryz.underlying34 rfl ts29 rfl (oC9 12 ts29 rfl rfl (nn (sr (oB9 12 ts34 rfl (oC9 1 ts34 rfl rfl (oS rfl (nn (cw_ret ?_))))))))
  obtain rfl := sI H0
  exact kr Tryz.results17 (.cons (.cellN (us := [_, _, _, _, _, _, _, _, _]) ts34 rfl (Cells.box (id := 1) rfl 9 rfl)) (rT rfl)) [8, 9, 13, 2] ⟨_, _, _, _, _, _, _, _, _, _, _, _, _, _, _, _, rfl, rfl, rfl, o16, rfl, o20, rfl, o35, rfl, o7⟩
 have H0 := cond_f H0 h30
 refine cw_skip (kw_nx (sr (oB9 12 ts34 rfl (oC9 1 ts34 rfl rfl (oS rfl (nn (cw_ret ?_)))))))
 obtain rfl := sI H0
 exact kr Tryz.results17 (.cons (.cellN (us := [_, _, _, _, _, _, _, _, _]) ts34 rfl (Cells.box (id := 1) rfl 9 rfl)) (rT rfl)) [8, 9, 10, 2] ⟨_, _, _, _, _, _, _, _, _, _, _, _, _, _, _, _, rfl, rfl, rfl, o16, rfl, o20, rfl, o24, rfl, o7⟩

theorem c_s_l6Page (fl : Nat) (w : World) (m0 : Nat) (a0_0 : (List UInt8)) (a0_1 : Int) (hn0_0_0 : n0_0_0 = (a0_0).length) (hr0_0_0 : RO w (hkeys [(0, [(m0, .cells #[.slice p0_0_0 n0_0_0 c0_0_0, .int .i64 a0_1] 124 (0, 0))])]) (RdL p0_0_0 c0_0_0 a0_0)) (hM : Sat w (hkeys [(0, [(m0, .cells #[.slice p0_0_0 n0_0_0 c0_0_0, .int .i64 a0_1] 124 (0, 0))])]) w [(0, [(m0, .cells #[.slice p0_0_0 n0_0_0 c0_0_0, .int .i64 a0_1] 124 (0, 0))])]) (r : Int × Int) (H0 : s_l6Page fl a0_0 a0_1 = some r) :
  Ct Tryz.prog 126 [.pointer (some ⟨m0, 0, none⟩)] w [(0, [(m0, .cells #[.slice p0_0_0 n0_0_0 c0_0_0, .int .i64 a0_1] 124 (0, 0))])] (fun rv h' => rv = .int .i64 r.1 ∧ h' = [(0, [(m0, .cells #[.slice p0_0_0 n0_0_0 c0_0_0, .int .i64 r.2] 124 (0, 0))])]) := by
 subst hn0_0_0
 unfold s_l6Page at H0
 refine ct_of_cw Tryz.func126 rfl Tryz.ntmps126 rfl hM ?_
 refine sr (oS rfl (nn (sr (oM rfl (oE (stpU_lit (sz := 1) (l := [1, 2, 3, 4, 200, 201, 5]) [.int .i64 1, .int .i64 2, .int .i64 3, .int .i64 4, .int .i64 200, .int .i64 201, .int .i64 5] sl23 1 (sevp_cons rfl (sevp_cons rfl (sevp_cons rfl (sevp_cons rfl (sevp_cons rfl (sevp_cons rfl (sevp_cons rfl sevp_nil))))))) rfl rfl rfl rfl rfl rfl rfl rfl rfl) rfl ?_)))))
 rintro _ _ ⟨p1, C2, rfl, rfl, o2⟩
 obtain ⟨x3, e3, H0⟩ := bS H0
 refine oE (stpU_callM (fun i => bif Nat.beq i 0 then 0 else 2 + i) cf47 (fun w hw hb => c_s_l12Rd_num fl w m0 a0_0 a0_1 ([1, 2, 3, 4, 200, 201, 5]) rfl (RO.passM hr0_0_0 hw hb) (by simp) (OwnC.passM (id := 1) rfl o2 hw hb ⟨rfl, trivial⟩) (hw.pass (js := [0]) ⟨0, [], rfl, rfl, trivial⟩ (by decide)) x3 e3) (yB rfl rfl) ⟨rfl, (fun _ _ hp => by obtain ⟨_, rfl⟩ := hp; exact ⟨_, rfl⟩), trivial⟩) rfl ?_
 rintro _ _ ⟨_, ⟨rfl, rfl⟩, rfl⟩
 refine oS rfl (nn (cw_ret ?_))
 obtain rfl := sI H0
 exact kr Tryz.results126 (rT rfl) [0] ⟨rfl, rfl⟩

theorem c_s_KeyValid (fl : Nat) (w : World) (a0 : K) (r : Bool) (H0 : s_KeyValid fl a0 = some r) :
  Ct Tryz.prog 123 [.agg #[.int .i64 a0.s, .int .i64 a0.p]] w [] (fun rv h' => rv = .bool r ∧ h' = []) := by
 unfold s_KeyValid at H0
 refine ct_of_cw Tryz.func123 rfl Tryz.ntmps123 rfl (Sat.refl _ _) ?_
 refine sr (oE (stpU_box 0 rfl rfl) rfl ?_)
 rintro _ _ ⟨b1, rfl, rfl⟩
 obtain ⟨x2, e2, H0⟩ := bS H0
 refine oS rfl (nn (sr (oA 0 Tryz.underlying47 rfl ts3 rfl (oL 0 ts3 rfl (oE (stpU_call (fun i => 1 + i) cf102 (fun w hw => c_s_l1Space fl w a0.s x2 e2) (yA rfl)) rfl ?_)))))
 rintro _ _ ⟨_, ⟨rfl, rfl⟩, rfl⟩
 obtain ⟨y3, ey3, H0⟩ := bS H0
 refine oM rfl (ow_cutY 4 10 y3 ?_ ?_)
 ·rcases Bool.eq_false_or_eq_true x2 with hy3 | hy3
  ·have ey3 := cond_t ey3 hy3
   obtain ⟨x4, e4, ey3⟩ := bS ey3
   refine oG rfl hy3 (fA 1 Tryz.underlying47 rfl ts3 rfl rfl rfl) rfl (oG rfl hy3 (lB 0 ts3 rfl rfl rfl) rfl (ow_eff (.some rfl hy3) (stpU_call (fun i => 1 + i) cf84 (fun w hw => c_s_l1Page fl w a0.p x4 e4) (yA rfl)) rfl ?_))
   rintro _ _ ⟨_, ⟨rfl, rfl⟩, rfl⟩
   refine oD (stp_pick_t rfl hy3 rfl) rfl ?_
   obtain rfl := sI ey3
   exact ow_nil (jy 4 0)
  have ey3 := cond_f ey3 hy3
  refine oO rfl hy3 rfl (oO rfl hy3 rfl (oO rfl hy3 rfl (oD (stp_pick_f rfl hy3 rfl) rfl ?_)))
  obtain rfl := sI ey3
  exact ow_nil (jy 4 0)
 refine oS rfl (nn (cw_ret ?_))
 obtain rfl := sI H0
 exact kr Tryz.results123 (rT rfl) [] ⟨rfl, rfl⟩

theorem c_s_l6Shared (fl : Nat) (w : World) (a0 : K) (r : Bool) (H0 : s_l6Shared fl a0 = some r) :
  Ct Tryz.prog 68 [.agg #[.int .i64 a0.s, .int .i64 a0.p]] w [] (fun rv h' => rv = .bool r ∧ h' = []) := by
 unfold s_l6Shared at H0
 refine ct_of_cw Tryz.func68 rfl Tryz.ntmps68 rfl (Sat.refl _ _) ?_
 refine sr (oE (stpU_box 0 rfl rfl) rfl ?_)
 rintro _ _ ⟨b1, rfl, rfl⟩
 obtain ⟨x2, e2, H0⟩ := bS H0
 obtain ⟨y3, ey3, H0⟩ := bS H0
 refine oS rfl (nn (cw_seq (cw_join (ι := Unit) (fun | _ => True) (fun | _ => [(2, .bool y3)]) (fun | _ => []) ?_ ?_)))
 ·rcases Bool.eq_false_or_eq_true x2 with hy3 | hy3
  ·have ey3 := cond_t ey3 hy3
   obtain ⟨x4, e4, ey3⟩ := bS ey3
   have qy3 := sI ey3
   refine rdq g_mixed [1] [0] { dst := dS [4, 5, 6, 7, 8, 9, 10, 11, 12, 13, 14, 3], pre := gA [] [[], [0], [0, 1], [0, 1, 2], rn 0 4, [0, 1, 2], [0, 1, 2, 5], rn 0 7, [0, 1, 2], rn 0 9, rn 0 10, rn 0 11], ids := fun _ => [], rs := rL [[(1, 0)], [(3, 1)], [(4, 2)], [(1, 0), (5, 3)], [(6, 4), (5, 3)], [(1, 0), (5, 3)], [(8, 6), (5, 3)], [(7, 5), (9, 7), (5, 3)], [(1, 0), (5, 3)], [(10, 8), (11, 9), (5, 3)], [(5, 3), (12, 10)], [(13, 11)]], rh := rL [[(0, 0)], [], [], [], [(0, 0)], [], [(0, 0)], [], [(0, 0)]], V := fun i g => gA undef [.agg #[.int .i64 a0.s, .int .i64 a0.p], .bool x2, .bool x2, .pointer (some ⟨b1, 0, none⟩), .int .i64 a0.s, .pointer (some ⟨b1, 1, none⟩), .int .i64 a0.p, .agg #[.int .i64 x4.s, .int .i64 x4.p], .agg #[.int .i64 a0.s, .int .i64 a0.p], .bool (x4 == a0), .bool y3, .bool y3] i, U := fun _ _ => [], Φ := fun _ _ => True } ?_ ?_
   ·refine ⟨lc rfl rfl fun hs hh => stp_loadN (us := [_, _]) ts47 (sv hs 1 rfl) (Cells.box (id := 0) (hh.get 0 _ rfl) 2 rfl), ?_, lM, lg rfl rfl 5 hy3 fun hs hh => stp_fieldAddr (j := 0) Tryz.underlying47 rfl ts3 rfl (sv hs 1 rfl) rfl, lg rfl rfl 5 hy3 fun hs hh => stp_load1 ts3 (sv hs 6 rfl) (Cells.box (id := 0) (hh.get 0 _ rfl) 1 rfl), lg rfl rfl 5 hy3 fun hs hh => stp_fieldAddr (j := 1) Tryz.underlying47 rfl ts3 rfl (sv hs 1 rfl) rfl, lg rfl rfl 5 hy3 fun hs hh => stp_load1 ts3 (sv hs 8 rfl) (Cells.box (id := 0) (hh.get 0 _ rfl) 1 rfl), ?_, lg rfl rfl 5 hy3 fun hs hh => stp_loadN (us := [_, _]) ts47 (sv hs 1 rfl) (Cells.box (id := 0) (hh.get 0 _ rfl) 2 rfl), lg rfl rfl 5 hy3 fun hs hh => stp_eqlS te47 x4 a0 (sv hs 10 rfl) (sv hs 11 rfl), lc rfl rfl fun hs hh => stp_pick_tB (sv hs 5 rfl) hy3 (sv hs 12 rfl) qy3, lS, trivial⟩
    ·refine le rfl rfl (fun g hΦ s h hs hh => (stpU_call (fun i => 1 + i) cf123 (fun w hw => c_s_KeyValid fl w a0 x2 e2) (yA (sv hs 3 rfl)))) ?_
     rintro g _ _ ⟨_, ⟨rfl, rfl⟩, rfl⟩
     exact ⟨⟨[], [], []⟩, trivial, .inr rfl, rfl⟩
    refine loc_eff rfl rfl (fun g hΦ s h hs hh => ⟨(.some (gval_of rfl (sv hs 5 rfl)) hy3), (stpU_call (fun i => 1 + i) cf65 (fun w hw => c_s_KeyFor fl w a0.s a0.p x4 e4) (yB (sv hs 7 rfl) (sv hs 9 rfl)))⟩) ?_
    rintro g _ _ ⟨_, ⟨rfl, rfl⟩, rfl⟩
    exact ⟨⟨[], [], []⟩, trivial, .inr rfl, rfl⟩
   intro g hΦ
   exact kw_join () trivial ⟨rfl, trivial⟩ trivial
  have ey3 := cond_f ey3 hy3
  have qy3 := sI ey3
  refine rdq g_mixed [1] [0] { dst := dS [4, 5, 6, 7, 8, 9, 10, 11, 12, 13, 14, 3], pre := gA [] [[], [0], [0, 1], [0, 1, 2], rn 0 4, [0, 1, 2], [0, 1, 2, 5], rn 0 7, [0, 1, 2], rn 0 9, rn 0 10, rn 0 11], ids := fun _ => [], rs := rL [[(1, 0)], [(3, 1)], [(4, 2)], [(5, 3)], [(5, 3)], [(5, 3)], [(5, 3)], [(5, 3)], [(5, 3)], [(5, 3)], [(5, 3), (12, 10)], [(13, 11)]], rh := rL [[(0, 0)]], V := fun i g => gA undef [.agg #[.int .i64 a0.s, .int .i64 a0.p], .bool x2, .bool x2, undef, undef, undef, undef, undef, undef, undef, .bool y3, .bool y3] i, U := fun _ _ => [], Φ := fun _ _ => True } ?_ ?_
  ·refine ⟨lc rfl rfl fun hs hh => stp_loadN (us := [_, _]) ts47 (sv hs 1 rfl) (Cells.box (id := 0) (hh.get 0 _ rfl) 2 rfl), ?_, lM, lo rfl rfl 5 hy3, lo rfl rfl 5 hy3, lo rfl rfl 5 hy3, lo rfl rfl 5 hy3, lo rfl rfl 5 hy3, lo rfl rfl 5 hy3, lo rfl rfl 5 hy3, lc rfl rfl fun hs hh => stp_pick_fB (sv hs 5 rfl) hy3 rfl qy3, lS, trivial⟩
   refine le rfl rfl (fun g hΦ s h hs hh => (stpU_call (fun i => 1 + i) cf123 (fun w hw => c_s_KeyValid fl w a0 x2 e2) (yA (sv hs 3 rfl)))) ?_
   rintro g _ _ ⟨_, ⟨rfl, rfl⟩, rfl⟩
   exact ⟨⟨[], [], []⟩, trivial, .inr rfl, rfl⟩
  intro g hΦ
  exact kw_join () trivial ⟨rfl, trivial⟩ trivial
 rintro _ -
 dsimp only
 refine kw_nx (cw_ret ?_)
 obtain rfl := sI H0
 exact kr Tryz.results68 (rT rfl) [] ⟨rfl, rfl⟩

theorem c_s_l3Map (fl : Nat) (w : World) (a0 : T) (a1 : K) (a2 : Int) (a3 : Int) (hn0_0 : n0_0 = (a0.b).length) (hr0_0 : RO w (hkeys []) (RdL p0_0 c0_0 a0.b)) (hn0_1 : n0_1 = (a0.f).length) (hr0_1 : RO w (hkeys []) (RdL p0_1 c0_1 a0.f)) (r : T) (H0 : s_l3Map fl a0 a1 a2 a3 = some r) :
  Ct Tryz.prog 124 [.agg #[.slice p0_0 n0_0 c0_0, .slice p0_1 n0_1 c0_1], .agg #[.int .i64 a1.s, .int .i64 a1.p], .int .i64 a2, .int .i64 a3] w [] (fun rv h' => ∃ (x0 : Option Addr) (y0 z0 : Nat) (C0 : Res) (x1 : Option Addr) (y1 z1 : Nat) (C1 : Res), rv = .agg #[.slice x0 y0 z0, .slice x1 y1 z1] ∧ h' = [(0, C0), (1, C1)] ∧ y0 = (r.b).length ∧ OwnC 3 x0 z0 r.b C0 ∧ y1 = (r.f).length ∧ OwnC 58 x1 z1 r.f C1) := by
 subst hn0_0 hn0_1
 unfold s_l3Map at H0
 refine ct_of_cw Tryz.func124 rfl Tryz.ntmps124 rfl (Sat.refl _ _) ?_
 refine sr (oE (stpU_box 0 rfl rfl) rfl ?_)
 rintro _ _ ⟨b1, rfl, rfl⟩
 refine oE (stpU_box 1 rfl rfl) rfl ?_
 rintro _ _ ⟨b2, rfl, rfl⟩
 refine oE (stpU_alloc 2 tz26 rfl) rfl ?_
 rintro _ _ ⟨b3, rfl, rfl⟩
 obtain ⟨x4, e4, H0⟩ := bS H0
 refine nn (sr (oB2 0 ts26 rfl (oE (stpU_call (fun i => 3 + i) cf108 (fun w hw => c_s_l3Copy fl w a0 rfl (RO.pass hr0_0 hw) rfl (RO.pass hr0_1 hw) x4 e4) (yA rfl)) rfl ?_)))
 rintro _ _ ⟨_, ⟨p5, _, c7, C8, p9, _, c11, C12, rfl, rfl, rfl, o8, rfl, o12⟩, rfl⟩
 refine oE (stpU_alloc 5 tz26 rfl) rfl ?_
 rintro _ _ ⟨b13, rfl, rfl⟩
 obtain ⟨x14, e14, H0⟩ := bS H0
 refine oC2 5 ts26 rfl rfl (nn (sr (oB2 1 ts47 rfl (oA 0 Tryz.underlying26 rfl ts23 rfl (oL 0 ts23 rfl (oD (stp_len Tryz.underlying23 rfl) rfl (oE (stpU_call (fun i => 6 + i) cf137 (fun w hw => c_s_l2Hash fl w a1 ((a0.b).length : Int) x14 e14) (yB rfl rfl)) rfl ?_)))))))
 rintro _ _ ⟨_, ⟨rfl, rfl⟩, rfl⟩
 obtain ⟨x15, e15, H0⟩ := bS H0
 obtain ⟨x16, e16, H0⟩ := bS H0
 refine oS rfl (nn (cw_seq (rdq g_mixed [2, 3, 5, 9, 10] [1, 3, 4, 5] { dst := dS [19, 20, 21, 22, 23, 24, 25, 26, 27, 28, 29, 30, 0], pre := gA [] [[], [0], [], [], [], [], [5], [], [5, 6, 7], rn 5 4, rn 3 7, rn 0 11, rn 0 12], ids := fun i => match i with | 12 => [4] | _ => [], rs := rL [[(9, 0)], [(18, 1)], [(2, 0)], [(5, 0)], [(3, 0)], [(9, 0)], [(23, 6)], [(10, 0)], [(24, 7), (25, 8)], [(26, 9)], [(21, 4), (22, 5), (27, 10)], [(19, 2), (20, 3)], [(29, 12), (28, 11)]], rh := rL [[], [(5, 0)], [], [(1, 0)], [], [], [(5, 0)], [], [(3, 0)], [(3, 0)], [], [(4, 0)], [(4, 0)]], V := fun i g => gA undef [.pointer (some ⟨b13, 1, none⟩), .slice p9 ((x4.f).length) c11, .int .i64 a2, .agg #[.int .i64 a1.s, .int .i64 a1.p], .int .i64 a3, .pointer (some ⟨b13, 0, none⟩), .slice p5 ((x4.b).length) c7, .int .i64 x14, .pointer (some ⟨eB p5, eO p5 + Int.toNat x14 * Enc.sz Int + 0, none⟩), .int .i64 x15, .agg #[.bool true, .int .i64 a1.s, .int .i64 a1.p, .int .i64 a3, .int .i64 x15], .pointer (some ⟨eB p9, eO p9 + Int.toNat a2 * Enc.sz F + 0, none⟩)] i, U := fun i g => match i with | 12 => [(4, ((g 12).R 0))] | _ => [], Φ := fun i x => match i with | 12 => OwnC (α := F) 58 p9 c11 (x4.f.set (Int.toNat a2) (⟨true, a1, a3, x15⟩ : F)) (x.R 0) | _ => True } ?_ ?_)))
 ·refine ⟨lc rfl rfl fun hs hh => stp_fieldAddr (j := 1) Tryz.underlying26 rfl ts24 rfl (sv hs 9 rfl) rfl, lc rfl rfl fun hs hh => stp_load1 ts24 (sv hs 18 rfl) (Cells.box (id := 5) (hh.get 5 _ rfl) 1 rfl), lM, lc rfl rfl fun hs hh => stp_loadN (us := [_, _]) ts47 (sv hs 5 rfl) (Cells.box (id := 1) (hh.get 1 _ rfl) 2 rfl), lM, lc rfl rfl fun hs hh => stp_fieldAddr (j := 0) Tryz.underlying26 rfl ts23 rfl (sv hs 9 rfl) rfl, lc rfl rfl fun hs hh => stp_load1 ts23 (sv hs 23 rfl) (Cells.box (id := 5) (hh.get 5 _ rfl) 1 rfl), lM, lc rfl rfl fun hs hh => stp_indexAddr Tryz.underlying23 ts3 (by decide) (sv hs 24 rfl) rfl (sv hs 25 rfl) (Rdb.own (id := 3) (hh.get 3 _ rfl) o8) e15, lc rfl rfl fun hs hh => stp_load1 ts3 (sv hs 26 rfl) (Cells.el (Rdb.own (id := 3) (hh.get 3 _ rfl) o8) (by decide) e15 0 1 rfl), lc rfl rfl fun hs hh => stp_build (cs := #[.bool true, .int .i64 a1.s, .int .i64 a1.p, .int .i64 a3, .int .i64 x15]) (sevp_cons rfl (sevp_cons (sv hs 21 rfl) (sevp_cons (sv hs 22 rfl) (sevp_cons (sv hs 27 rfl) sevp_nil)))) bt58_17, lc rfl rfl fun hs hh => stp_indexAddr Tryz.underlying24 ts58 (by decide) (sv hs 19 rfl) rfl (sv hs 20 rfl) (Rdb.own (id := 4) (hh.get 4 _ rfl) o12) e16, ?_, trivial⟩
  refine le rfl rfl (fun g hΦ s h hs hh => (stpU_storeEl (id := 4) (i := 0) (⟨true, a1, a3, x15⟩ : F) (by decide) ts58 (sv hs 29 rfl) (sv hs 28 rfl) (hh.get 4 _ rfl) o12 e16 rfl rfl rfl rfl)) ?_
  rintro g _ _ ⟨C17, rfl, o17⟩
  exact ⟨⟨[], [], [C17]⟩, o17, .inl rfl, rfl⟩
 intro g hΦ
 refine kw_gen (ι := Res) ((g 12).R 0) (fun | C17 => OwnC (α := F) 58 p9 c11 (x4.f.set (Int.toNat a2) (⟨true, a1, a3, x15⟩ : F)) C17) (fun | C17 => [(2, .int .i64 a2), (8, .pointer (some ⟨b3, 0, none⟩)), (9, .pointer (some ⟨b13, 0, none⟩)), (10, .int .i64 x14)]) (fun | C17 => [(2, [(b3, .cells #[.slice none 0 0, .slice none 0 0] 26 (0, 0))]), (3, C8), (4, C17), (5, [(b13, .cells #[.slice p5 ((x4.b).length) c7, .slice p9 ((x4.f).length) c11] 26 (0, 0))])]) (hΦ 12 (by decide)) ⟨rfl, rfl, rfl, rfl, trivial⟩ ⟨rfl, rfl, rfl, rfl, trivial⟩ ?_
 rintro C17 o17
 have o17 : OwnC (α := F) 58 p9 c11 (x4.f.set (Int.toNat a2) (⟨true, a1, a3, x15⟩ : F)) C17 := o17
 dsimp only
 refine kw_nx (sr (oA 0 Tryz.underlying26 rfl ts23 rfl (oL 5 ts23 rfl (oM rfl (oM rfl (oD (stp_indexAddr Tryz.underlying23 ts3 (by decide) rfl rfl rfl (Rdb.own (id := 3) rfl o8) e15) rfl (oF (stpU_storeEl (id := 3) (i := 0) a2 (by decide) ts3 rfl rfl rfl o8 e15 rfl rfl rfl rfl) ?_)))))))
 rintro _ _ ⟨C18, rfl, o18⟩
 refine nn (sr (oB2 5 ts26 rfl (oC2 2 ts26 rfl rfl (nn (cw_ret ?_)))))
 obtain rfl := sI H0
 exact kr Tryz.results124 (rC2 2 ts26 rfl rfl) [3, 4] ⟨_, _, _, _, _, _, _, _, rfl, rfl, (by simp), o18, (by simp), o17⟩

theorem c_s_MapPage (fl : Nat) (w : World) (a0 : T) (a1 : K) (a2 : Int) (a3 : Int) (hn0_0 : n0_0 = (a0.b).length) (hr0_0 : RO w (hkeys []) (RdL p0_0 c0_0 a0.b)) (hn0_1 : n0_1 = (a0.f).length) (hr0_1 : RO w (hkeys []) (RdL p0_1 c0_1 a0.f)) (r : T × Bool) (H0 : s_MapPage fl a0 a1 a2 a3 = some r) :
  Ct Tryz.prog 69 [.agg #[.slice p0_0 n0_0 c0_0, .slice p0_1 n0_1 c0_1], .agg #[.int .i64 a1.s, .int .i64 a1.p], .int .i64 a2, .int .i64 a3] w [] (fun rv h' => ∃ (x0 : Option Addr) (y0 z0 : Nat) (C0 : Res) (x1 : Option Addr) (y1 z1 : Nat) (C1 : Res), rv = .tuple #[.agg #[.slice x0 y0 z0, .slice x1 y1 z1], .bool r.2] ∧ h' = [(0, C0), (1, C1)] ∧ y0 = (r.1.b).length ∧ OwnC 3 x0 z0 r.1.b C0 ∧ y1 = (r.1.f).length ∧ OwnC 58 x1 z1 r.1.f C1) := by
 subst hn0_0 hn0_1
 unfold s_MapPage at H0
 refine ct_of_cw Tryz.func69 rfl Tryz.ntmps69 rfl (Sat.refl _ _) ?_
 refine sr (oE (stpU_box 0 rfl rfl) rfl ?_)
 rintro _ _ ⟨b1, rfl, rfl⟩
 refine oE (stpU_box 1 rfl rfl) rfl ?_
 rintro _ _ ⟨b2, rfl, rfl⟩
 refine oE (stpU_alloc 2 tz26 rfl) rfl ?_
 rintro _ _ ⟨b3, rfl, rfl⟩
 obtain ⟨x4, e4, H0⟩ := bS H0
 refine oS rfl (nn (cw_seq (sr (oB2 0 ts26 rfl (oE (stpU_call (fun i => 3 + i) cf105 (fun w hw => c_s_TableValid fl w a0 rfl (RO.pass hr0_0 hw) rfl (RO.pass hr0_1 hw) x4 e4) (yA rfl)) rfl ?_)))))
 rintro _ _ ⟨_, ⟨rfl, rfl⟩, rfl⟩
 obtain ⟨y5, ey5, H0⟩ := bS H0
 refine oK rfl (oM rfl (ow_cutY 4 19 y5 ?_ ?_))
 ·rcases Bool.eq_false_or_eq_true (!x4) with hy5 | hy5
  ·have ey5 := cond_t ey5 hy5
   refine oO rfl hy5 rfl (oO rfl hy5 rfl (oO rfl hy5 rfl (oD (stp_pick_t rfl hy5 rfl) rfl ?_)))
   obtain rfl := sI ey5
   exact ow_nil (jy 4 0)
  have ey5 := cond_f ey5 hy5
  obtain ⟨x6, e6, ey5⟩ := bS ey5
  refine oG rfl hy5 (stp_loadN (us := [_, _]) ts47 rfl (Cells.box (id := 1) rfl 2 rfl)) rfl (ow_eff (.some rfl hy5) (stpU_call (fun i => 3 + i) cf123 (fun w hw => c_s_KeyValid fl w a1 x6 e6) (yA rfl)) rfl ?_)
  rintro _ _ ⟨_, ⟨rfl, rfl⟩, rfl⟩
  refine oG rfl hy5 (stp_not rfl) rfl (oD (stp_pick_f rfl hy5 rfl) rfl ?_)
  obtain rfl := sI ey5
  exact ow_nil (jy 4 0)
 obtain ⟨y7, ey7, H0⟩ := bS H0
 refine oM rfl (ow_cutY 4 24 y7 ?_ ?_)
 ·rcases Bool.eq_false_or_eq_true y5 with hy7 | hy7
  ·have ey7 := cond_t ey7 hy7
   refine oO rfl hy7 rfl (oO rfl hy7 rfl (oO rfl hy7 rfl (oD (stp_pick_t rfl hy7 rfl) rfl ?_)))
   obtain rfl := sI ey7
   exact ow_nil (jy 4 0)
  have ey7 := cond_f ey7 hy7
  obtain ⟨x8, e8, ey7⟩ := bS ey7
  refine oG rfl hy7 (mv rfl) rfl (ow_eff (.some rfl hy7) (stpU_call (fun i => 3 + i) cf85 (fun w hw => c_s_RightsValid fl w a3 x8 e8) (yA rfl)) rfl ?_)
  rintro _ _ ⟨_, ⟨rfl, rfl⟩, rfl⟩
  refine oG rfl hy7 (stp_not rfl) rfl (oD (stp_pick_f rfl hy7 rfl) rfl ?_)
  obtain rfl := sI ey7
  exact ow_nil (jy 4 0)
 obtain ⟨y9, ey9, H0⟩ := bS H0
 refine oM rfl (ow_cutY 3 28 y9 ?_ ?_)
 ·rcases Bool.eq_false_or_eq_true y7 with hy9 | hy9
  ·have ey9 := cond_t ey9 hy9
   refine oO rfl hy9 rfl (oO rfl hy9 rfl (oD (stp_pick_t rfl hy9 rfl) rfl ?_))
   obtain rfl := sI ey9
   exact ow_nil (jy 3 0)
  have ey9 := cond_f ey9 hy9
  refine oG rfl hy9 (mv rfl) rfl (oG rfl hy9 (stp_lss rfl rfl) rfl (oD (stp_pick_f rfl hy9 rfl) rfl ?_))
  obtain rfl := sI ey9
  exact ow_nil (jy 3 0)
 obtain ⟨y10, ey10, H0⟩ := bS H0
 refine oM rfl (ow_cutY 6 35 y10 ?_ ?_)
 ·rcases Bool.eq_false_or_eq_true y9 with hy10 | hy10
  ·have ey10 := cond_t ey10 hy10
   refine oO rfl hy10 rfl (oO rfl hy10 rfl (oO rfl hy10 rfl (oO rfl hy10 rfl (oO rfl hy10 rfl (oD (stp_pick_t rfl hy10 rfl) rfl ?_)))))
   obtain rfl := sI ey10
   exact ow_nil (jy 6 0)
  have ey10 := cond_f ey10 hy10
  refine oG rfl hy10 (mv rfl) rfl (oG rfl hy10 (fA 1 Tryz.underlying26 rfl ts24 rfl rfl rfl) rfl (oG rfl hy10 (lB 0 ts24 rfl rfl rfl) rfl (oG rfl hy10 (stp_len Tryz.underlying24 rfl) rfl (oG rfl hy10 (stp_geq rfl rfl) rfl (oD (stp_pick_f rfl hy10 rfl) rfl ?_)))))
  obtain rfl := sI ey10
  exact ow_nil (jy 6 0)
 obtain ⟨y11, ey11, H0⟩ := bS H0
 refine oM rfl (ow_cutY 7 43 y11 ?_ ?_)
 ·rcases Bool.eq_false_or_eq_true y10 with hy11 | hy11
  ·have ey11 := cond_t ey11 hy11
   refine oO rfl hy11 rfl (oO rfl hy11 rfl (oO rfl hy11 rfl (oO rfl hy11 rfl (oO rfl hy11 rfl (oO rfl hy11 rfl (oD (stp_pick_t rfl hy11 rfl) rfl ?_))))))
   obtain rfl := sI ey11
   exact ow_nil (jy 7 0)
  have ey11 := cond_f ey11 hy11
  obtain ⟨x12, e12, ey11⟩ := bS ey11
  refine oG rfl hy11 (fA 1 Tryz.underlying26 rfl ts24 rfl rfl rfl) rfl (oG rfl hy11 (lB 0 ts24 rfl rfl rfl) rfl (oG rfl hy11 (mv rfl) rfl (oG rfl hy11 (stp_indexAddr Tryz.underlying24 ts58 (by decide) rfl rfl rfl (Rdb.ro hr0_1) e12) rfl (oG rfl hy11 (fA 0 Tryz.underlying58 rfl ts4 rfl rfl rfl) rfl (oG rfl hy11 (stp_load1 ts4 rfl (Cells.el (Rdb.ro hr0_1) (by decide) e12 0 1 rfl)) rfl (oD (stp_pick_f rfl hy11 rfl) rfl ?_))))))
  obtain rfl := sI ey11
  exact ow_nil (jy 7 0)
 refine ow_nil (kw_nx (cw_cond rfl (fun h13 => ?_) (fun h13 => ?_)))
 ·have H0 := cond_t H0 h13
  refine sr (oD (stp_build (cs := #[.slice none 0 0, .slice none 0 0]) sevp_nil bt26_0) rfl (oC2 2 ts26 rfl rfl (oS rfl (nn (cw_ret (kw_nx_ret (kw_addNil 3 (kw_addNil 4 ?_))))))))
  obtain rfl := sI H0
  exact kr Tryz.results69 (.cons (.cellN (us := [_, _]) ts26 rfl (Cells.box (id := 2) rfl 2 rfl)) (rT rfl)) [3, 4] ⟨_, _, _, _, _, _, _, _, rfl, rfl, rfl, (OwnC.nil _ _), rfl, (OwnC.nil _ _)⟩
 have H0 := cond_f H0 h13
 obtain ⟨x14, e14, H0⟩ := bS H0
 refine cw_skip (kw_nx (sr (oB2 0 ts26 rfl (oB2 1 ts47 rfl (oE (stpU_call (fun i => 5 + i) cf88 (fun w hw => c_s_l3Find fl w a0 a1 rfl (RO.pass hr0_0 hw) rfl (RO.pass hr0_1 hw) x14 e14) (yB rfl rfl)) rfl ?_)))))
 rintro _ _ ⟨_, ⟨rfl, rfl⟩, rfl⟩
 refine oM rfl (oT rfl (oT rfl (oS rfl (oS rfl (nn (cw_seq (sr (oM rfl (oI rfl (nn (cw_cond rfl (fun h15 => ?_) (fun h15 => ?_))))))))))))
 ·have H0 := cond_t H0 h15
  refine sr (oD (stp_build (cs := #[.slice none 0 0, .slice none 0 0]) sevp_nil bt26_0) rfl (oC2 2 ts26 rfl rfl (oS rfl (nn (cw_ret (kw_nx_ret (kw_addNil 5 (kw_addNil 6 ?_))))))))
  obtain rfl := sI H0
  exact kr Tryz.results69 (.cons (.cellN (us := [_, _]) ts26 rfl (Cells.box (id := 2) rfl 2 rfl)) (rT rfl)) [5, 6] ⟨_, _, _, _, _, _, _, _, rfl, rfl, rfl, (OwnC.nil _ _), rfl, (OwnC.nil _ _)⟩
 have H0 := cond_f H0 h15
 obtain ⟨x16, e16, H0⟩ := bS H0
 refine cw_skip (kw_nx (sr (oB2 0 ts26 rfl (oB2 1 ts47 rfl (oM rfl (oM rfl (oE (stpU_call (fun i => 7 + i) cf124 (fun w hw => c_s_l3Map fl w a0 a1 a2 a3 rfl (RO.pass hr0_0 hw) rfl (RO.pass hr0_1 hw) x16 e16) (yD rfl rfl rfl rfl)) rfl ?_)))))))
 rintro _ _ ⟨_, ⟨p17, _, c19, C20, p21, _, c23, C24, rfl, rfl, rfl, o20, rfl, o24⟩, rfl⟩
 refine oC2 2 ts26 rfl rfl (oS rfl (nn (cw_ret ?_)))
 obtain rfl := sI H0
 exact kr Tryz.results69 (.cons (.cellN (us := [_, _]) ts26 rfl (Cells.box (id := 2) rfl 2 rfl)) (rT rfl)) [7, 8] ⟨_, _, _, _, _, _, _, _, rfl, rfl, rfl, o20, rfl, o24⟩

theorem c_s_PutPage (fl : Nat) (w : World) (a0 : Mc) (a1 : K) (a2 : Int) (a3 : Int) (hn0_0 : n0_0 = (a0.t.b).length) (hr0_0 : RO w (hkeys []) (RdL p0_0 c0_0 a0.t.b)) (hn0_1 : n0_1 = (a0.t.f).length) (hr0_1 : RO w (hkeys []) (RdL p0_1 c0_1 a0.t.f)) (hn0_2 : n0_2 = (a0.c.l).length) (hr0_2 : RO w (hkeys []) (RdL p0_2 c0_2 a0.c.l)) (hn0_3 : n0_3 = (a0.g.o).length) (hr0_3 : RO w (hkeys []) (RdL p0_3 c0_3 a0.g.o)) (r : Mc × Bool) (H0 : s_PutPage fl a0 a1 a2 a3 = some r) :
  Ct Tryz.prog 24 [.agg #[.slice p0_0 n0_0 c0_0, .slice p0_1 n0_1 c0_1, .slice p0_2 n0_2 c0_2, .int .i64 a0.c.h, .int .i64 a0.g.c, .int .i64 a0.g.n, .int .i64 a0.g.r, .slice p0_3 n0_3 c0_3, .int .i64 a0.s], .agg #[.int .i64 a1.s, .int .i64 a1.p], .int .i64 a2, .int .i64 a3] w [] (fun rv h' => ∃ (x0 : Option Addr) (y0 z0 : Nat) (C0 : Res) (x1 : Option Addr) (y1 z1 : Nat) (C1 : Res) (x2 : Option Addr) (y2 z2 : Nat) (C2 : Res) (x3 : Option Addr) (y3 z3 : Nat) (C3 : Res), rv = .tuple #[.agg #[.slice x0 y0 z0, .slice x1 y1 z1, .slice x2 y2 z2, .int .i64 r.1.c.h, .int .i64 r.1.g.c, .int .i64 r.1.g.n, .int .i64 r.1.g.r, .slice x3 y3 z3, .int .i64 r.1.s], .bool r.2] ∧ h' = [(0, C0), (1, C1), (2, C2), (3, C3)] ∧ y0 = (r.1.t.b).length ∧ OwnC 3 x0 z0 r.1.t.b C0 ∧ y1 = (r.1.t.f).length ∧ OwnC 58 x1 z1 r.1.t.f C1 ∧ y2 = (r.1.c.l).length ∧ OwnC 41 x2 z2 r.1.c.l C2 ∧ y3 = (r.1.g.o).length ∧ OwnC 118 x3 z3 r.1.g.o C3) := by
 subst hn0_0 hn0_1 hn0_2 hn0_3
 unfold s_PutPage at H0
 refine ct_of_cw Tryz.func24 rfl Tryz.ntmps24 rfl (Sat.refl _ _) ?_
 refine sr (oE (stpU_box 0 rfl rfl) rfl ?_)
 rintro _ _ ⟨b1, rfl, rfl⟩
 refine oE (stpU_box 1 rfl rfl) rfl ?_
 rintro _ _ ⟨b2, rfl, rfl⟩
 refine oE (stpU_alloc 2 tz34 rfl) rfl ?_
 rintro _ _ ⟨b3, rfl, rfl⟩
 obtain ⟨x4, e4, H0⟩ := bS H0
 refine oS rfl (nn (cw_seq (sr (oB9 0 ts34 rfl (oE (stpU_call (fun i => 3 + i) cf51 (fun w hw => c_s_MachineValid fl w a0 rfl (RO.pass hr0_0 hw) rfl (RO.pass hr0_1 hw) rfl (RO.pass hr0_2 hw) rfl (RO.pass hr0_3 hw) x4 e4) (yA rfl)) rfl ?_)))))
 rintro _ _ ⟨_, ⟨rfl, rfl⟩, rfl⟩
 obtain ⟨y5, ey5, H0⟩ := bS H0
 refine oK rfl (oM rfl (ow_cutY 4 20 y5 ?_ ?_))
 ·rcases Bool.eq_false_or_eq_true (!x4) with hy5 | hy5
  ·have ey5 := cond_t ey5 hy5
   refine oO rfl hy5 rfl (oO rfl hy5 rfl (oO rfl hy5 rfl (oD (stp_pick_t rfl hy5 rfl) rfl ?_)))
   obtain rfl := sI ey5
   exact ow_nil (jy 4 0)
  have ey5 := cond_f ey5 hy5
  obtain ⟨x6, e6, ey5⟩ := bS ey5
  refine oG rfl hy5 (stp_loadN (us := [_, _]) ts47 rfl (Cells.box (id := 1) rfl 2 rfl)) rfl (ow_eff (.some rfl hy5) (stpU_call (fun i => 3 + i) cf68 (fun w hw => c_s_l6Shared fl w a1 x6 e6) (yA rfl)) rfl ?_)
  rintro _ _ ⟨_, ⟨rfl, rfl⟩, rfl⟩
  refine oG rfl hy5 (stp_not rfl) rfl (oD (stp_pick_f rfl hy5 rfl) rfl ?_)
  obtain rfl := sI ey5
  exact ow_nil (jy 4 0)
 refine ow_nil (kw_nx (cw_cond rfl (fun h7 => ?_) (fun h7 => ?_)))
 ·have H0 := cond_t H0 h7
  refine sr (oD (stp_build (cs := #[.slice none 0 0, .slice none 0 0, .slice none 0 0, .int .i64 0, .int .i64 0, .int .i64 0, .int .i64 0, .slice none 0 0, .int .i64 0]) sevp_nil bt34_6) rfl (oC9 2 ts34 rfl rfl (oS rfl (nn (cw_ret (kw_nx_ret (kw_addNil 3 (kw_addNil 4 (kw_addNil 5 (kw_addNil 6 ?_))))))))))
  obtain rfl := sI H0
  exact kr Tryz.results24 (.cons (.cellN (us := [_, _, _, _, _, _, _, _, _]) ts34 rfl (Cells.box (id := 2) rfl 9 rfl)) (rT rfl)) [3, 4, 5, 6] ⟨_, _, _, _, _, _, _, _, _, _, _, _, _, _, _, _, rfl, rfl, rfl, (OwnC.nil _ _), rfl, (OwnC.nil _ _), rfl, (OwnC.nil _ _), rfl, (OwnC.nil _ _)⟩
 have H0 := cond_f H0 h7
 obtain ⟨x8, e8, H0⟩ := bS H0
 refine cw_skip (kw_nx (sr (oA 0 Tryz.underlying34 rfl ts26 rfl (oB2 0 ts26 rfl (oB2 1 ts47 rfl (oM rfl (oM rfl (oE (stpU_call (fun i => 7 + i) cf69 (fun w hw => c_s_MapPage fl w a0.t a1 a2 a3 rfl (RO.pass hr0_0 hw) rfl (RO.pass hr0_1 hw) x8 e8) (yD rfl rfl rfl rfl)) rfl ?_))))))))
 rintro _ _ ⟨_, ⟨p9, _, c11, C12, p13, _, c15, C16, rfl, rfl, rfl, o12, rfl, o16⟩, rfl⟩
 refine oM rfl (oT rfl (oT rfl (oE (stpU_alloc 9 tz26 rfl) rfl ?_)))
 rintro _ _ ⟨b17, rfl, rfl⟩
 refine oC2 9 ts26 rfl rfl (oS rfl (nn (cw_seq (sr (oM rfl (oK rfl (nn (cw_cond rfl (fun h18 => ?_) (fun h18 => ?_)))))))))
 ·have H0 := cond_t H0 h18
  refine sr (oD (stp_build (cs := #[.slice none 0 0, .slice none 0 0, .slice none 0 0, .int .i64 0, .int .i64 0, .int .i64 0, .int .i64 0, .slice none 0 0, .int .i64 0]) sevp_nil bt34_6) rfl (oC9 2 ts34 rfl rfl (oS rfl (nn (cw_ret (kw_nx_ret (kw_addNil 10 (kw_addNil 11 (kw_addNil 12 (kw_addNil 13 ?_))))))))))
  obtain rfl := sI H0
  exact kr Tryz.results24 (.cons (.cellN (us := [_, _, _, _, _, _, _, _, _]) ts34 rfl (Cells.box (id := 2) rfl 9 rfl)) (rT rfl)) [10, 11, 12, 13] ⟨_, _, _, _, _, _, _, _, _, _, _, _, _, _, _, _, rfl, rfl, rfl, (OwnC.nil _ _), rfl, (OwnC.nil _ _), rfl, (OwnC.nil _ _), rfl, (OwnC.nil _ _)⟩
 have H0 := cond_f H0 h18
 obtain ⟨x19, e19, H0⟩ := bS H0
 refine cw_skip (kw_nx (sr (oB9 0 ts34 rfl (oE (stpU_call (fun i => 14 + i) cf52 (fun w hw => c_s_l6Copy fl w a0 rfl (RO.pass hr0_0 hw) rfl (RO.pass hr0_1 hw) rfl (RO.pass hr0_2 hw) rfl (RO.pass hr0_3 hw) x19 e19) (yA rfl)) rfl ?_))))
 rintro _ _ ⟨_, ⟨p20, _, c22, C23, p24, _, c26, C27, p28, _, c30, C31, p32, _, c34, C35, rfl, rfl, rfl, o23, rfl, o27, rfl, o31, rfl, o35⟩, rfl⟩
 refine oE (stpU_alloc 18 tz34 rfl) rfl ?_
 rintro _ _ ⟨b36, rfl, rfl⟩
 refine oC9 18 ts34 rfl rfl (nn (sr (oB2 9 ts26 rfl (oA 0 Tryz.underlying34 rfl ts26 rfl (oC9 18 ts26 rfl rfl (nn (sr (oB9 18 ts34 rfl (oC9 2 ts34 rfl rfl (oS rfl (nn (cw_ret ?_))))))))))))
 obtain rfl := sI H0
 exact kr Tryz.results24 (.cons (.cellN (us := [_, _, _, _, _, _, _, _, _]) ts34 rfl (Cells.box (id := 2) rfl 9 rfl)) (rT rfl)) [7, 8, 16, 17] ⟨_, _, _, _, _, _, _, _, _, _, _, _, _, _, _, _, rfl, rfl, rfl, o12, rfl, o16, rfl, o31, rfl, o35⟩

theorem c_s_l6Tag (fl : Nat) (w : World) (a0 : Mc) (a1 : Int) (a2 : Int) (hn0_0 : n0_0 = (a0.t.b).length) (hr0_0 : RO w (hkeys []) (RdL p0_0 c0_0 a0.t.b)) (hn0_1 : n0_1 = (a0.t.f).length) (hr0_1 : RO w (hkeys []) (RdL p0_1 c0_1 a0.t.f)) (hn0_2 : n0_2 = (a0.c.l).length) (hr0_2 : RO w (hkeys []) (RdL p0_2 c0_2 a0.c.l)) (hn0_3 : n0_3 = (a0.g.o).length) (hr0_3 : RO w (hkeys []) (RdL p0_3 c0_3 a0.g.o)) (r : Int × Bool) (H0 : s_l6Tag fl a0 a1 a2 = some r) :
  Ct Tryz.prog 86 [.agg #[.slice p0_0 n0_0 c0_0, .slice p0_1 n0_1 c0_1, .slice p0_2 n0_2 c0_2, .int .i64 a0.c.h, .int .i64 a0.g.c, .int .i64 a0.g.n, .int .i64 a0.g.r, .slice p0_3 n0_3 c0_3, .int .i64 a0.s], .int .i64 a1, .int .i64 a2] w [] (fun rv h' => rv = .tuple #[.int .i64 r.1, .bool r.2] ∧ h' = []) := by
 subst hn0_0 hn0_1 hn0_2 hn0_3
 unfold s_l6Tag at H0
 refine ct_of_cw Tryz.func86 rfl Tryz.ntmps86 rfl (Sat.refl _ _) ?_
 refine sr (oE (stpU_box 0 rfl rfl) rfl ?_)
 rintro _ _ ⟨b1, rfl, rfl⟩
 refine oS rfl (oS rfl (nn (cw_seq (sr (oM rfl (oI rfl (nn (cw_cond rfl (fun h2 => ?_) (fun h2 => ?_)))))))))
 ·have H0 := cond_t H0 h2
  refine sr (oS rfl (oS rfl (nn (cw_ret (kw_nx_ret ?_)))))
  obtain rfl := sI H0
  exact kr Tryz.results86 (.cons (.tmp rfl) (rT rfl)) [] ⟨rfl, rfl⟩
 have H0 := cond_f H0 h2
 obtain ⟨x3, e3, H0⟩ := bS H0
 refine cw_skip (kw_nx (sr (oA 4 Tryz.underlying34 rfl ts32 rfl (oB4 0 ts32 rfl (oM rfl (oE (stpU_call (fun i => 1 + i) cf104 (fun w hw => c_s_l5Find fl w a0.g a1 rfl (RO.pass hr0_3 hw) x3 e3) (yB rfl rfl)) rfl ?_))))))
 rintro _ _ ⟨_, ⟨rfl, rfl⟩, rfl⟩
 refine oS rfl (nn (cw_seq (sr (oM rfl (oW rfl (nn (cw_cond rfl (fun h4 => ?_) (fun h4 => ?_))))))))
 ·have H0 := cond_t H0 h4
  refine sr (oS rfl (oS rfl (nn (cw_ret (kw_nx_ret ?_)))))
  obtain rfl := sI H0
  exact kr Tryz.results86 (.cons (.tmp rfl) (rT rfl)) [] ⟨rfl, rfl⟩
 have H0 := cond_f H0 h4
 obtain ⟨x5, e5, H0⟩ := bS H0
 refine cw_skip (kw_nx (sr (oA 4 Tryz.underlying34 rfl ts32 rfl (oA 3 Tryz.underlying32 rfl ts30 rfl (oL 0 ts30 rfl (oM rfl (oD (stp_indexAddr Tryz.underlying30 ts118 (by decide) rfl rfl rfl (Rdb.ro hr0_3) e5) rfl (oA 1 Tryz.underlying118 rfl ts3 rfl (oD (stp_load1 ts3 rfl (Cells.el (Rdb.ro hr0_3) (by decide) e5 1 1 rfl)) rfl (oS rfl (oS rfl (nn (cw_ret ?_)))))))))))))
 obtain rfl := sI H0
 exact kr Tryz.results86 (.cons (.tmp rfl) (rT rfl)) [] ⟨rfl, rfl⟩

theorem c_s_l4Fits (fl : Nat) (w : World) (a0 : Ln) (a1 : Int) (a2 : Int) (r : Bool) (H0 : s_l4Fits fl a0 a1 a2 = some r) :
  Ct Tryz.prog 135 [.agg #[.bool a0.va, .int .i64 a0.tg, .int .i64 a0.pg, .int .i64 a0.fr, .int .i64 a0.ri, .bool a0.wi], .int .i64 a1, .int .i64 a2] w [] (fun rv h' => rv = .bool r ∧ h' = []) := by
 unfold s_l4Fits at H0
 refine ct_of_cw Tryz.func135 rfl Tryz.ntmps135 rfl (Sat.refl _ _) ?_
 refine sr (oE (stpU_box 0 rfl rfl) rfl ?_)
 rintro _ _ ⟨b1, rfl, rfl⟩
 obtain ⟨y2, ey2, H0⟩ := bS H0
 refine oS rfl (nn (sr (oA 0 Tryz.underlying41 rfl ts4 rfl (oL 0 ts4 rfl (oM rfl (ow_cutY 5 14 y2 ?_ ?_))))))
 ·rcases Bool.eq_false_or_eq_true a0.va with hy2 | hy2
  ·have ey2 := cond_t ey2 hy2
   refine oG rfl hy2 (fA 2 Tryz.underlying41 rfl ts3 rfl rfl rfl) rfl (oG rfl hy2 (lB 0 ts3 rfl rfl rfl) rfl (oG rfl hy2 (mv rfl) rfl (oG rfl hy2 (stp_eql rfl rfl) rfl (oD (stp_pick_t rfl hy2 rfl) rfl ?_))))
   obtain rfl := sI ey2
   exact ow_nil (jy 5 0)
  have ey2 := cond_f ey2 hy2
  refine oO rfl hy2 rfl (oO rfl hy2 rfl (oO rfl hy2 rfl (oO rfl hy2 rfl (oD (stp_pick_f rfl hy2 rfl) rfl ?_))))
  obtain rfl := sI ey2
  exact ow_nil (jy 5 0)
 obtain ⟨y3, ey3, H0⟩ := bS H0
 refine oM rfl (ow_cutY 10 25 y3 ?_ ?_)
 ·rcases Bool.eq_false_or_eq_true y2 with hy3 | hy3
  ·have ey3 := cond_t ey3 hy3
   obtain ⟨y4, ey4, ey3⟩ := bS ey3
   refine oG rfl hy3 (fA 1 Tryz.underlying41 rfl ts3 rfl rfl rfl) rfl (oG rfl hy3 (lB 0 ts3 rfl rfl rfl) rfl (oG rfl hy3 (mv rfl) rfl (oG rfl hy3 (stp_eql rfl rfl) rfl (oG rfl hy3 (mv rfl) rfl (ow_cutY 4 24 y4 ?_ ?_)))))
   ·rcases Bool.eq_false_or_eq_true (a0.tg == a1) with hy4 | hy4
    ·have ey4 := cond_t ey4 hy4
     refine oO rfl hy4 rfl (oO rfl hy4 rfl (oO rfl hy4 rfl (oG rfl hy3 (stp_pick_t rfl hy4 rfl) rfl ?_)))
     obtain rfl := sI ey4
     exact ow_nil (jy 4 0)
    have ey4 := cond_f ey4 hy4
    refine oG rfl hy4 (fA 1 Tryz.underlying41 rfl ts3 rfl rfl rfl) rfl (oG rfl hy4 (lB 0 ts3 rfl rfl rfl) rfl (oG rfl hy4 (stp_eql rfl rfl) rfl (oG rfl hy3 (stp_pick_f rfl hy4 rfl) rfl ?_)))
    obtain rfl := sI ey4
    exact ow_nil (jy 4 0)
   refine oD (stp_pick_t rfl hy3 rfl) rfl ?_
   obtain rfl := sI ey3
   exact ow_nil (jy 7 0)
  have ey3 := cond_f ey3 hy3
  refine oO rfl hy3 rfl (oO rfl hy3 rfl (oO rfl hy3 rfl (oO rfl hy3 rfl (oO rfl hy3 rfl (oX rfl rfl rfl (oX rfl rfl rfl (oX rfl rfl rfl (oO rfl hy3 rfl (oD (stp_pick_f rfl hy3 rfl) rfl ?_)))))))))
  obtain rfl := sI ey3
  exact ow_nil (jy 10 0)
 refine oS rfl (nn (cw_ret ?_))
 obtain rfl := sI H0
 exact kr Tryz.results135 (rT rfl) [] ⟨rfl, rfl⟩

theorem c_s_l4Find (fl : Nat) (w : World) (a0 : Ca) (a1 : Int) (a2 : Int) (hn0_0 : n0_0 = (a0.l).length) (hr0_0 : RO w (hkeys []) (RdL p0_0 c0_0 a0.l)) (r : Int) (H0 : s_l4Find fl a0 a1 a2 = some r) :
  Ct Tryz.prog 87 [.agg #[.slice p0_0 n0_0 c0_0, .int .i64 a0.h], .int .i64 a1, .int .i64 a2] w [] (fun rv h' => rv = .int .i64 r ∧ h' = []) := by
 subst hn0_0
 unfold s_l4Find at H0
 refine ct_of_cw Tryz.func87 rfl Tryz.ntmps87 rfl (Sat.refl _ _) ?_
 refine sr (oE (stpU_box 0 rfl rfl) rfl ?_)
 rintro _ _ ⟨b1, rfl, rfl⟩
 obtain ⟨o0_0, eo0_0, H0⟩ := bS H0
 refine oS rfl (nn (cw_seq (sr (oS rfl (nn (cw_join (ι := Int) (fun | v2 => o0_0 = .out v2) (fun | v2 => [(1, .int .i64 a1), (2, .int .i64 a2), (3, .pointer (some ⟨b1, 0, none⟩)), (7, .int .i64 v2)]) (fun | v2 => [(0, [(b1, .cells #[.slice p0_0 ((a0.l).length) c0_0, .int .i64 a0.h] 29 (0, 0))])]) ?_ ?_))))))
 ·refine cw_block (cw_loopS (ι := Nat × Int) (js := [0]) (fun x => x.1) (fun | (fuel, v2) => s_l4Find_L0 fl a0 a1 a2 fuel v2 = some o0_0) (fun | (_, v2) => [(1, .int .i64 a1), (2, .int .i64 a2), (3, .pointer (some ⟨b1, 0, none⟩)), (7, .int .i64 v2)]) (fun | (_, v2) => [(0, [(b1, .cells #[.slice p0_0 ((a0.l).length) c0_0, .int .i64 a0.h] 29 (0, 0))])]) (fl, 0) eo0_0 ⟨rfl, rfl, rfl, rfl, trivial⟩ ⟨0, [], rfl, rfl, trivial⟩ (by decide) ?_)
  rintro ⟨fuel, v2⟩ H1
  have H1 : s_l4Find_L0 fl a0 a1 a2 fuel v2 = some o0_0 := H1
  rcases fuel with _ | fuel
  ·rw [s_l4Find_L0.eq_1] at H1; cases H1
  rw [s_l4Find_L0.eq_2] at H1
  dsimp only
  refine cw_seq (sr (oM rfl (oA 0 Tryz.underlying29 rfl ts27 rfl (oL 0 ts27 rfl (oD (stp_len Tryz.underlying27 rfl) rfl (oW rfl (nn (cw_cond rfl (fun h3 => ?_) (fun h3 => ?_)))))))))
  ·have H1 := cond_t H1 h3
   obtain ⟨x4, e4, H1⟩ := bS H1
   obtain ⟨x5, e5, H1⟩ := bS H1
   refine cw_skip (kw_nx (cw_seq (cw_block (sr (oA 0 Tryz.underlying29 rfl ts27 rfl (oL 0 ts27 rfl (oM rfl (oD (stp_indexAddr Tryz.underlying27 ts41 (by decide) rfl rfl rfl (Rdb.ro hr0_0) e4) rfl (oD (stp_loadN (us := [_, _, _, _, _, _]) ts41 rfl (Cells.el (Rdb.ro hr0_0) (by decide) e4 0 6 rfl)) rfl (oM rfl (oM rfl (oE (stpU_call (fun i => 1 + i) cf135 (fun w hw => c_s_l4Fits fl w x4 a1 a2 x5 e5) (yC rfl rfl rfl)) rfl ?_))))))))))))
   rintro _ _ ⟨_, ⟨rfl, rfl⟩, rfl⟩
   refine nn (cw_cond rfl (fun h6 => ?_) (fun h6 => ?_))
   ·have H1 := cond_t H1 h6
    refine sr (oM rfl (oS rfl (nn (cw_ret (kw_bl_ret (kw_nx_ret (kw_lq_ret (kw_bl_ret (kw_join_ret (kw_nx_ret ?_))))))))))
    obtain rfl := sI H1
    obtain rfl := sI H0
    exact kr Tryz.results87 (rT rfl) [] ⟨rfl, rfl⟩
   have H1 := cond_f H1 h6
   obtain ⟨x7, e7, H1⟩ := bS H1
   exact cw_skip (kw_bl_normal (kw_nx (cw_region (oM rfl (oP e7 rfl (oS rfl (ow_nil (kw_lqS (js := [0]) (fuel, x7) H1 (Nat.lt_succ_self _) ⟨rfl, rfl, rfl, rfl, trivial⟩ ⟨0, [], rfl, rfl, trivial⟩ (by decide)))))))))
  have H1 := cond_f H1 h3
  refine cw_exit (kw_nx_exit (kw_lq_exit (kw_bl ?_)))
  obtain rfl := sI H1
  exact kw_joinS (js := [0]) v2 rfl ⟨rfl, rfl, rfl, rfl, trivial⟩ ⟨0, [], rfl, rfl, trivial⟩ (by decide)
 rintro v2 rfl
 dsimp only
 refine kw_nx (sr (oS rfl (nn (cw_ret ?_))))
 obtain rfl := sI H0
 exact kr Tryz.results87 (rT rfl) [] ⟨rfl, rfl⟩

theorem c_s_Allows (fl : Nat) (w : World) (a0 : Int) (a1 : Int) (r : Bool) (H0 : s_Allows fl a0 a1 = some r) :
  Ct Tryz.prog 90 [.int .i64 a0, .int .i64 a1] w [] (fun rv h' => rv = .bool r ∧ h' = []) := by
 unfold s_Allows at H0
 refine ct_of_cw Tryz.func90 rfl Tryz.ntmps90 rfl (Sat.refl _ _) ?_
 obtain ⟨x1, e1, H0⟩ := bS H0
 refine sr (oS rfl (nn (sr (oM rfl (oE (stpU_call (fun i => 0 + i) cf85 (fun w hw => c_s_RightsValid fl w a0 x1 e1) (yA rfl)) rfl ?_)))))
 rintro _ _ ⟨_, ⟨rfl, rfl⟩, rfl⟩
 obtain ⟨y2, ey2, H0⟩ := bS H0
 refine oM rfl (ow_cutY 3 10 y2 ?_ ?_)
 ·rcases Bool.eq_false_or_eq_true x1 with hy2 | hy2
  ·have ey2 := cond_t ey2 hy2
   obtain ⟨x3, e3, ey2⟩ := bS ey2
   refine oG rfl hy2 (mv rfl) rfl (ow_eff (.some rfl hy2) (stpU_call (fun i => 0 + i) cf85 (fun w hw => c_s_RightsValid fl w a1 x3 e3) (yA rfl)) rfl ?_)
   rintro _ _ ⟨_, ⟨rfl, rfl⟩, rfl⟩
   refine oD (stp_pick_t rfl hy2 rfl) rfl ?_
   obtain rfl := sI ey2
   exact ow_nil (jy 3 0)
  have ey2 := cond_f ey2 hy2
  refine oO rfl hy2 rfl (oO rfl hy2 rfl (oD (stp_pick_f rfl hy2 rfl) rfl ?_))
  obtain rfl := sI ey2
  exact ow_nil (jy 3 0)
 obtain ⟨y4, ey4, H0⟩ := bS H0
 refine oM rfl (ow_cutY 6 17 y4 ?_ ?_)
 ·rcases Bool.eq_false_or_eq_true y2 with hy4 | hy4
  ·have ey4 := cond_t ey4 hy4
   refine oG rfl hy4 (mv rfl) rfl (oG rfl hy4 (mv rfl) rfl (oG rfl hy4 (stp_and rfl rfl) rfl (oG rfl hy4 (mv rfl) rfl (oG rfl hy4 (stp_eql rfl rfl) rfl (oD (stp_pick_t rfl hy4 rfl) rfl ?_)))))
   obtain rfl := sI ey4
   exact ow_nil (jy 6 0)
  have ey4 := cond_f ey4 hy4
  refine oO rfl hy4 rfl (oO rfl hy4 rfl (oO rfl hy4 rfl (oO rfl hy4 rfl (oO rfl hy4 rfl (oD (stp_pick_f rfl hy4 rfl) rfl ?_)))))
  obtain rfl := sI ey4
  exact ow_nil (jy 6 0)
 refine oS rfl (nn (cw_ret ?_))
 obtain rfl := sI H0
 exact kr Tryz.results90 (rT rfl) [] ⟨rfl, rfl⟩

theorem c_s_l4Victim (fl : Nat) (w : World) (a0 : Ca) (hn0_0 : n0_0 = (a0.l).length) (hr0_0 : RO w (hkeys []) (RdL p0_0 c0_0 a0.l)) (r : Int) (H0 : s_l4Victim fl a0 = some r) :
  Ct Tryz.prog 156 [.agg #[.slice p0_0 n0_0 c0_0, .int .i64 a0.h]] w [] (fun rv h' => rv = .int .i64 r ∧ h' = []) := by
 subst hn0_0
 unfold s_l4Victim at H0
 refine ct_of_cw Tryz.func156 rfl Tryz.ntmps156 rfl (Sat.refl _ _) ?_
 refine sr (oE (stpU_box 0 rfl rfl) rfl ?_)
 rintro _ _ ⟨b1, rfl, rfl⟩
 obtain ⟨o0_0, eo0_0, H0⟩ := bS H0
 refine oS rfl (nn (cw_seq (sr (oS rfl (nn (cw_join (ι := Int) (fun | v2 => o0_0 = .out v2) (fun | v2 => [(1, .pointer (some ⟨b1, 0, none⟩)), (3, .int .i64 v2)]) (fun | v2 => [(0, [(b1, .cells #[.slice p0_0 ((a0.l).length) c0_0, .int .i64 a0.h] 29 (0, 0))])]) ?_ ?_))))))
 ·refine cw_block (cw_loopS (ι := Nat × Int) (js := [0]) (fun x => x.1) (fun | (fuel, v2) => s_l4Victim_L0 fl a0 fuel v2 = some o0_0) (fun | (_, v2) => [(1, .pointer (some ⟨b1, 0, none⟩)), (3, .int .i64 v2)]) (fun | (_, v2) => [(0, [(b1, .cells #[.slice p0_0 ((a0.l).length) c0_0, .int .i64 a0.h] 29 (0, 0))])]) (fl, 0) eo0_0 ⟨rfl, rfl, trivial⟩ ⟨0, [], rfl, rfl, trivial⟩ (by decide) ?_)
  rintro ⟨fuel, v2⟩ H1
  have H1 : s_l4Victim_L0 fl a0 fuel v2 = some o0_0 := H1
  rcases fuel with _ | fuel
  ·rw [s_l4Victim_L0.eq_1] at H1; cases H1
  rw [s_l4Victim_L0.eq_2] at H1
  dsimp only
  refine cw_seq (sr (oM rfl (oA 0 Tryz.underlying29 rfl ts27 rfl (oL 0 ts27 rfl (oD (stp_len Tryz.underlying27 rfl) rfl (oW rfl (nn (cw_cond rfl (fun h3 => ?_) (fun h3 => ?_)))))))))
  ·have H1 := cond_t H1 h3
   obtain ⟨x4, e4, H1⟩ := bS H1
   refine cw_skip (kw_nx (cw_seq (cw_block (sr (oA 0 Tryz.underlying29 rfl ts27 rfl (oL 0 ts27 rfl (oM rfl (oD (stp_indexAddr Tryz.underlying27 ts41 (by decide) rfl rfl rfl (Rdb.ro hr0_0) e4) rfl (oA 0 Tryz.underlying41 rfl ts4 rfl (oD (stp_load1 ts4 rfl (Cells.el (Rdb.ro hr0_0) (by decide) e4 0 1 rfl)) rfl (oK rfl (nn (cw_cond rfl (fun h5 => ?_) (fun h5 => ?_))))))))))))))
   ·have H1 := cond_t H1 h5
    refine sr (oM rfl (oS rfl (nn (cw_ret (kw_bl_ret (kw_nx_ret (kw_lq_ret (kw_bl_ret (kw_join_ret (kw_nx_ret ?_))))))))))
    obtain rfl := sI H1
    obtain rfl := sI H0
    exact kr Tryz.results156 (rT rfl) [] ⟨rfl, rfl⟩
   have H1 := cond_f H1 h5
   obtain ⟨x6, e6, H1⟩ := bS H1
   exact cw_skip (kw_bl_normal (kw_nx (cw_region (oM rfl (oP e6 rfl (oS rfl (ow_nil (kw_lqS (js := [0]) (fuel, x6) H1 (Nat.lt_succ_self _) ⟨rfl, rfl, trivial⟩ ⟨0, [], rfl, rfl, trivial⟩ (by decide)))))))))
  have H1 := cond_f H1 h3
  refine cw_exit (kw_nx_exit (kw_lq_exit (kw_bl ?_)))
  obtain rfl := sI H1
  exact kw_joinS (js := [0]) v2 rfl ⟨rfl, rfl, trivial⟩ ⟨0, [], rfl, rfl, trivial⟩ (by decide)
 rintro v2 rfl
 dsimp only
 obtain ⟨o0_1, eo0_1, H0⟩ := bS H0
 refine kw_nx (sr (oA 1 Tryz.underlying29 rfl ts3 rfl (oL 0 ts3 rfl (oS rfl (nn (cw_seq (cw_join (ι := Int) (fun | v7 => o0_1 = .out v7) (fun | v7 => [(1, .pointer (some ⟨b1, 0, none⟩)), (4, .int .i64 v7)]) (fun | v7 => [(0, [(b1, .cells #[.slice p0_0 ((a0.l).length) c0_0, .int .i64 a0.h] 29 (0, 0))])]) ?_ ?_)))))))
 ·refine cw_block (cw_loopS (ι := Nat × Int) (js := [0]) (fun x => x.1) (fun | (fuel, v7) => s_l4Victim_L1 fl a0 fuel v7 = some o0_1) (fun | (_, v7) => [(1, .pointer (some ⟨b1, 0, none⟩)), (4, .int .i64 v7)]) (fun | (_, v7) => [(0, [(b1, .cells #[.slice p0_0 ((a0.l).length) c0_0, .int .i64 a0.h] 29 (0, 0))])]) (fl, a0.h) eo0_1 ⟨rfl, rfl, trivial⟩ ⟨0, [], rfl, rfl, trivial⟩ (by decide) ?_)
  rintro ⟨fuel, v7⟩ H1
  have H1 : s_l4Victim_L1 fl a0 fuel v7 = some o0_1 := H1
  rcases fuel with _ | fuel
  ·rw [s_l4Victim_L1.eq_1] at H1; cases H1
  rw [s_l4Victim_L1.eq_2] at H1
  dsimp only
  obtain ⟨x8, e8, H1⟩ := bS H1
  refine cw_seq (sr (oA 0 Tryz.underlying29 rfl ts27 rfl (oL 0 ts27 rfl (oM rfl (oD (stp_indexAddr Tryz.underlying27 ts41 (by decide) rfl rfl rfl (Rdb.ro hr0_0) e8) rfl (oA 5 Tryz.underlying41 rfl ts4 rfl (oD (stp_load1 ts4 rfl (Cells.el (Rdb.ro hr0_0) (by decide) e8 5 1 rfl)) rfl (nn (cw_cond rfl (fun h9 => ?_) (fun h9 => ?_))))))))))
  ·have H1 := cond_t H1 h9
   obtain ⟨x10, e10, H1⟩ := bS H1
   obtain ⟨x11, e11, H1⟩ := bS H1
   exact cw_skip (kw_nx (cw_block (cw_region (oM rfl (oP e10 rfl (oA 0 Tryz.underlying29 rfl ts27 rfl (oL 0 ts27 rfl (oD (stp_len Tryz.underlying27 rfl) rfl (oD (stp_rem rfl rfl e11) rfl (oS rfl (ow_nil (kw_bl_normal (kw_lqS (js := [0]) (fuel, x11) H1 (Nat.lt_succ_self _) ⟨rfl, rfl, trivial⟩ ⟨0, [], rfl, rfl, trivial⟩ (by decide))))))))))))))
  have H1 := cond_f H1 h9
  refine cw_exit (kw_nx_exit (kw_lq_exit (kw_bl ?_)))
  obtain rfl := sI H1
  exact kw_joinS (js := [0]) v7 rfl ⟨rfl, rfl, trivial⟩ ⟨0, [], rfl, rfl, trivial⟩ (by decide)
 rintro v7 rfl
 dsimp only
 refine kw_nx (sr (oM rfl (oS rfl (nn (cw_ret ?_)))))
 obtain rfl := sI H0
 exact kr Tryz.results156 (rT rfl) [] ⟨rfl, rfl⟩

theorem c_s_FillLine (fl : Nat) (w : World) (a0 : Ca) (a1 : Ln) (hn0_0 : n0_0 = (a0.l).length) (hr0_0 : RO w (hkeys []) (RdL p0_0 c0_0 a0.l)) (r : Ca × Int × Bool) (H0 : s_FillLine fl a0 a1 = some r) :
  Ct Tryz.prog 138 [.agg #[.slice p0_0 n0_0 c0_0, .int .i64 a0.h], .agg #[.bool a1.va, .int .i64 a1.tg, .int .i64 a1.pg, .int .i64 a1.fr, .int .i64 a1.ri, .bool a1.wi]] w [] (fun rv h' => ∃ (x0 : Option Addr) (y0 z0 : Nat) (C0 : Res), rv = .tuple #[.agg #[.slice x0 y0 z0, .int .i64 r.1.h], .int .i64 r.2.1, .bool r.2.2] ∧ h' = [(0, C0)] ∧ y0 = (r.1.l).length ∧ OwnC 41 x0 z0 r.1.l C0) := by
 subst hn0_0
 unfold s_FillLine at H0
 refine ct_of_cw Tryz.func138 rfl Tryz.ntmps138 rfl (Sat.refl _ _) ?_
 refine sr (oE (stpU_box 0 rfl rfl) rfl ?_)
 rintro _ _ ⟨b1, rfl, rfl⟩
 refine oE (stpU_box 1 rfl rfl) rfl ?_
 rintro _ _ ⟨b2, rfl, rfl⟩
 refine oE (stpU_alloc 2 tz29 rfl) rfl ?_
 rintro _ _ ⟨b3, rfl, rfl⟩
 obtain ⟨x4, e4, H0⟩ := bS H0
 refine oS rfl (oS rfl (nn (cw_seq (sr (oB2 0 ts29 rfl (oE (stpU_call (fun i => 3 + i) cf106 (fun w hw => c_s_CacheValid fl w a0 rfl (RO.pass hr0_0 hw) x4 e4) (yA rfl)) rfl ?_))))))
 rintro _ _ ⟨_, ⟨rfl, rfl⟩, rfl⟩
 obtain ⟨y5, ey5, H0⟩ := bS H0
 refine oK rfl (oM rfl (ow_cutY 4 16 y5 ?_ ?_))
 ·rcases Bool.eq_false_or_eq_true (!x4) with hy5 | hy5
  ·have ey5 := cond_t ey5 hy5
   refine oO rfl hy5 rfl (oO rfl hy5 rfl (oO rfl hy5 rfl (oD (stp_pick_t rfl hy5 rfl) rfl ?_)))
   obtain rfl := sI ey5
   exact ow_nil (jy 4 0)
  have ey5 := cond_f ey5 hy5
  refine oG rfl hy5 (fA 0 Tryz.underlying41 rfl ts4 rfl rfl rfl) rfl (oG rfl hy5 (lB 1 ts4 rfl rfl rfl) rfl (oG rfl hy5 (stp_not rfl) rfl (oD (stp_pick_f rfl hy5 rfl) rfl ?_)))
  obtain rfl := sI ey5
  exact ow_nil (jy 4 0)
 obtain ⟨y6, ey6, H0⟩ := bS H0
 refine oM rfl (ow_cutY 4 21 y6 ?_ ?_)
 ·rcases Bool.eq_false_or_eq_true y5 with hy6 | hy6
  ·have ey6 := cond_t ey6 hy6
   refine oO rfl hy6 rfl (oO rfl hy6 rfl (oO rfl hy6 rfl (oD (stp_pick_t rfl hy6 rfl) rfl ?_)))
   obtain rfl := sI ey6
   exact ow_nil (jy 4 0)
  have ey6 := cond_f ey6 hy6
  obtain ⟨x7, e7, ey6⟩ := bS ey6
  refine oG rfl hy6 (stp_loadN (us := [_, _, _, _, _, _]) ts41 rfl (Cells.box (id := 1) rfl 6 rfl)) rfl (ow_eff (.some rfl hy6) (stpU_call (fun i => 3 + i) cf146 (fun w hw => c_s_l4Line fl w a1 x7 e7) (yA rfl)) rfl ?_)
  rintro _ _ ⟨_, ⟨rfl, rfl⟩, rfl⟩
  refine oG rfl hy6 (stp_not rfl) rfl (oD (stp_pick_f rfl hy6 rfl) rfl ?_)
  obtain rfl := sI ey6
  exact ow_nil (jy 4 0)
 refine ow_nil (kw_nx (cw_cond rfl (fun h8 => ?_) (fun h8 => ?_)))
 ·have H0 := cond_t H0 h8
  refine sr (oD (stp_build (cs := #[.slice none 0 0, .int .i64 0]) sevp_nil bt29_2) rfl (oC2 2 ts29 rfl rfl (oS rfl (oS rfl (nn (cw_ret (kw_nx_ret (kw_addNil 3 ?_))))))))
  obtain rfl := sI H0
  exact kr Tryz.results138 (.cons (.cellN (us := [_, _]) ts29 rfl (Cells.box (id := 2) rfl 2 rfl)) (.cons (.tmp rfl) (rT rfl))) [3] ⟨_, _, _, _, rfl, rfl, rfl, (OwnC.nil _ _)⟩
 have H0 := cond_f H0 h8
 obtain ⟨x9, e9, H0⟩ := bS H0
 refine cw_skip (kw_nx (sr (oB2 0 ts29 rfl (oE (stpU_call (fun i => 4 + i) cf156 (fun w hw => c_s_l4Victim fl w a0 rfl (RO.pass hr0_0 hw) x9 e9) (yA rfl)) rfl ?_))))
 rintro _ _ ⟨_, ⟨rfl, rfl⟩, rfl⟩
 obtain ⟨x10, e10, H0⟩ := bS H0
 refine oS rfl (nn (sr (oB2 0 ts29 rfl (oE (stpU_call (fun i => 4 + i) cf109 (fun w hw => c_s_l4Copy fl w a0 rfl (RO.pass hr0_0 hw) x10 e10) (yA rfl)) rfl ?_))))
 rintro _ _ ⟨_, ⟨p11, _, c13, C14, rfl, rfl, rfl, o14⟩, rfl⟩
 refine oE (stpU_alloc 5 tz29 rfl) rfl ?_
 rintro _ _ ⟨b15, rfl, rfl⟩
 obtain ⟨x16, e16, H0⟩ := bS H0
 refine oC2 5 ts29 rfl rfl (nn (cw_seq (sr (oA 0 Tryz.underlying29 rfl ts27 rfl (oL 0 ts27 rfl (oM rfl (oD (stp_indexAddr Tryz.underlying27 ts41 (by decide) rfl rfl rfl (Rdb.ro hr0_0) e16) rfl (oA 0 Tryz.underlying41 rfl ts4 rfl (oD (stp_load1 ts4 rfl (Cells.el (Rdb.ro hr0_0) (by decide) e16 0 1 rfl)) rfl (nn (cw_cond rfl (fun h17 => ?_) (fun h17 => ?_))))))))))))
 ·have H0 := cond_t H0 h17
  obtain ⟨x18, e18, H0⟩ := bS H0
  obtain ⟨x19, e19, H0⟩ := bS H0
  refine cw_region (oM rfl (oP e18 rfl (oA 0 Tryz.underlying29 rfl ts27 rfl (oL 0 ts27 rfl (oD (stp_len Tryz.underlying27 rfl) rfl (oD (stp_rem rfl rfl e19) rfl (oA 1 Tryz.underlying29 rfl ts3 rfl (oC2 5 ts3 rfl rfl (nn (sr (oA 0 Tryz.underlying29 rfl ts27 rfl (oL 5 ts27 rfl (oM rfl ?_)))))))))))))
  obtain ⟨x20, e20, H0⟩ := bS H0
  refine oB6 1 ts41 rfl (oD (stp_indexAddr Tryz.underlying27 ts41 (by decide) rfl rfl rfl (Rdb.own (id := 4) rfl o14) e20) rfl (oF (stpU_storeEl (id := 4) (i := 0) a1 (by decide) ts41 rfl rfl rfl o14 e20 rfl rfl rfl rfl) ?_))
  rintro _ _ ⟨C21, rfl, o21⟩
  obtain ⟨x22, e22, H0⟩ := bS H0
  refine nn (cw_seq (sr (oB2 5 ts29 rfl (oE (stpU_call (fun i => 6 + i) cf106 (fun w hw => c_s_CacheValid fl w (⟨(x10.l.set (Int.toNat x9) a1), x19⟩ : Ca) (by simp) (OwnC.pass (id := 4) rfl o21 hw) x22 e22) (yA rfl)) rfl ?_))))
  rintro _ _ ⟨_, ⟨rfl, rfl⟩, rfl⟩
  obtain ⟨y23, ey23, H0⟩ := bS H0
  refine oK rfl (oM rfl (ow_cutY 8 56 y23 ?_ ?_))
  ·rcases Bool.eq_false_or_eq_true (!x22) with hy23 | hy23
   ·have ey23 := cond_t ey23 hy23
    refine oO rfl hy23 rfl (oO rfl hy23 rfl (oO rfl hy23 rfl (oO rfl hy23 rfl (oO rfl hy23 rfl (oO rfl hy23 rfl (oO rfl hy23 rfl (oD (stp_pick_t rfl hy23 rfl) rfl ?_)))))))
    obtain rfl := sI ey23
    exact ow_nil (jy 8 0)
   have ey23 := cond_f ey23 hy23
   obtain ⟨x24, e24, ey23⟩ := bS ey23
   refine oG rfl hy23 (stp_loadN (us := [_, _]) ts29 rfl (Cells.box (id := 0) rfl 2 rfl)) rfl (oG rfl hy23 (fA 1 Tryz.underlying41 rfl ts3 rfl rfl rfl) rfl (oG rfl hy23 (lB 1 ts3 rfl rfl rfl) rfl (oG rfl hy23 (fA 2 Tryz.underlying41 rfl ts3 rfl rfl rfl) rfl (oG rfl hy23 (lB 1 ts3 rfl rfl rfl) rfl (ow_eff (.some rfl hy23) (stpU_call (fun i => 6 + i) cf87 (fun w hw => c_s_l4Find fl w a0 a1.tg a1.pg rfl (RO.pass hr0_0 hw) x24 e24) (yC rfl rfl rfl)) rfl ?_)))))
   rintro _ _ ⟨_, ⟨rfl, rfl⟩, rfl⟩
   refine oG rfl hy23 (stp_geq rfl rfl) rfl (oD (stp_pick_f rfl hy23 rfl) rfl ?_)
   obtain rfl := sI ey23
   exact ow_nil (jy 8 0)
  refine ow_nil (kw_nx (cw_cond rfl (fun h25 => ?_) (fun h25 => ?_)))
  ·have H0 := cond_t H0 h25
   refine sr (oD (stp_build (cs := #[.slice none 0 0, .int .i64 0]) sevp_nil bt29_2) rfl (oC2 2 ts29 rfl rfl (oS rfl (oS rfl (nn (cw_ret (kw_nx_ret (kw_addNil 6 ?_))))))))
   obtain rfl := sI H0
   exact kr Tryz.results138 (.cons (.cellN (us := [_, _]) ts29 rfl (Cells.box (id := 2) rfl 2 rfl)) (.cons (.tmp rfl) (rT rfl))) [6] ⟨_, _, _, _, rfl, rfl, rfl, (OwnC.nil _ _)⟩
  have H0 := cond_f H0 h25
  refine cw_skip (kw_nx (sr (oB2 5 ts29 rfl (oM rfl (oC2 2 ts29 rfl rfl (oS rfl (oS rfl (nn (cw_ret ?_)))))))))
  obtain rfl := sI H0
  exact kr Tryz.results138 (.cons (.cellN (us := [_, _]) ts29 rfl (Cells.box (id := 2) rfl 2 rfl)) (.cons (.tmp rfl) (rT rfl))) [4] ⟨_, _, _, _, rfl, rfl, (by simp), o21⟩
 have H0 := cond_f H0 h17
 obtain ⟨x26, e26, H0⟩ := bS H0
 refine cw_skip (kw_nx (sr (oA 0 Tryz.underlying29 rfl ts27 rfl (oL 5 ts27 rfl (oM rfl (oB6 1 ts41 rfl (oD (stp_indexAddr Tryz.underlying27 ts41 (by decide) rfl rfl rfl (Rdb.own (id := 4) rfl o14) e26) rfl (oF (stpU_storeEl (id := 4) (i := 0) a1 (by decide) ts41 rfl rfl rfl o14 e26 rfl rfl rfl rfl) ?_))))))))
 rintro _ _ ⟨C27, rfl, o27⟩
 obtain ⟨x28, e28, H0⟩ := bS H0
 refine nn (cw_seq (sr (oB2 5 ts29 rfl (oE (stpU_call (fun i => 7 + i) cf106 (fun w hw => c_s_CacheValid fl w (⟨(x10.l.set (Int.toNat x9) a1), x10.h⟩ : Ca) (by simp) (OwnC.pass (id := 4) rfl o27 hw) x28 e28) (yA rfl)) rfl ?_))))
 rintro _ _ ⟨_, ⟨rfl, rfl⟩, rfl⟩
 obtain ⟨y29, ey29, H0⟩ := bS H0
 refine oK rfl (oM rfl (ow_cutY 8 56 y29 ?_ ?_))
 ·rcases Bool.eq_false_or_eq_true (!x28) with hy29 | hy29
  ·have ey29 := cond_t ey29 hy29
   refine oO rfl hy29 rfl (oO rfl hy29 rfl (oO rfl hy29 rfl (oO rfl hy29 rfl (oO rfl hy29 rfl (oO rfl hy29 rfl (oO rfl hy29 rfl (oD (stp_pick_t rfl hy29 rfl) rfl ?_)))))))
   obtain rfl := sI ey29
   exact ow_nil (jy 8 0)
  have ey29 := cond_f ey29 hy29
  obtain ⟨x30, e30, ey29⟩ := bS ey29
  refine oG rfl hy29 (stp_loadN (us := [_, _]) ts29 rfl (Cells.box (id := 0) rfl 2 rfl)) rfl (oG rfl hy29 (fA 1 Tryz.underlying41 rfl ts3 rfl rfl rfl) rfl (oG rfl hy29 (lB 1 ts3 rfl rfl rfl) rfl (oG rfl hy29 (fA 2 Tryz.underlying41 rfl ts3 rfl rfl rfl) rfl (oG rfl hy29 (lB 1 ts3 rfl rfl rfl) rfl (ow_eff (.some rfl hy29) (stpU_call (fun i => 7 + i) cf87 (fun w hw => c_s_l4Find fl w a0 a1.tg a1.pg rfl (RO.pass hr0_0 hw) x30 e30) (yC rfl rfl rfl)) rfl ?_)))))
  rintro _ _ ⟨_, ⟨rfl, rfl⟩, rfl⟩
  refine oG rfl hy29 (stp_geq rfl rfl) rfl (oD (stp_pick_f rfl hy29 rfl) rfl ?_)
  obtain rfl := sI ey29
  exact ow_nil (jy 8 0)
 refine ow_nil (kw_nx (cw_cond rfl (fun h31 => ?_) (fun h31 => ?_)))
 ·have H0 := cond_t H0 h31
  refine sr (oD (stp_build (cs := #[.slice none 0 0, .int .i64 0]) sevp_nil bt29_2) rfl (oC2 2 ts29 rfl rfl (oS rfl (oS rfl (nn (cw_ret (kw_nx_ret (kw_addNil 7 ?_))))))))
  obtain rfl := sI H0
  exact kr Tryz.results138 (.cons (.cellN (us := [_, _]) ts29 rfl (Cells.box (id := 2) rfl 2 rfl)) (.cons (.tmp rfl) (rT rfl))) [7] ⟨_, _, _, _, rfl, rfl, rfl, (OwnC.nil _ _)⟩
 have H0 := cond_f H0 h31
 refine cw_skip (kw_nx (sr (oB2 5 ts29 rfl (oM rfl (oC2 2 ts29 rfl rfl (oS rfl (oS rfl (nn (cw_ret ?_)))))))))
 obtain rfl := sI H0
 exact kr Tryz.results138 (.cons (.cellN (us := [_, _]) ts29 rfl (Cells.box (id := 2) rfl 2 rfl)) (.cons (.tmp rfl) (rT rfl))) [4] ⟨_, _, _, _, rfl, rfl, (by simp), o27⟩

theorem c_s_l6Fill (fl : Nat) (w : World) (a0 : Mc) (a1 : Int) (a2 : Int) (a3 : Int) (hn0_0 : n0_0 = (a0.t.b).length) (hr0_0 : RO w (hkeys []) (RdL p0_0 c0_0 a0.t.b)) (hn0_1 : n0_1 = (a0.t.f).length) (hr0_1 : RO w (hkeys []) (RdL p0_1 c0_1 a0.t.f)) (hn0_2 : n0_2 = (a0.c.l).length) (hr0_2 : RO w (hkeys []) (RdL p0_2 c0_2 a0.c.l)) (hn0_3 : n0_3 = (a0.g.o).length) (hr0_3 : RO w (hkeys []) (RdL p0_3 c0_3 a0.g.o)) (r : Mc × Int) (H0 : s_l6Fill fl a0 a1 a2 a3 = some r) :
  Ct Tryz.prog 89 [.agg #[.slice p0_0 n0_0 c0_0, .slice p0_1 n0_1 c0_1, .slice p0_2 n0_2 c0_2, .int .i64 a0.c.h, .int .i64 a0.g.c, .int .i64 a0.g.n, .int .i64 a0.g.r, .slice p0_3 n0_3 c0_3, .int .i64 a0.s], .int .i64 a1, .int .i64 a2, .int .i64 a3] w [] (fun rv h' => ∃ (x0 : Option Addr) (y0 z0 : Nat) (C0 : Res) (x1 : Option Addr) (y1 z1 : Nat) (C1 : Res) (x2 : Option Addr) (y2 z2 : Nat) (C2 : Res) (x3 : Option Addr) (y3 z3 : Nat) (C3 : Res), rv = .tuple #[.agg #[.slice x0 y0 z0, .slice x1 y1 z1, .slice x2 y2 z2, .int .i64 r.1.c.h, .int .i64 r.1.g.c, .int .i64 r.1.g.n, .int .i64 r.1.g.r, .slice x3 y3 z3, .int .i64 r.1.s], .int .i64 r.2] ∧ h' = [(0, C0), (1, C1), (2, C2), (3, C3)] ∧ y0 = (r.1.t.b).length ∧ OwnC 3 x0 z0 r.1.t.b C0 ∧ y1 = (r.1.t.f).length ∧ OwnC 58 x1 z1 r.1.t.f C1 ∧ y2 = (r.1.c.l).length ∧ OwnC 41 x2 z2 r.1.c.l C2 ∧ y3 = (r.1.g.o).length ∧ OwnC 118 x3 z3 r.1.g.o C3) := by
 subst hn0_0 hn0_1 hn0_2 hn0_3
 unfold s_l6Fill at H0
 refine ct_of_cw Tryz.func89 rfl Tryz.ntmps89 rfl (Sat.refl _ _) ?_
 refine sr (oE (stpU_box 0 rfl rfl) rfl ?_)
 rintro _ _ ⟨b1, rfl, rfl⟩
 refine oE (stpU_alloc 1 tz34 rfl) rfl ?_
 rintro _ _ ⟨b2, rfl, rfl⟩
 obtain ⟨x3, e3, H0⟩ := bS H0
 refine oS rfl (nn (sr (oB9 0 ts34 rfl (oE (stpU_call (fun i => 2 + i) cf52 (fun w hw => c_s_l6Copy fl w a0 rfl (RO.pass hr0_0 hw) rfl (RO.pass hr0_1 hw) rfl (RO.pass hr0_2 hw) rfl (RO.pass hr0_3 hw) x3 e3) (yA rfl)) rfl ?_))))
 rintro _ _ ⟨_, ⟨p4, _, c6, C7, p8, _, c10, C11, p12, _, c14, C15, p16, _, c18, C19, rfl, rfl, rfl, o7, rfl, o11, rfl, o15, rfl, o19⟩, rfl⟩
 refine oE (stpU_alloc 6 tz34 rfl) rfl ?_
 rintro _ _ ⟨b20, rfl, rfl⟩
 obtain ⟨x21, e21, H0⟩ := bS H0
 refine oC9 6 ts34 rfl rfl (nn (sr (oM rfl (oM rfl (oM rfl (oA 0 Tryz.underlying34 rfl ts26 rfl (oA 1 Tryz.underlying26 rfl ts24 rfl (oL 0 ts24 rfl (oM rfl (oD (stp_indexAddr Tryz.underlying24 ts58 (by decide) rfl rfl rfl (Rdb.ro hr0_1) e21) rfl (oA 3 Tryz.underlying58 rfl ts3 rfl (oD (stp_load1 ts3 rfl (Cells.el (Rdb.ro hr0_1) (by decide) e21 3 1 rfl)) rfl (oD (stp_build (cs := #[.bool true, .int .i64 a3, .int .i64 a1, .int .i64 a2, .int .i64 x21.r, .bool false]) (sevp_cons rfl (sevp_cons rfl (sevp_cons rfl (sevp_cons rfl (sevp_cons rfl sevp_nil))))) bt41_18) rfl ?_)))))))))))))
 refine oE (stpU_alloc 7 tz41 rfl) rfl ?_
 rintro _ _ ⟨b22, rfl, rfl⟩
 obtain ⟨x23, e23, H0⟩ := bS H0
 refine oC6 7 ts41 rfl rfl (nn (sr (oA 2 Tryz.underlying34 rfl ts29 rfl (oB2 0 ts29 rfl (oB6 7 ts41 rfl (oE (stpU_call (fun i => 8 + i) cf138 (fun w hw => c_s_FillLine fl w a0.c (⟨true, a3, a1, a2, x21.r, false⟩ : Ln) rfl (RO.pass hr0_2 hw) x23 e23) (yB rfl rfl)) rfl ?_))))))
 rintro _ _ ⟨_, ⟨p24, _, c26, C27, rfl, rfl, rfl, o27⟩, rfl⟩
 refine oM rfl (oT rfl (oT rfl (oT rfl (oE (stpU_alloc 9 tz29 rfl) rfl ?_))))
 rintro _ _ ⟨b28, rfl, rfl⟩
 refine oC2 9 ts29 rfl rfl (oS rfl (oS rfl (nn (sr (oB2 9 ts29 rfl (oA 2 Tryz.underlying34 rfl ts29 rfl (oC9 6 ts29 rfl rfl (nn (sr (oB9 6 ts34 rfl (oM rfl (oC9 1 ts34 rfl rfl (oS rfl ?_)))))))))))))
 refine nn (cw_ret ?_)
 obtain rfl := sI H0
 exact kr Tryz.results89 (.cons (.cellN (us := [_, _, _, _, _, _, _, _, _]) ts34 rfl (Cells.box (id := 1) rfl 9 rfl)) (rT rfl)) [2, 3, 8, 5] ⟨_, _, _, _, _, _, _, _, _, _, _, _, _, _, _, _, rfl, rfl, rfl, o7, rfl, o11, rfl, o27, rfl, o19⟩

theorem c_s_TouchPage (fl : Nat) (w : World) (a0 : Mc) (a1 : Int) (a2 : Int) (hn0_0 : n0_0 = (a0.t.b).length) (hr0_0 : RO w (hkeys []) (RdL p0_0 c0_0 a0.t.b)) (hn0_1 : n0_1 = (a0.t.f).length) (hr0_1 : RO w (hkeys []) (RdL p0_1 c0_1 a0.t.f)) (hn0_2 : n0_2 = (a0.c.l).length) (hr0_2 : RO w (hkeys []) (RdL p0_2 c0_2 a0.c.l)) (hn0_3 : n0_3 = (a0.g.o).length) (hr0_3 : RO w (hkeys []) (RdL p0_3 c0_3 a0.g.o)) (r : Mc × Int × Int × Bool) (H0 : s_TouchPage fl a0 a1 a2 = some r) :
  Ct Tryz.prog 32 [.agg #[.slice p0_0 n0_0 c0_0, .slice p0_1 n0_1 c0_1, .slice p0_2 n0_2 c0_2, .int .i64 a0.c.h, .int .i64 a0.g.c, .int .i64 a0.g.n, .int .i64 a0.g.r, .slice p0_3 n0_3 c0_3, .int .i64 a0.s], .int .i64 a1, .int .i64 a2] w [] (fun rv h' => ∃ (x0 : Option Addr) (y0 z0 : Nat) (C0 : Res) (x1 : Option Addr) (y1 z1 : Nat) (C1 : Res) (x2 : Option Addr) (y2 z2 : Nat) (C2 : Res) (x3 : Option Addr) (y3 z3 : Nat) (C3 : Res), rv = .tuple #[.agg #[.slice x0 y0 z0, .slice x1 y1 z1, .slice x2 y2 z2, .int .i64 r.1.c.h, .int .i64 r.1.g.c, .int .i64 r.1.g.n, .int .i64 r.1.g.r, .slice x3 y3 z3, .int .i64 r.1.s], .int .i64 r.2.1, .int .i64 r.2.2.1, .bool r.2.2.2] ∧ h' = [(0, C0), (1, C1), (2, C2), (3, C3)] ∧ y0 = (r.1.t.b).length ∧ OwnC 3 x0 z0 r.1.t.b C0 ∧ y1 = (r.1.t.f).length ∧ OwnC 58 x1 z1 r.1.t.f C1 ∧ y2 = (r.1.c.l).length ∧ OwnC 41 x2 z2 r.1.c.l C2 ∧ y3 = (r.1.g.o).length ∧ OwnC 118 x3 z3 r.1.g.o C3) := by
 subst hn0_0 hn0_1 hn0_2 hn0_3
 unfold s_TouchPage at H0
 refine ct_of_cw Tryz.func32 rfl Tryz.ntmps32 rfl (Sat.refl _ _) ?_
 refine sr (oE (stpU_box 0 rfl rfl) rfl ?_)
 rintro _ _ ⟨b1, rfl, rfl⟩
 refine oE (stpU_alloc 1 tz34 rfl) rfl ?_
 rintro _ _ ⟨b2, rfl, rfl⟩
 obtain ⟨x3, e3, H0⟩ := bS H0
 refine oS rfl (oS rfl (oS rfl (nn (cw_seq (sr (oB9 0 ts34 rfl (oE (stpU_call (fun i => 2 + i) cf51 (fun w hw => c_s_MachineValid fl w a0 rfl (RO.pass hr0_0 hw) rfl (RO.pass hr0_1 hw) rfl (RO.pass hr0_2 hw) rfl (RO.pass hr0_3 hw) x3 e3) (yA rfl)) rfl ?_)))))))
 rintro _ _ ⟨_, ⟨rfl, rfl⟩, rfl⟩
 obtain ⟨y4, ey4, H0⟩ := bS H0
 refine oK rfl (oM rfl (ow_cutY 4 25 y4 ?_ ?_))
 ·rcases Bool.eq_false_or_eq_true (!x3) with hy4 | hy4
  ·have ey4 := cond_t ey4 hy4
   refine oO rfl hy4 rfl (oO rfl hy4 rfl (oO rfl hy4 rfl (oD (stp_pick_t rfl hy4 rfl) rfl ?_)))
   obtain rfl := sI ey4
   exact ow_nil (jy 4 0)
  have ey4 := cond_f ey4 hy4
  obtain ⟨x5, e5, ey4⟩ := bS ey4
  refine oG rfl hy4 (mv rfl) rfl (ow_eff (.some rfl hy4) (stpU_call (fun i => 2 + i) cf84 (fun w hw => c_s_l1Page fl w a1 x5 e5) (yA rfl)) rfl ?_)
  rintro _ _ ⟨_, ⟨rfl, rfl⟩, rfl⟩
  refine oG rfl hy4 (stp_not rfl) rfl (oD (stp_pick_f rfl hy4 rfl) rfl ?_)
  obtain rfl := sI ey4
  exact ow_nil (jy 4 0)
 obtain ⟨y6, ey6, H0⟩ := bS H0
 refine oM rfl (ow_cutY 4 30 y6 ?_ ?_)
 ·rcases Bool.eq_false_or_eq_true y4 with hy6 | hy6
  ·have ey6 := cond_t ey6 hy6
   refine oO rfl hy6 rfl (oO rfl hy6 rfl (oO rfl hy6 rfl (oD (stp_pick_t rfl hy6 rfl) rfl ?_)))
   obtain rfl := sI ey6
   exact ow_nil (jy 4 0)
  have ey6 := cond_f ey6 hy6
  obtain ⟨x7, e7, ey6⟩ := bS ey6
  refine oG rfl hy6 (mv rfl) rfl (ow_eff (.some rfl hy6) (stpU_call (fun i => 2 + i) cf85 (fun w hw => c_s_RightsValid fl w a2 x7 e7) (yA rfl)) rfl ?_)
  rintro _ _ ⟨_, ⟨rfl, rfl⟩, rfl⟩
  refine oG rfl hy6 (stp_not rfl) rfl (oD (stp_pick_f rfl hy6 rfl) rfl ?_)
  obtain rfl := sI ey6
  exact ow_nil (jy 4 0)
 refine ow_nil (kw_nx (cw_cond rfl (fun h8 => ?_) (fun h8 => ?_)))
 ·have H0 := cond_t H0 h8
  refine sr (oD (stp_build (cs := #[.slice none 0 0, .slice none 0 0, .slice none 0 0, .int .i64 0, .int .i64 0, .int .i64 0, .int .i64 0, .slice none 0 0, .int .i64 0]) sevp_nil bt34_6) rfl (oC9 1 ts34 rfl rfl (oS rfl (oS rfl (oS rfl (nn (cw_ret (kw_nx_ret (kw_addNil 2 (kw_addNil 3 (kw_addNil 4 (kw_addNil 5 ?_))))))))))))
  obtain rfl := sI H0
  exact kr Tryz.results32 (.cons (.cellN (us := [_, _, _, _, _, _, _, _, _]) ts34 rfl (Cells.box (id := 1) rfl 9 rfl)) (.cons (.tmp rfl) (.cons (.tmp rfl) (rT rfl)))) [2, 3, 4, 5] ⟨_, _, _, _, _, _, _, _, _, _, _, _, _, _, _, _, rfl, rfl, rfl, (OwnC.nil _ _), rfl, (OwnC.nil _ _), rfl, (OwnC.nil _ _), rfl, (OwnC.nil _ _)⟩
 have H0 := cond_f H0 h8
 obtain ⟨x9, e9, H0⟩ := bS H0
 refine cw_skip (kw_nx (sr (oB9 0 ts34 rfl (oA 8 Tryz.underlying34 rfl ts3 rfl (oL 0 ts3 rfl (oM rfl (oE (stpU_call (fun i => 6 + i) cf86 (fun w hw => c_s_l6Tag fl w a0 a0.s a1 rfl (RO.pass hr0_0 hw) rfl (RO.pass hr0_1 hw) rfl (RO.pass hr0_2 hw) rfl (RO.pass hr0_3 hw) x9 e9) (yC rfl rfl rfl)) rfl ?_)))))))
 rintro _ _ ⟨_, ⟨rfl, rfl⟩, rfl⟩
 obtain ⟨x10, e10, H0⟩ := bS H0
 refine oM rfl (oT rfl (oT rfl (oS rfl (oS rfl (nn (sr (oB9 0 ts34 rfl (oE (stpU_call (fun i => 6 + i) cf52 (fun w hw => c_s_l6Copy fl w a0 rfl (RO.pass hr0_0 hw) rfl (RO.pass hr0_1 hw) rfl (RO.pass hr0_2 hw) rfl (RO.pass hr0_3 hw) x10 e10) (yA rfl)) rfl ?_))))))))
 rintro _ _ ⟨_, ⟨p11, _, c13, C14, p15, _, c17, C18, p19, _, c21, C22, p23, _, c25, C26, rfl, rfl, rfl, o14, rfl, o18, rfl, o22, rfl, o26⟩, rfl⟩
 refine oE (stpU_alloc 10 tz34 rfl) rfl ?_
 rintro _ _ ⟨b27, rfl, rfl⟩
 obtain ⟨x28, e28, H0⟩ := bS H0
 refine oC9 10 ts34 rfl rfl (nn (sr (oS rfl (nn (sr (oA 2 Tryz.underlying34 rfl ts29 rfl (oB2 0 ts29 rfl (oM rfl (oM rfl (oE (stpU_call (fun i => 11 + i) cf87 (fun w hw => c_s_l4Find fl w a0.c x9.1 a1 rfl (RO.pass hr0_2 hw) x28 e28) (yC rfl rfl rfl)) rfl ?_))))))))))
 rintro _ _ ⟨_, ⟨rfl, rfl⟩, rfl⟩
 refine oS rfl (nn (sr (oS rfl (nn (cw_seq (sr (oM rfl (oI rfl (nn (cw_cond rfl (fun h29 => ?_) (fun h29 => ?_)))))))))))
 ·have H0 := cond_t H0 h29
  obtain ⟨x30, e30, H0⟩ := bS H0
  refine cw_region (oA 2 Tryz.underlying34 rfl ts29 rfl (oA 0 Tryz.underlying29 rfl ts27 rfl (oL 0 ts27 rfl (oM rfl (oD (stp_indexAddr Tryz.underlying27 ts41 (by decide) rfl rfl rfl (Rdb.ro hr0_2) e30) rfl (oA 3 Tryz.underlying41 rfl ts3 rfl (oD (stp_load1 ts3 rfl (Cells.el (Rdb.ro hr0_2) (by decide) e30 3 1 rfl)) rfl (oS rfl (nn (cw_seq (sr (oA 0 Tryz.underlying34 rfl ts26 rfl (oA 1 Tryz.underlying26 rfl ts24 rfl ?_)))))))))))))
  obtain ⟨x31, e31, H0⟩ := bS H0
  obtain ⟨x32, e32, H0⟩ := bS H0
  refine oL 0 ts24 rfl (oM rfl (oD (stp_indexAddr Tryz.underlying24 ts58 (by decide) rfl rfl rfl (Rdb.ro hr0_1) e31) rfl (oA 3 Tryz.underlying58 rfl ts3 rfl (oD (stp_load1 ts3 rfl (Cells.el (Rdb.ro hr0_1) (by decide) e31 3 1 rfl)) rfl (oM rfl (oE (stpU_call (fun i => 11 + i) cf90 (fun w hw => c_s_Allows fl w x31.r a2 x32 e32) (yB rfl rfl)) rfl ?_))))))
  rintro _ _ ⟨_, ⟨rfl, rfl⟩, rfl⟩
  refine oK rfl (nn (cw_cond rfl (fun h33 => ?_) (fun h33 => ?_)))
  ·have H0 := cond_t H0 h33
   refine sr (oB9 10 ts34 rfl (oM rfl (oC9 1 ts34 rfl rfl (oS rfl (oS rfl (oS rfl (nn (cw_ret (kw_nx_ret ?_)))))))))
   obtain rfl := sI H0
   exact kr Tryz.results32 (.cons (.cellN (us := [_, _, _, _, _, _, _, _, _]) ts34 rfl (Cells.box (id := 1) rfl 9 rfl)) (.cons (.tmp rfl) (.cons (.tmp rfl) (rT rfl)))) [6, 7, 8, 9] ⟨_, _, _, _, _, _, _, _, _, _, _, _, _, _, _, _, rfl, rfl, rfl, o14, rfl, o18, rfl, o22, rfl, o26⟩
  have H0 := cond_f H0 h33
  refine cw_skip (kw_nx (sr (oB9 10 ts34 rfl (oM rfl (oM rfl (oC9 1 ts34 rfl rfl (oS rfl (oS rfl (oS rfl (nn (cw_ret ?_)))))))))))
  obtain rfl := sI H0
  exact kr Tryz.results32 (.cons (.cellN (us := [_, _, _, _, _, _, _, _, _]) ts34 rfl (Cells.box (id := 1) rfl 9 rfl)) (.cons (.tmp rfl) (.cons (.tmp rfl) (rT rfl)))) [6, 7, 8, 9] ⟨_, _, _, _, _, _, _, _, _, _, _, _, _, _, _, _, rfl, rfl, rfl, o14, rfl, o18, rfl, o22, rfl, o26⟩
 have H0 := cond_f H0 h29
 obtain ⟨x34, e34, H0⟩ := bS H0
 obtain ⟨x35, e35, H0⟩ := bS H0
 refine cw_seq (rdq g_mixed [1, 3] [0] { dst := dS [58, 59, 60, 61, 62, 63, 64, 57, 65, 66, 17, 18], pre := gA [] [[], [0], [], [2], [], [2, 3, 4], rn 0 6, rn 0 7, rn 0 8, rn 0 8, rn 0 9, rn 0 11], ids := fun _ => [], rs := rL [[(3, 0)], [(57, 1)], [(3, 0)], [(59, 3)], [(1, 0)], [(60, 4), (61, 5)], [(58, 2), (62, 6)], [(63, 7)], [(56, 8)], [(56, 8)], [(64, 9)], [(65, 10)]], rh := rL [[], [(0, 0)], [], [(0, 0)]], V := fun i g => gA undef [.pointer (some ⟨b1, 0, none⟩), .agg #[.slice p0_0 ((a0.t.b).length) c0_0, .slice p0_1 ((a0.t.f).length) c0_1], .pointer (some ⟨b1, 8, none⟩), .int .i64 a0.s, .int .i64 a1, .agg #[.int .i64 x34.s, .int .i64 x34.p], .tuple #[.int .i64 x35.1, .int .i64 x35.2], .tuple #[.int .i64 x35.1, .int .i64 x35.2], .int .i64 x35.1, .int .i64 x35.2, .int .i64 x35.1, .int .i64 x35.2] i, U := fun _ _ => [], Φ := fun _ _ => True } ?_ ?_)
 ·refine ⟨lc rfl rfl fun hs hh => stp_fieldAddr (j := 0) Tryz.underlying34 rfl ts26 rfl (sv hs 3 rfl) rfl, lc rfl rfl fun hs hh => stp_loadN (us := [_, _]) ts26 (sv hs 57 rfl) (Cells.box (id := 0) (hh.get 0 _ rfl) 2 rfl), lc rfl rfl fun hs hh => stp_fieldAddr (j := 8) Tryz.underlying34 rfl ts3 rfl (sv hs 3 rfl) rfl, lc rfl rfl fun hs hh => stp_load1 ts3 (sv hs 59 rfl) (Cells.box (id := 0) (hh.get 0 _ rfl) 1 rfl), lM, ?_, ?_, lM, lT, lT, lS, lS, trivial⟩
  ·refine le rfl rfl (fun g hΦ s h hs hh => (stpU_call (fun i => 11 + i) cf65 (fun w hw => c_s_KeyFor fl w a0.s a1 x34 e34) (yB (sv hs 60 rfl) (sv hs 61 rfl)))) ?_
   rintro g _ _ ⟨_, ⟨rfl, rfl⟩, rfl⟩
   exact ⟨⟨[], [], []⟩, trivial, .inr rfl, rfl⟩
  refine le rfl rfl (fun g hΦ s h hs hh => (stpU_call (fun i => 11 + i) cf88 (fun w hw => c_s_l3Find fl w a0.t x34 rfl (RO.pass hr0_0 hw) rfl (RO.pass hr0_1 hw) x35 e35) (yB (sv hs 58 rfl) (sv hs 62 rfl)))) ?_
  rintro g _ _ ⟨_, ⟨rfl, rfl⟩, rfl⟩
  exact ⟨⟨[], [], []⟩, trivial, .inr rfl, rfl⟩
 intro g hΦ
 refine KW.sub (s' := [(1, .int .i64 a1), (2, .int .i64 a2), (3, .pointer (some ⟨b1, 0, none⟩)), (6, .pointer (some ⟨b2, 0, none⟩)), (10, .int .i64 x9.1), (12, .pointer (some ⟨b27, 0, none⟩)), (16, .int .i64 x35.1)]) (h' := [(0, [(b1, .cells #[.slice p0_0 ((a0.t.b).length) c0_0, .slice p0_1 ((a0.t.f).length) c0_1, .slice p0_2 ((a0.c.l).length) c0_2, .int .i64 a0.c.h, .int .i64 a0.g.c, .int .i64 a0.g.n, .int .i64 a0.g.r, .slice p0_3 ((a0.g.o).length) c0_3, .int .i64 a0.s] 34 (0, 0))]), (1, [(b2, .cells #[.slice none 0 0, .slice none 0 0, .slice none 0 0, .int .i64 0, .int .i64 0, .int .i64 0, .int .i64 0, .slice none 0 0, .int .i64 0] 34 (0, 0))]), (6, C14), (7, C18), (8, C22), (9, C26), (10, [(b27, .cells #[.slice p11 ((x10.t.b).length) c13, .slice p15 ((x10.t.f).length) c17, .slice p19 ((x10.c.l).length) c21, .int .i64 x10.c.h, .int .i64 x10.g.c, .int .i64 x10.g.n, .int .i64 x10.g.r, .slice p23 ((x10.g.o).length) c25, .int .i64 x10.s] 34 (0, 0))])]) ?_ ⟨rfl, rfl, rfl, rfl, rfl, rfl, rfl, trivial⟩ ⟨rfl, rfl, rfl, rfl, rfl, rfl, rfl, trivial⟩
 refine kw_nx (cw_seq (sr (oM rfl (oW rfl (nn (cw_cond rfl (fun h36 => ?_) (fun h36 => ?_)))))))
 ·have H0 := cond_t H0 h36
  refine sr (oB9 10 ts34 rfl (oC9 1 ts34 rfl rfl (oS rfl (oS rfl (oS rfl (nn (cw_ret (kw_nx_ret (kw_nx_ret ?_)))))))))
  obtain rfl := sI H0
  exact kr Tryz.results32 (.cons (.cellN (us := [_, _, _, _, _, _, _, _, _]) ts34 rfl (Cells.box (id := 1) rfl 9 rfl)) (.cons (.tmp rfl) (.cons (.tmp rfl) (rT rfl)))) [6, 7, 8, 9] ⟨_, _, _, _, _, _, _, _, _, _, _, _, _, _, _, _, rfl, rfl, rfl, o14, rfl, o18, rfl, o22, rfl, o26⟩
 have H0 := cond_f H0 h36
 obtain ⟨x37, e37, H0⟩ := bS H0
 refine cw_skip (kw_nx (sr (oB9 0 ts34 rfl (oM rfl (oM rfl (oM rfl (oE (stpU_call (fun i => 11 + i) cf89 (fun w hw => c_s_l6Fill fl w a0 a1 x35.1 x9.1 rfl (RO.pass hr0_0 hw) rfl (RO.pass hr0_1 hw) rfl (RO.pass hr0_2 hw) rfl (RO.pass hr0_3 hw) x37 e37) (yD rfl rfl rfl rfl)) rfl ?_)))))))
 rintro _ _ ⟨_, ⟨p38, _, c40, C41, p42, _, c44, C45, p46, _, c48, C49, p50, _, c52, C53, rfl, rfl, rfl, o41, rfl, o45, rfl, o49, rfl, o53⟩, rfl⟩
 refine oM rfl (oT rfl (oT rfl (oC9 10 ts34 rfl rfl (nn (sr (oM rfl (oS rfl (nn (cw_region (oS rfl (nn (cw_seq (sr ?_)))))))))))))
 obtain ⟨x54, e54, H0⟩ := bS H0
 obtain ⟨x55, e55, H0⟩ := bS H0
 refine oA 0 Tryz.underlying34 rfl ts26 rfl (oA 1 Tryz.underlying26 rfl ts24 rfl (oL 0 ts24 rfl (oM rfl (oD (stp_indexAddr Tryz.underlying24 ts58 (by decide) rfl rfl rfl (Rdb.ro hr0_1) e54) rfl (oA 3 Tryz.underlying58 rfl ts3 rfl (oD (stp_load1 ts3 rfl (Cells.el (Rdb.ro hr0_1) (by decide) e54 3 1 rfl)) rfl (oM rfl (oE (stpU_call (fun i => 15 + i) cf90 (fun w hw => c_s_Allows fl w x54.r a2 x55 e55) (yB rfl rfl)) rfl ?_))))))))
 rintro _ _ ⟨_, ⟨rfl, rfl⟩, rfl⟩
 refine oK rfl (nn (cw_cond rfl (fun h56 => ?_) (fun h56 => ?_)))
 ·have H0 := cond_t H0 h56
  refine sr (oB9 10 ts34 rfl (oM rfl (oC9 1 ts34 rfl rfl (oS rfl (oS rfl (oS rfl (nn (cw_ret (kw_nx_ret ?_)))))))))
  obtain rfl := sI H0
  exact kr Tryz.results32 (.cons (.cellN (us := [_, _, _, _, _, _, _, _, _]) ts34 rfl (Cells.box (id := 1) rfl 9 rfl)) (.cons (.tmp rfl) (.cons (.tmp rfl) (rT rfl)))) [11, 12, 13, 14] ⟨_, _, _, _, _, _, _, _, _, _, _, _, _, _, _, _, rfl, rfl, rfl, o41, rfl, o45, rfl, o49, rfl, o53⟩
 have H0 := cond_f H0 h56
 refine cw_skip (kw_nx (sr (oB9 10 ts34 rfl (oM rfl (oM rfl (oC9 1 ts34 rfl rfl (oS rfl (oS rfl (oS rfl (nn (cw_ret ?_)))))))))))
 obtain rfl := sI H0
 exact kr Tryz.results32 (.cons (.cellN (us := [_, _, _, _, _, _, _, _, _]) ts34 rfl (Cells.box (id := 1) rfl 9 rfl)) (.cons (.tmp rfl) (.cons (.tmp rfl) (rT rfl)))) [11, 12, 13, 14] ⟨_, _, _, _, _, _, _, _, _, _, _, _, _, _, _, _, rfl, rfl, rfl, o41, rfl, o45, rfl, o49, rfl, o53⟩

theorem c_s_WireLine (fl : Nat) (w : World) (a0 : Ca) (a1 : Int) (a2 : Bool) (hn0_0 : n0_0 = (a0.l).length) (hr0_0 : RO w (hkeys []) (RdL p0_0 c0_0 a0.l)) (r : Ca × Bool) (H0 : s_WireLine fl a0 a1 a2 = some r) :
  Ct Tryz.prog 93 [.agg #[.slice p0_0 n0_0 c0_0, .int .i64 a0.h], .int .i64 a1, .bool a2] w [] (fun rv h' => ∃ (x0 : Option Addr) (y0 z0 : Nat) (C0 : Res), rv = .tuple #[.agg #[.slice x0 y0 z0, .int .i64 r.1.h], .bool r.2] ∧ h' = [(0, C0)] ∧ y0 = (r.1.l).length ∧ OwnC 41 x0 z0 r.1.l C0) := by
 subst hn0_0
 unfold s_WireLine at H0
 refine ct_of_cw Tryz.func93 rfl Tryz.ntmps93 rfl (Sat.refl _ _) ?_
 refine sr (oE (stpU_box 0 rfl rfl) rfl ?_)
 rintro _ _ ⟨b1, rfl, rfl⟩
 refine oE (stpU_alloc 1 tz29 rfl) rfl ?_
 rintro _ _ ⟨b2, rfl, rfl⟩
 obtain ⟨x3, e3, H0⟩ := bS H0
 refine oS rfl (nn (cw_seq (sr (oB2 0 ts29 rfl (oE (stpU_call (fun i => 2 + i) cf106 (fun w hw => c_s_CacheValid fl w a0 rfl (RO.pass hr0_0 hw) x3 e3) (yA rfl)) rfl ?_)))))
 rintro _ _ ⟨_, ⟨rfl, rfl⟩, rfl⟩
 obtain ⟨y4, ey4, H0⟩ := bS H0
 refine oK rfl (oM rfl (ow_cutY 3 15 y4 ?_ ?_))
 ·rcases Bool.eq_false_or_eq_true (!x3) with hy4 | hy4
  ·have ey4 := cond_t ey4 hy4
   refine oO rfl hy4 rfl (oO rfl hy4 rfl (oD (stp_pick_t rfl hy4 rfl) rfl ?_))
   obtain rfl := sI ey4
   exact ow_nil (jy 3 0)
  have ey4 := cond_f ey4 hy4
  refine oG rfl hy4 (mv rfl) rfl (oG rfl hy4 (stp_lss rfl rfl) rfl (oD (stp_pick_f rfl hy4 rfl) rfl ?_))
  obtain rfl := sI ey4
  exact ow_nil (jy 3 0)
 obtain ⟨y5, ey5, H0⟩ := bS H0
 refine oM rfl (ow_cutY 6 22 y5 ?_ ?_)
 ·rcases Bool.eq_false_or_eq_true y4 with hy5 | hy5
  ·have ey5 := cond_t ey5 hy5
   refine oO rfl hy5 rfl (oO rfl hy5 rfl (oO rfl hy5 rfl (oO rfl hy5 rfl (oO rfl hy5 rfl (oD (stp_pick_t rfl hy5 rfl) rfl ?_)))))
   obtain rfl := sI ey5
   exact ow_nil (jy 6 0)
  have ey5 := cond_f ey5 hy5
  refine oG rfl hy5 (mv rfl) rfl (oG rfl hy5 (fA 0 Tryz.underlying29 rfl ts27 rfl rfl rfl) rfl (oG rfl hy5 (lB 0 ts27 rfl rfl rfl) rfl (oG rfl hy5 (stp_len Tryz.underlying27 rfl) rfl (oG rfl hy5 (stp_geq rfl rfl) rfl (oD (stp_pick_f rfl hy5 rfl) rfl ?_)))))
  obtain rfl := sI ey5
  exact ow_nil (jy 6 0)
 obtain ⟨y6, ey6, H0⟩ := bS H0
 refine oM rfl (ow_cutY 8 31 y6 ?_ ?_)
 ·rcases Bool.eq_false_or_eq_true y5 with hy6 | hy6
  ·have ey6 := cond_t ey6 hy6
   refine oO rfl hy6 rfl (oO rfl hy6 rfl (oO rfl hy6 rfl (oO rfl hy6 rfl (oO rfl hy6 rfl (oO rfl hy6 rfl (oO rfl hy6 rfl (oD (stp_pick_t rfl hy6 rfl) rfl ?_)))))))
   obtain rfl := sI ey6
   exact ow_nil (jy 8 0)
  have ey6 := cond_f ey6 hy6
  obtain ⟨x7, e7, ey6⟩ := bS ey6
  refine oG rfl hy6 (fA 0 Tryz.underlying29 rfl ts27 rfl rfl rfl) rfl (oG rfl hy6 (lB 0 ts27 rfl rfl rfl) rfl (oG rfl hy6 (mv rfl) rfl (oG rfl hy6 (stp_indexAddr Tryz.underlying27 ts41 (by decide) rfl rfl rfl (Rdb.ro hr0_0) e7) rfl (oG rfl hy6 (fA 0 Tryz.underlying41 rfl ts4 rfl rfl rfl) rfl (oG rfl hy6 (stp_load1 ts4 rfl (Cells.el (Rdb.ro hr0_0) (by decide) e7 0 1 rfl)) rfl (oG rfl hy6 (stp_not rfl) rfl (oD (stp_pick_f rfl hy6 rfl) rfl ?_)))))))
  obtain rfl := sI ey6
  exact ow_nil (jy 8 0)
 refine ow_nil (kw_nx (cw_cond rfl (fun h8 => ?_) (fun h8 => ?_)))
 ·have H0 := cond_t H0 h8
  refine sr (oD (stp_build (cs := #[.slice none 0 0, .int .i64 0]) sevp_nil bt29_2) rfl (oC2 1 ts29 rfl rfl (oS rfl (nn (cw_ret (kw_nx_ret (kw_addNil 2 ?_)))))))
  obtain rfl := sI H0
  exact kr Tryz.results93 (.cons (.cellN (us := [_, _]) ts29 rfl (Cells.box (id := 1) rfl 2 rfl)) (rT rfl)) [2] ⟨_, _, _, _, rfl, rfl, rfl, (OwnC.nil _ _)⟩
 have H0 := cond_f H0 h8
 obtain ⟨x9, e9, H0⟩ := bS H0
 refine cw_skip (kw_nx (sr (oB2 0 ts29 rfl (oE (stpU_call (fun i => 3 + i) cf109 (fun w hw => c_s_l4Copy fl w a0 rfl (RO.pass hr0_0 hw) x9 e9) (yA rfl)) rfl ?_))))
 rintro _ _ ⟨_, ⟨p10, _, c12, C13, rfl, rfl, rfl, o13⟩, rfl⟩
 refine oE (stpU_alloc 4 tz29 rfl) rfl ?_
 rintro _ _ ⟨b14, rfl, rfl⟩
 obtain ⟨x15, e15, H0⟩ := bS H0
 refine oC2 4 ts29 rfl rfl (nn (sr (oA 0 Tryz.underlying29 rfl ts27 rfl (oL 4 ts27 rfl (oM rfl (oM rfl (oD (stp_indexAddr Tryz.underlying27 ts41 (by decide) rfl rfl rfl (Rdb.own (id := 3) rfl o13) e15) rfl (oA 5 Tryz.underlying41 rfl ts4 rfl (oF (stpU_storeEl (id := 3) (i := 5) (⟨x15.va, x15.tg, x15.pg, x15.fr, x15.ri, a2⟩ : Ln) (by decide) ts4 rfl rfl rfl o13 e15 rfl rfl rfl rfl) ?_)))))))))
 rintro _ _ ⟨C16, rfl, o16⟩
 obtain ⟨x17, e17, H0⟩ := bS H0
 refine nn (cw_seq (sr (oB2 4 ts29 rfl (oE (stpU_call (fun i => 5 + i) cf106 (fun w hw => c_s_CacheValid fl w (⟨(x9.l.set (Int.toNat a1) (⟨x15.va, x15.tg, x15.pg, x15.fr, x15.ri, a2⟩ : Ln)), x9.h⟩ : Ca) (by simp) (OwnC.pass (id := 3) rfl o16 hw) x17 e17) (yA rfl)) rfl ?_))))
 rintro _ _ ⟨_, ⟨rfl, rfl⟩, rfl⟩
 refine oK rfl (nn (cw_cond rfl (fun h18 => ?_) (fun h18 => ?_)))
 ·have H0 := cond_t H0 h18
  refine sr (oD (stp_build (cs := #[.slice none 0 0, .int .i64 0]) sevp_nil bt29_2) rfl (oC2 1 ts29 rfl rfl (oS rfl (nn (cw_ret (kw_nx_ret (kw_addNil 5 ?_)))))))
  obtain rfl := sI H0
  exact kr Tryz.results93 (.cons (.cellN (us := [_, _]) ts29 rfl (Cells.box (id := 1) rfl 2 rfl)) (rT rfl)) [5] ⟨_, _, _, _, rfl, rfl, rfl, (OwnC.nil _ _)⟩
 have H0 := cond_f H0 h18
 refine cw_skip (kw_nx (sr (oB2 4 ts29 rfl (oC2 1 ts29 rfl rfl (oS rfl (nn (cw_ret ?_)))))))
 obtain rfl := sI H0
 exact kr Tryz.results93 (.cons (.cellN (us := [_, _]) ts29 rfl (Cells.box (id := 1) rfl 2 rfl)) (rT rfl)) [3] ⟨_, _, _, _, rfl, rfl, (by simp), o16⟩

theorem c_s_WirePage (fl : Nat) (w : World) (a0 : Mc) (a1 : Int) (hn0_0 : n0_0 = (a0.t.b).length) (hr0_0 : RO w (hkeys []) (RdL p0_0 c0_0 a0.t.b)) (hn0_1 : n0_1 = (a0.t.f).length) (hr0_1 : RO w (hkeys []) (RdL p0_1 c0_1 a0.t.f)) (hn0_2 : n0_2 = (a0.c.l).length) (hr0_2 : RO w (hkeys []) (RdL p0_2 c0_2 a0.c.l)) (hn0_3 : n0_3 = (a0.g.o).length) (hr0_3 : RO w (hkeys []) (RdL p0_3 c0_3 a0.g.o)) (r : Mc × Bool) (H0 : s_WirePage fl a0 a1 = some r) :
  Ct Tryz.prog 38 [.agg #[.slice p0_0 n0_0 c0_0, .slice p0_1 n0_1 c0_1, .slice p0_2 n0_2 c0_2, .int .i64 a0.c.h, .int .i64 a0.g.c, .int .i64 a0.g.n, .int .i64 a0.g.r, .slice p0_3 n0_3 c0_3, .int .i64 a0.s], .int .i64 a1] w [] (fun rv h' => ∃ (x0 : Option Addr) (y0 z0 : Nat) (C0 : Res) (x1 : Option Addr) (y1 z1 : Nat) (C1 : Res) (x2 : Option Addr) (y2 z2 : Nat) (C2 : Res) (x3 : Option Addr) (y3 z3 : Nat) (C3 : Res), rv = .tuple #[.agg #[.slice x0 y0 z0, .slice x1 y1 z1, .slice x2 y2 z2, .int .i64 r.1.c.h, .int .i64 r.1.g.c, .int .i64 r.1.g.n, .int .i64 r.1.g.r, .slice x3 y3 z3, .int .i64 r.1.s], .bool r.2] ∧ h' = [(0, C0), (1, C1), (2, C2), (3, C3)] ∧ y0 = (r.1.t.b).length ∧ OwnC 3 x0 z0 r.1.t.b C0 ∧ y1 = (r.1.t.f).length ∧ OwnC 58 x1 z1 r.1.t.f C1 ∧ y2 = (r.1.c.l).length ∧ OwnC 41 x2 z2 r.1.c.l C2 ∧ y3 = (r.1.g.o).length ∧ OwnC 118 x3 z3 r.1.g.o C3) := by
 subst hn0_0 hn0_1 hn0_2 hn0_3
 unfold s_WirePage at H0
 refine ct_of_cw Tryz.func38 rfl Tryz.ntmps38 rfl (Sat.refl _ _) ?_
 refine sr (oE (stpU_box 0 rfl rfl) rfl ?_)
 rintro _ _ ⟨b1, rfl, rfl⟩
 refine oE (stpU_alloc 1 tz34 rfl) rfl ?_
 rintro _ _ ⟨b2, rfl, rfl⟩
 obtain ⟨x3, e3, H0⟩ := bS H0
 refine oS rfl (nn (sr (oB9 0 ts34 rfl (oM rfl (oE (stpU_call (fun i => 2 + i) cf32 (fun w hw => c_s_TouchPage fl w a0 a1 0 rfl (RO.pass hr0_0 hw) rfl (RO.pass hr0_1 hw) rfl (RO.pass hr0_2 hw) rfl (RO.pass hr0_3 hw) x3 e3) (yC rfl rfl rfl)) rfl ?_)))))
 rintro _ _ ⟨_, ⟨p4, _, c6, C7, p8, _, c10, C11, p12, _, c14, C15, p16, _, c18, C19, rfl, rfl, rfl, o7, rfl, o11, rfl, o15, rfl, o19⟩, rfl⟩
 refine oM rfl (oT rfl (oT rfl (oT rfl (oT rfl (oE (stpU_alloc 6 tz34 rfl) rfl ?_)))))
 rintro _ _ ⟨b20, rfl, rfl⟩
 obtain ⟨y21, ey21, H0⟩ := bS H0
 refine oC9 6 ts34 rfl rfl (oS rfl (oS rfl (oS rfl (nn (cw_seq (sr (oM rfl (oK rfl (oM rfl (ow_cutY 3 25 y21 ?_ ?_))))))))))
 ·rcases Bool.eq_false_or_eq_true (!x3.2.2.2) with hy21 | hy21
  ·have ey21 := cond_t ey21 hy21
   refine oO rfl hy21 rfl (oO rfl hy21 rfl (oD (stp_pick_t rfl hy21 rfl) rfl ?_))
   obtain rfl := sI ey21
   exact ow_nil (jy 3 0)
  have ey21 := cond_f ey21 hy21
  refine oG rfl hy21 (mv rfl) rfl (oG rfl hy21 (stp_eql rfl rfl) rfl (oD (stp_pick_f rfl hy21 rfl) rfl ?_))
  obtain rfl := sI ey21
  exact ow_nil (jy 3 0)
 obtain ⟨y22, ey22, H0⟩ := bS H0
 refine oM rfl (ow_cutY 3 29 y22 ?_ ?_)
 ·rcases Bool.eq_false_or_eq_true y21 with hy22 | hy22
  ·have ey22 := cond_t ey22 hy22
   refine oO rfl hy22 rfl (oO rfl hy22 rfl (oD (stp_pick_t rfl hy22 rfl) rfl ?_))
   obtain rfl := sI ey22
   exact ow_nil (jy 3 0)
  have ey22 := cond_f ey22 hy22
  refine oG rfl hy22 (mv rfl) rfl (oG rfl hy22 (stp_lss rfl rfl) rfl (oD (stp_pick_f rfl hy22 rfl) rfl ?_))
  obtain rfl := sI ey22
  exact ow_nil (jy 3 0)
 refine ow_nil (kw_nx (cw_cond rfl (fun h23 => ?_) (fun h23 => ?_)))
 ·have H0 := cond_t H0 h23
  refine sr (oD (stp_build (cs := #[.slice none 0 0, .slice none 0 0, .slice none 0 0, .int .i64 0, .int .i64 0, .int .i64 0, .int .i64 0, .slice none 0 0, .int .i64 0]) sevp_nil bt34_6) rfl (oC9 1 ts34 rfl rfl (oS rfl (nn (cw_ret (kw_nx_ret (kw_addNil 7 (kw_addNil 8 (kw_addNil 9 (kw_addNil 10 ?_))))))))))
  obtain rfl := sI H0
  exact kr Tryz.results38 (.cons (.cellN (us := [_, _, _, _, _, _, _, _, _]) ts34 rfl (Cells.box (id := 1) rfl 9 rfl)) (rT rfl)) [7, 8, 9, 10] ⟨_, _, _, _, _, _, _, _, _, _, _, _, _, _, _, _, rfl, rfl, rfl, (OwnC.nil _ _), rfl, (OwnC.nil _ _), rfl, (OwnC.nil _ _), rfl, (OwnC.nil _ _)⟩
 have H0 := cond_f H0 h23
 obtain ⟨x24, e24, H0⟩ := bS H0
 obtain ⟨x25, e25, H0⟩ := bS H0
 refine cw_skip (kw_nx (cw_seq (rdq g_mixed [1, 6] [4, 6] { dst := dS [33, 34, 35, 36, 37, 38, 39, 32, 40, 41, 11, 0, 12], pre := gA [] [[], [0], [], [2], [], [2, 3, 4], rn 0 6, rn 0 7, rn 0 8, rn 0 8, [], [0, 1, 2, 3, 4, 5, 6, 7, 8, 10], rn 0 12], ids := gA [] [[], [], [], [], [], [], [11], [], [], [], [12], [12]], rs := rL [[(6, 0)], [(32, 1)], [(6, 0)], [(34, 3)], [(1, 0)], [(35, 4), (36, 5)], [(33, 2), (37, 6)], [(38, 7)], [(31, 8)], [(31, 8)], [], [(10, 11), (39, 9)], [(40, 10)]], rh := rL [[], [(6, 0)], [], [(6, 0)], [], [(4, 0)], [(4, 0)], [], [], [], [], [(12, 11)]], V := fun i g => gA undef [.pointer (some ⟨b20, 2, none⟩), .agg #[.slice p12 ((x3.1.c.l).length) c14, .int .i64 x3.1.c.h], .pointer (some ⟨b20, 2, none⟩), .agg #[.slice p12 ((x3.1.c.l).length) c14, .int .i64 x3.1.c.h], .int .i64 a1, .int .i64 x24, .tuple #[.agg #[.slice ((g 6).A 0) ((x25.1.l).length) ((g 6).C 0), .int .i64 x25.1.h], .bool x25.2], .tuple #[.agg #[.slice ((g 6).A 0) ((x25.1.l).length) ((g 6).C 0), .int .i64 x25.1.h], .bool x25.2], .agg #[.slice ((g 6).A 0) ((x25.1.l).length) ((g 6).C 0), .int .i64 x25.1.h], .bool x25.2, .pointer (some ⟨((g 10).C 0), 0, none⟩), undef, .bool x25.2] i, U := fun i g => match i with | 6 => [(11, ((g 6).R 0))] | 10 => [(12, [(((g 10).C 0), .cells #[.slice none 0 0, .int .i64 0] 29 (0, 0))])] | 11 => [(12, [(((g 10).C 0), .cells #[.slice ((g 6).A 0) ((x25.1.l).length) ((g 6).C 0), .int .i64 x25.1.h] 29 (0, 0))])] | _ => [], Φ := fun i x => match i with | 6 => OwnC 41 (x.A 0) (x.C 0) x25.1.l (x.R 0) | _ => True } ?_ ?_)))
 ·refine ⟨lc rfl rfl fun hs hh => stp_fieldAddr (j := 2) Tryz.underlying34 rfl ts29 rfl (sv hs 6 rfl) rfl, lc rfl rfl fun hs hh => stp_loadN (us := [_, _]) ts29 (sv hs 32 rfl) (Cells.box (id := 6) (hh.get 6 _ rfl) 2 rfl), lc rfl rfl fun hs hh => stp_fieldAddr (j := 2) Tryz.underlying34 rfl ts29 rfl (sv hs 6 rfl) rfl, lc rfl rfl fun hs hh => stp_loadN (us := [_, _]) ts29 (sv hs 34 rfl) (Cells.box (id := 6) (hh.get 6 _ rfl) 2 rfl), lM, ?_, ?_, lM, lT, lT, ?_, ?_, lS, trivial⟩
  ·refine le rfl rfl (fun g hΦ s h hs hh => (stpU_call (fun i => 11 + i) cf87 (fun w hw => c_s_l4Find fl w x3.1.c (-1) a1 rfl (OwnC.pass (id := 4) (hh.get 4 _ rfl) o15 hw) x24 e24) (yC (sv hs 35 rfl) rfl (sv hs 36 rfl)))) ?_
   rintro g _ _ ⟨_, ⟨rfl, rfl⟩, rfl⟩
   exact ⟨⟨[], [], []⟩, trivial, .inr rfl, rfl⟩
  ·refine le rfl rfl (fun g hΦ s h hs hh => (stpU_call (fun i => 11 + i) cf93 (fun w hw => c_s_WireLine fl w x3.1.c x24 true rfl (OwnC.pass (id := 4) (hh.get 4 _ rfl) o15 hw) x25 e25) (yC (sv hs 33 rfl) (sv hs 37 rfl) rfl))) ?_
   rintro g _ _ ⟨_, ⟨p26, _, c28, C29, rfl, rfl, rfl, o29⟩, rfl⟩
   exact ⟨⟨[p26], [c28], [C29]⟩, o29, .inr rfl, rfl⟩
  ·refine le rfl rfl (fun g hΦ s h hs hh => (stpU_alloc 12 tz29 rfl)) ?_
   rintro g _ _ ⟨b30, rfl, rfl⟩
   exact ⟨⟨[], [b30], []⟩, trivial, .inr rfl, rfl⟩
  refine le rfl rfl (fun g hΦ s h hs hh => (stpU_store (id := 12) (cs' := [.slice ((g 6).A 0) ((x25.1.l).length) ((g 6).C 0), .int .i64 x25.1.h]) ts29 (sv hs 10 rfl) (sv hs 39 rfl) (hh.get 12 _ rfl) rfl rfl rfl rfl)) ?_
  rintro g _ _ rfl
  exact ⟨⟨[], [], []⟩, trivial, .inl rfl, rfl⟩
 intro g hΦ
 refine kw_gen (ι := Option Addr × Nat × Res × Nat) (((g 6).A 0), ((g 6).C 0), ((g 6).R 0), ((g 10).C 0)) (fun | (p26, c28, C29, b30) => OwnC 41 p26 c28 x25.1.l C29) (fun | (p26, c28, C29, b30) => [(4, .pointer (some ⟨b2, 0, none⟩)), (6, .pointer (some ⟨b20, 0, none⟩)), (10, .pointer (some ⟨b30, 0, none⟩)), (11, .bool x25.2)]) (fun | (p26, c28, C29, b30) => [(1, [(b2, .cells #[.slice none 0 0, .slice none 0 0, .slice none 0 0, .int .i64 0, .int .i64 0, .int .i64 0, .int .i64 0, .slice none 0 0, .int .i64 0] 34 (0, 0))]), (2, C7), (3, C11), (4, C15), (5, C19), (6, [(b20, .cells #[.slice p4 ((x3.1.t.b).length) c6, .slice p8 ((x3.1.t.f).length) c10, .slice p12 ((x3.1.c.l).length) c14, .int .i64 x3.1.c.h, .int .i64 x3.1.g.c, .int .i64 x3.1.g.n, .int .i64 x3.1.g.r, .slice p16 ((x3.1.g.o).length) c18, .int .i64 x3.1.s] 34 (0, 0))]), (11, C29), (12, [(b30, .cells #[.slice p26 ((x25.1.l).length) c28, .int .i64 x25.1.h] 29 (0, 0))])]) (hΦ 6 (by decide)) ⟨rfl, rfl, rfl, rfl, trivial⟩ ⟨rfl, rfl, rfl, rfl, rfl, rfl, rfl, rfl, trivial⟩ ?_
 rintro ⟨p26, c28, C29, b30⟩ o29
 have o29 : OwnC 41 p26 c28 x25.1.l C29 := o29
 dsimp only
 refine kw_nx (cw_seq (sr (oM rfl (oK rfl (nn (cw_cond rfl (fun h31 => ?_) (fun h31 => ?_)))))))
 ·have H0 := cond_t H0 h31
  refine sr (oD (stp_build (cs := #[.slice none 0 0, .slice none 0 0, .slice none 0 0, .int .i64 0, .int .i64 0, .int .i64 0, .int .i64 0, .slice none 0 0, .int .i64 0]) sevp_nil bt34_6) rfl (oC9 1 ts34 rfl rfl (oS rfl (nn (cw_ret (kw_nx_ret (kw_addNil 13 (kw_addNil 14 (kw_addNil 15 (kw_addNil 16 ?_))))))))))
  obtain rfl := sI H0
  exact kr Tryz.results38 (.cons (.cellN (us := [_, _, _, _, _, _, _, _, _]) ts34 rfl (Cells.box (id := 1) rfl 9 rfl)) (rT rfl)) [13, 14, 15, 16] ⟨_, _, _, _, _, _, _, _, _, _, _, _, _, _, _, _, rfl, rfl, rfl, (OwnC.nil _ _), rfl, (OwnC.nil _ _), rfl, (OwnC.nil _ _), rfl, (OwnC.nil _ _)⟩
 have H0 := cond_f H0 h31
 refine cw_skip (kw_nx (sr (oB2 12 ts29 rfl (oA 2 Tryz.underlying34 rfl ts29 rfl (oC9 6 ts29 rfl rfl (nn (sr (oB9 6 ts34 rfl (oC9 1 ts34 rfl rfl (oS rfl (nn (cw_ret ?_))))))))))))
 obtain rfl := sI H0
 exact kr Tryz.results38 (.cons (.cellN (us := [_, _, _, _, _, _, _, _, _]) ts34 rfl (Cells.box (id := 1) rfl 9 rfl)) (rT rfl)) [2, 3, 11, 5] ⟨_, _, _, _, _, _, _, _, _, _, _, _, _, _, _, _, rfl, rfl, rfl, o7, rfl, o11, rfl, o29, rfl, o19⟩

theorem c_s_FindPage (fl : Nat) (w : World) (a0 : T) (a1 : K) (hn0_0 : n0_0 = (a0.b).length) (hr0_0 : RO w (hkeys []) (RdL p0_0 c0_0 a0.b)) (hn0_1 : n0_1 = (a0.f).length) (hr0_1 : RO w (hkeys []) (RdL p0_1 c0_1 a0.f)) (r : Int × Int × Bool) (H0 : s_FindPage fl a0 a1 = some r) :
  Ct Tryz.prog 127 [.agg #[.slice p0_0 n0_0 c0_0, .slice p0_1 n0_1 c0_1], .agg #[.int .i64 a1.s, .int .i64 a1.p]] w [] (fun rv h' => rv = .tuple #[.int .i64 r.1, .int .i64 r.2.1, .bool r.2.2] ∧ h' = []) := by
 subst hn0_0 hn0_1
 unfold s_FindPage at H0
 refine ct_of_cw Tryz.func127 rfl Tryz.ntmps127 rfl (Sat.refl _ _) ?_
 refine sr (oE (stpU_box 0 rfl rfl) rfl ?_)
 rintro _ _ ⟨b1, rfl, rfl⟩
 refine oE (stpU_box 1 rfl rfl) rfl ?_
 rintro _ _ ⟨b2, rfl, rfl⟩
 obtain ⟨x3, e3, H0⟩ := bS H0
 refine oS rfl (oS rfl (oS rfl (nn (cw_seq (sr (oB2 0 ts26 rfl (oE (stpU_call (fun i => 2 + i) cf105 (fun w hw => c_s_TableValid fl w a0 rfl (RO.pass hr0_0 hw) rfl (RO.pass hr0_1 hw) x3 e3) (yA rfl)) rfl ?_)))))))
 rintro _ _ ⟨_, ⟨rfl, rfl⟩, rfl⟩
 obtain ⟨y4, ey4, H0⟩ := bS H0
 refine oK rfl (oM rfl (ow_cutY 4 16 y4 ?_ ?_))
 ·rcases Bool.eq_false_or_eq_true (!x3) with hy4 | hy4
  ·have ey4 := cond_t ey4 hy4
   refine oO rfl hy4 rfl (oO rfl hy4 rfl (oO rfl hy4 rfl (oD (stp_pick_t rfl hy4 rfl) rfl ?_)))
   obtain rfl := sI ey4
   exact ow_nil (jy 4 0)
  have ey4 := cond_f ey4 hy4
  obtain ⟨x5, e5, ey4⟩ := bS ey4
  refine oG rfl hy4 (stp_loadN (us := [_, _]) ts47 rfl (Cells.box (id := 1) rfl 2 rfl)) rfl (ow_eff (.some rfl hy4) (stpU_call (fun i => 2 + i) cf123 (fun w hw => c_s_KeyValid fl w a1 x5 e5) (yA rfl)) rfl ?_)
  rintro _ _ ⟨_, ⟨rfl, rfl⟩, rfl⟩
  refine oG rfl hy4 (stp_not rfl) rfl (oD (stp_pick_f rfl hy4 rfl) rfl ?_)
  obtain rfl := sI ey4
  exact ow_nil (jy 4 0)
 refine ow_nil (kw_nx (cw_cond rfl (fun h6 => ?_) (fun h6 => ?_)))
 ·have H0 := cond_t H0 h6
  refine sr (oS rfl (oS rfl (oS rfl (nn (cw_ret (kw_nx_ret ?_))))))
  obtain rfl := sI H0
  exact kr Tryz.results127 (.cons (.tmp rfl) (.cons (.tmp rfl) (rT rfl))) [] ⟨rfl, rfl⟩
 have H0 := cond_f H0 h6
 obtain ⟨x7, e7, H0⟩ := bS H0
 refine cw_skip (kw_nx (sr (oB2 0 ts26 rfl (oB2 1 ts47 rfl (oE (stpU_call (fun i => 2 + i) cf88 (fun w hw => c_s_l3Find fl w a0 a1 rfl (RO.pass hr0_0 hw) rfl (RO.pass hr0_1 hw) x7 e7) (yB rfl rfl)) rfl ?_)))))
 rintro _ _ ⟨_, ⟨rfl, rfl⟩, rfl⟩
 refine oM rfl (oT rfl (oT rfl (oS rfl (oS rfl (nn (cw_seq (sr (oM rfl (oW rfl (nn (cw_cond rfl (fun h8 => ?_) (fun h8 => ?_))))))))))))
 ·have H0 := cond_t H0 h8
  refine sr (oM rfl (oS rfl (oS rfl (oS rfl (nn (cw_ret (kw_nx_ret ?_)))))))
  obtain rfl := sI H0
  exact kr Tryz.results127 (.cons (.tmp rfl) (.cons (.tmp rfl) (rT rfl))) [] ⟨rfl, rfl⟩
 have H0 := cond_f H0 h8
 refine cw_skip (kw_nx (sr (oM rfl (oM rfl (oS rfl (oS rfl (oS rfl (nn (cw_ret ?_)))))))))
 obtain rfl := sI H0
 exact kr Tryz.results127 (.cons (.tmp rfl) (.cons (.tmp rfl) (rT rfl))) [] ⟨rfl, rfl⟩

theorem c_s_l3Unmap (fl : Nat) (w : World) (a0 : T) (a1 : Int) (hn0_0 : n0_0 = (a0.b).length) (hr0_0 : RO w (hkeys []) (RdL p0_0 c0_0 a0.b)) (hn0_1 : n0_1 = (a0.f).length) (hr0_1 : RO w (hkeys []) (RdL p0_1 c0_1 a0.f)) (r : T) (H0 : s_l3Unmap fl a0 a1 = some r) :
  Ct Tryz.prog 159 [.agg #[.slice p0_0 n0_0 c0_0, .slice p0_1 n0_1 c0_1], .int .i64 a1] w [] (fun rv h' => ∃ (x0 : Option Addr) (y0 z0 : Nat) (C0 : Res) (x1 : Option Addr) (y1 z1 : Nat) (C1 : Res), rv = .agg #[.slice x0 y0 z0, .slice x1 y1 z1] ∧ h' = [(0, C0), (1, C1)] ∧ y0 = (r.b).length ∧ OwnC 3 x0 z0 r.b C0 ∧ y1 = (r.f).length ∧ OwnC 58 x1 z1 r.f C1) := by
 subst hn0_0 hn0_1
 unfold s_l3Unmap at H0
 refine ct_of_cw Tryz.func159 rfl Tryz.ntmps159 rfl (Sat.refl _ _) ?_
 refine sr (oE (stpU_box 0 rfl rfl) rfl ?_)
 rintro _ _ ⟨b1, rfl, rfl⟩
 refine oE (stpU_alloc 1 tz26 rfl) rfl ?_
 rintro _ _ ⟨b2, rfl, rfl⟩
 obtain ⟨x3, e3, H0⟩ := bS H0
 refine nn (sr (oB2 0 ts26 rfl (oE (stpU_call (fun i => 2 + i) cf108 (fun w hw => c_s_l3Copy fl w a0 rfl (RO.pass hr0_0 hw) rfl (RO.pass hr0_1 hw) x3 e3) (yA rfl)) rfl ?_)))
 rintro _ _ ⟨_, ⟨p4, _, c6, C7, p8, _, c10, C11, rfl, rfl, rfl, o7, rfl, o11⟩, rfl⟩
 refine oE (stpU_alloc 4 tz26 rfl) rfl ?_
 rintro _ _ ⟨b12, rfl, rfl⟩
 obtain ⟨x13, e13, H0⟩ := bS H0
 obtain ⟨x14, e14, H0⟩ := bS H0
 refine oC2 4 ts26 rfl rfl (nn (cw_seq (rdq g_mixed [1, 2] [0] { dst := dS [12, 13, 14, 15, 16, 17, 18, 19, 20, 21, 7], pre := gA [] [[], [0], [], [0, 1, 2], rn 0 4, rn 0 5, [], [6], [6, 7], rn 0 9, rn 0 10], ids := fun _ => [], rs := rL [[(2, 0)], [(11, 1)], [(1, 0)], [(12, 2), (13, 3)], [(14, 4)], [(15, 5)], [(2, 0)], [(17, 7)], [(18, 8)], [(16, 6), (19, 9)], [(20, 10)]], rh := rL [[], [(0, 0)], [], [], [], [], [], [(0, 0)]], V := fun i g => gA undef [.pointer (some ⟨b1, 1, none⟩), .slice p0_1 ((a0.f).length) c0_1, .int .i64 a1, .pointer (some ⟨eB p0_1, eO p0_1 + Int.toNat a1 * Enc.sz F + 0, none⟩), .pointer (some ⟨eB p0_1, eO p0_1 + Int.toNat a1 * Enc.sz F + 1, none⟩), .agg #[.int .i64 x13.k.s, .int .i64 x13.k.p], .pointer (some ⟨b1, 0, none⟩), .slice p0_0 ((a0.b).length) c0_0, .int .i64 ((a0.b).length : Int), .int .i64 x14, .int .i64 x14] i, U := fun _ _ => [], Φ := fun _ _ => True } ?_ ?_)))
 ·refine ⟨lc rfl rfl fun hs hh => stp_fieldAddr (j := 1) Tryz.underlying26 rfl ts24 rfl (sv hs 2 rfl) rfl, lc rfl rfl fun hs hh => stp_load1 ts24 (sv hs 11 rfl) (Cells.box (id := 0) (hh.get 0 _ rfl) 1 rfl), lM, lc rfl rfl fun hs hh => stp_indexAddr Tryz.underlying24 ts58 (by decide) (sv hs 12 rfl) rfl (sv hs 13 rfl) (Rdb.ro hr0_1) e13, lc rfl rfl fun hs hh => stp_fieldAddr (j := 1) Tryz.underlying58 rfl ts47 rfl (sv hs 14 rfl) rfl, lc rfl rfl fun hs hh => stp_loadN (us := [_, _]) ts47 (sv hs 15 rfl) (Cells.el (Rdb.ro hr0_1) (by decide) e13 1 2 rfl), lc rfl rfl fun hs hh => stp_fieldAddr (j := 0) Tryz.underlying26 rfl ts23 rfl (sv hs 2 rfl) rfl, lc rfl rfl fun hs hh => stp_load1 ts23 (sv hs 17 rfl) (Cells.box (id := 0) (hh.get 0 _ rfl) 1 rfl), lc rfl rfl fun hs hh => stp_len Tryz.underlying23 (sv hs 18 rfl), ?_, lS, trivial⟩
  refine le rfl rfl (fun g hΦ s h hs hh => (stpU_call (fun i => 5 + i) cf137 (fun w hw => c_s_l2Hash fl w x13.k ((a0.b).length : Int) x14 e14) (yB (sv hs 16 rfl) (sv hs 19 rfl)))) ?_
  rintro g _ _ ⟨_, ⟨rfl, rfl⟩, rfl⟩
  exact ⟨⟨[], [], []⟩, trivial, .inr rfl, rfl⟩
 intro g hΦ
 refine KW.sub (s' := [(1, .int .i64 a1), (2, .pointer (some ⟨b1, 0, none⟩)), (4, .pointer (some ⟨b2, 0, none⟩)), (5, .pointer (some ⟨b12, 0, none⟩)), (6, .int .i64 x14)]) (h' := [(0, [(b1, .cells #[.slice p0_0 ((a0.b).length) c0_0, .slice p0_1 ((a0.f).length) c0_1] 26 (0, 0))]), (1, [(b2, .cells #[.slice none 0 0, .slice none 0 0] 26 (0, 0))]), (2, C7), (3, C11), (4, [(b12, .cells #[.slice p4 ((x3.b).length) c6, .slice p8 ((x3.f).length) c10] 26 (0, 0))])]) ?_ ⟨rfl, rfl, rfl, rfl, rfl, trivial⟩ ⟨rfl, rfl, rfl, rfl, rfl, trivial⟩
 refine kw_nx (sr (oA 1 Tryz.underlying26 rfl ts24 rfl (oL 0 ts24 rfl (oM rfl (oD (stp_indexAddr Tryz.underlying24 ts58 (by decide) rfl rfl rfl (Rdb.ro hr0_1) e13) rfl (oA 4 Tryz.underlying58 rfl ts3 rfl (oD (stp_load1 ts3 rfl (Cells.el (Rdb.ro hr0_1) (by decide) e13 4 1 rfl)) rfl (oS rfl (nn (sr (oA 1 Tryz.underlying26 rfl ts24 rfl (oL 4 ts24 rfl (oM rfl ?_)))))))))))))
 obtain ⟨x15, e15, H0⟩ := bS H0
 refine oD (stp_build (cs := #[.bool false, .int .i64 0, .int .i64 0, .int .i64 0, .int .i64 (-1)]) (sevp_cons rfl sevp_nil) bt58_1) rfl (oD (stp_indexAddr Tryz.underlying24 ts58 (by decide) rfl rfl rfl (Rdb.own (id := 3) rfl o11) e15) rfl (oF (stpU_storeEl (id := 3) (i := 0) (⟨false, (⟨0, 0⟩ : K), 0, (-1)⟩ : F) (by decide) ts58 rfl rfl rfl o11 e15 rfl rfl rfl rfl) ?_))
 rintro _ _ ⟨C16, rfl, o16⟩
 obtain ⟨x17, e17, H0⟩ := bS H0
 refine nn (cw_seq (sr (oA 0 Tryz.underlying26 rfl ts23 rfl (oL 0 ts23 rfl (oM rfl (oD (stp_indexAddr Tryz.underlying23 ts3 (by decide) rfl rfl rfl (Rdb.ro hr0_0) e17) rfl (oD (stp_load1 ts3 rfl (Cells.el (Rdb.ro hr0_0) (by decide) e17 0 1 rfl)) rfl (oM rfl (oQ rfl (nn (cw_cond rfl (fun h18 => ?_) (fun h18 => ?_))))))))))))
 ·have H0 := cond_t H0 h18
  obtain ⟨x19, e19, H0⟩ := bS H0
  refine sr (oA 0 Tryz.underlying26 rfl ts23 rfl (oL 4 ts23 rfl (oM rfl (oM rfl (oD (stp_indexAddr Tryz.underlying23 ts3 (by decide) rfl rfl rfl (Rdb.own (id := 2) rfl o7) e19) rfl (oF (stpU_storeEl (id := 2) (i := 0) x13.nx (by decide) ts3 rfl rfl rfl o7 e19 rfl rfl rfl rfl) ?_))))))
  rintro _ _ ⟨C20, rfl, o20⟩
  refine nn (sr (oB2 4 ts26 rfl (oC2 1 ts26 rfl rfl (nn (cw_ret (kw_nx_ret ?_))))))
  obtain rfl := sI H0
  exact kr Tryz.results159 (rC2 1 ts26 rfl rfl) [2, 3] ⟨_, _, _, _, _, _, _, _, rfl, rfl, (by simp), o20, (by simp), o16⟩
 have H0 := cond_f H0 h18
 obtain ⟨o0_0, eo0_0, H0⟩ := bS H0
 refine cw_skip (kw_nx (cw_seq (sr (oS rfl (nn (cw_join (ι := (List F) × Int × Res) (fun | (v21, v23, C22) => o0_0 = .out (v21, v23) ∧ (x3.f).length = (v21).length ∧ OwnC 58 p8 c10 v21 C22) (fun | (v21, v23, C22) => [(1, .int .i64 a1), (2, .pointer (some ⟨b1, 0, none⟩)), (4, .pointer (some ⟨b2, 0, none⟩)), (5, .pointer (some ⟨b12, 0, none⟩)), (7, .int .i64 x13.nx), (8, .int .i64 v23)]) (fun | (v21, v23, C22) => [(0, [(b1, .cells #[.slice p0_0 ((a0.b).length) c0_0, .slice p0_1 ((a0.f).length) c0_1] 26 (0, 0))]), (1, [(b2, .cells #[.slice none 0 0, .slice none 0 0] 26 (0, 0))]), (2, C7), (3, C22), (4, [(b12, .cells #[.slice p4 ((x3.b).length) c6, .slice p8 ((x3.f).length) c10] 26 (0, 0))])]) ?_ ?_))))))
 ·refine cw_block (cw_loopS (ι := Nat × (List F) × Int × Res) (js := [0, 1, 2, 3, 4]) (fun x => x.1) (fun | (fuel, v21, v23, C22) => s_l3Unmap_L0 fl a0 a1 x13 fuel v21 v23 = some o0_0 ∧ (x3.f).length = (v21).length ∧ OwnC 58 p8 c10 v21 C22) (fun | (_, v21, v23, C22) => [(1, .int .i64 a1), (2, .pointer (some ⟨b1, 0, none⟩)), (4, .pointer (some ⟨b2, 0, none⟩)), (5, .pointer (some ⟨b12, 0, none⟩)), (7, .int .i64 x13.nx), (8, .int .i64 v23)]) (fun | (_, v21, v23, C22) => [(0, [(b1, .cells #[.slice p0_0 ((a0.b).length) c0_0, .slice p0_1 ((a0.f).length) c0_1] 26 (0, 0))]), (1, [(b2, .cells #[.slice none 0 0, .slice none 0 0] 26 (0, 0))]), (2, C7), (3, C22), (4, [(b12, .cells #[.slice p4 ((x3.b).length) c6, .slice p8 ((x3.f).length) c10] 26 (0, 0))])]) (fl, (x3.f.set (Int.toNat a1) (⟨false, (⟨0, 0⟩ : K), 0, (-1)⟩ : F)), 0, C16) ⟨eo0_0, (by simp), o16⟩ ⟨rfl, rfl, rfl, rfl, rfl, rfl, trivial⟩ ⟨0, [1, 2, 3, 4], rfl, rfl, 1, [2, 3, 4], rfl, rfl, 2, [3, 4], rfl, rfl, 3, [4], rfl, rfl, 4, [], rfl, rfl, trivial⟩ (by decide) ?_)
  rintro ⟨fuel, v21, v23, C22⟩ ⟨H1, hl22, o22⟩
  have H1 : s_l3Unmap_L0 fl a0 a1 x13 fuel v21 v23 = some o0_0 := H1
  rcases fuel with _ | fuel
  ·rw [s_l3Unmap_L0.eq_1] at H1; cases H1
  rw [s_l3Unmap_L0.eq_2] at H1
  dsimp only
  refine cw_seq (sr (oM rfl (oA 1 Tryz.underlying26 rfl ts24 rfl (oL 0 ts24 rfl (oD (stp_len Tryz.underlying24 rfl) rfl (oW rfl (nn (cw_cond rfl (fun h24 => ?_) (fun h24 => ?_)))))))))
  ·have H1 := cond_t H1 h24
   obtain ⟨x25, e25, H1⟩ := bS H1
   obtain ⟨y26, ey26, H1⟩ := bS H1
   refine cw_skip (kw_nx (cw_seq (cw_block (sr (oA 1 Tryz.underlying26 rfl ts24 rfl (oL 0 ts24 rfl (oM rfl (oD (stp_indexAddr Tryz.underlying24 ts58 (by decide) rfl rfl rfl (Rdb.ro hr0_1) e25) rfl (oA 0 Tryz.underlying58 rfl ts4 rfl (oD (stp_load1 ts4 rfl (Cells.el (Rdb.ro hr0_1) (by decide) e25 0 1 rfl)) rfl (oM rfl (ow_cutY 9 67 y26 ?_ ?_))))))))))))
   ·rcases Bool.eq_false_or_eq_true x25.u with hy26 | hy26
    ·have ey26 := cond_t ey26 hy26
     refine oG rfl hy26 (fA 1 Tryz.underlying26 rfl ts24 rfl rfl rfl) rfl (oG rfl hy26 (lB 0 ts24 rfl rfl rfl) rfl (oG rfl hy26 (mv rfl) rfl (oG rfl hy26 (stp_indexAddr Tryz.underlying24 ts58 (by decide) rfl rfl rfl (Rdb.ro hr0_1) e25) rfl (oG rfl hy26 (fA 4 Tryz.underlying58 rfl ts3 rfl rfl rfl) rfl (oG rfl hy26 (stp_load1 ts3 rfl (Cells.el (Rdb.ro hr0_1) (by decide) e25 4 1 rfl)) rfl (oG rfl hy26 (mv rfl) rfl (oG rfl hy26 (stp_eql rfl rfl) rfl (oD (stp_pick_t rfl hy26 rfl) rfl ?_))))))))
     obtain rfl := sI ey26
     exact ow_nil (jy 9 0)
    have ey26 := cond_f ey26 hy26
    refine oO rfl hy26 rfl (oO rfl hy26 rfl (oO rfl hy26 rfl (oO rfl hy26 rfl (oO rfl hy26 rfl (oO rfl hy26 rfl (oO rfl hy26 rfl (oO rfl hy26 rfl (oD (stp_pick_f rfl hy26 rfl) rfl ?_))))))))
    obtain rfl := sI ey26
    exact ow_nil (jy 9 0)
   refine ow_nil (kw_nx (cw_cond rfl (fun h27 => ?_) (fun h27 => ?_)))
   ·have H1 := cond_t H1 h27
    obtain ⟨x28, e28, H1⟩ := bS H1
    refine cw_region (oA 1 Tryz.underlying26 rfl ts24 rfl (oL 4 ts24 rfl (oM rfl (oM rfl (oD (stp_indexAddr Tryz.underlying24 ts58 (by decide) rfl (by simp [hl22]) rfl (Rdb.own (id := 3) rfl o22) e28) rfl (oA 4 Tryz.underlying58 rfl ts3 rfl (oF (stpU_storeEl (id := 3) (i := 4) (⟨x28.u, x28.k, x28.r, x13.nx⟩ : F) (by decide) ts3 rfl rfl rfl o22 e28 rfl rfl rfl rfl) ?_)))))))
    rintro _ _ ⟨C29, rfl, o29⟩
    obtain ⟨x30, e30, H1⟩ := bS H1
    exact ow_nil (kw_bl_normal (kw_nx (cw_region (oM rfl (oP e30 rfl (oS rfl (ow_nil (kw_lqS (js := [0, 1, 2, 3, 4]) (fuel, (v21.set (Int.toNat v23) (⟨x28.u, x28.k, x28.r, x13.nx⟩ : F)), x30, C29) ⟨H1, (by simp [hl22]), o29⟩ (Nat.lt_succ_self _) ⟨rfl, rfl, rfl, rfl, rfl, rfl, trivial⟩ ⟨0, [1, 2, 3, 4], rfl, rfl, 1, [2, 3, 4], rfl, rfl, 2, [3, 4], rfl, rfl, 3, [4], rfl, rfl, 4, [], rfl, rfl, trivial⟩ (by decide)))))))))
   have H1 := cond_f H1 h27
   obtain ⟨x31, e31, H1⟩ := bS H1
   exact cw_skip (kw_bl_normal (kw_nx (cw_region (oM rfl (oP e31 rfl (oS rfl (ow_nil (kw_lqS (js := [0, 1, 2, 3, 4]) (fuel, v21, x31, C22) ⟨H1, (by simp [hl22]), o22⟩ (Nat.lt_succ_self _) ⟨rfl, rfl, rfl, rfl, rfl, rfl, trivial⟩ ⟨0, [1, 2, 3, 4], rfl, rfl, 1, [2, 3, 4], rfl, rfl, 2, [3, 4], rfl, rfl, 3, [4], rfl, rfl, 4, [], rfl, rfl, trivial⟩ (by decide)))))))))
  have H1 := cond_f H1 h24
  refine cw_exit (kw_nx_exit (kw_lq_exit (kw_bl ?_)))
  obtain rfl := sI H1
  exact kw_joinS (js := [0, 1, 2, 3, 4]) (v21, v23, C22) ⟨rfl, (by simp [hl22]), o22⟩ ⟨rfl, rfl, rfl, rfl, rfl, rfl, trivial⟩ ⟨0, [1, 2, 3, 4], rfl, rfl, 1, [2, 3, 4], rfl, rfl, 2, [3, 4], rfl, rfl, 3, [4], rfl, rfl, 4, [], rfl, rfl, trivial⟩ (by decide)
 rintro ⟨v21, v23, C22⟩ ⟨rfl, hl22, o22⟩
 dsimp only
 refine kw_nx (sr (oB2 4 ts26 rfl (oC2 1 ts26 rfl rfl (nn (cw_ret ?_)))))
 obtain rfl := sI H0
 exact kr Tryz.results159 (rC2 1 ts26 rfl rfl) [2, 3] ⟨_, _, _, _, _, _, _, _, rfl, rfl, rfl, o7, (by simp [hl22]), o22⟩

theorem c_s_UnmapPage (fl : Nat) (w : World) (a0 : T) (a1 : K) (hn0_0 : n0_0 = (a0.b).length) (hr0_0 : RO w (hkeys []) (RdL p0_0 c0_0 a0.b)) (hn0_1 : n0_1 = (a0.f).length) (hr0_1 : RO w (hkeys []) (RdL p0_1 c0_1 a0.f)) (r : T × Bool) (H0 : s_UnmapPage fl a0 a1 = some r) :
  Ct Tryz.prog 157 [.agg #[.slice p0_0 n0_0 c0_0, .slice p0_1 n0_1 c0_1], .agg #[.int .i64 a1.s, .int .i64 a1.p]] w [] (fun rv h' => ∃ (x0 : Option Addr) (y0 z0 : Nat) (C0 : Res) (x1 : Option Addr) (y1 z1 : Nat) (C1 : Res), rv = .tuple #[.agg #[.slice x0 y0 z0, .slice x1 y1 z1], .bool r.2] ∧ h' = [(0, C0), (1, C1)] ∧ y0 = (r.1.b).length ∧ OwnC 3 x0 z0 r.1.b C0 ∧ y1 = (r.1.f).length ∧ OwnC 58 x1 z1 r.1.f C1) := by
 subst hn0_0 hn0_1
 unfold s_UnmapPage at H0
 refine ct_of_cw Tryz.func157 rfl Tryz.ntmps157 rfl (Sat.refl _ _) ?_
 refine sr (oE (stpU_box 0 rfl rfl) rfl ?_)
 rintro _ _ ⟨b1, rfl, rfl⟩
 refine oE (stpU_box 1 rfl rfl) rfl ?_
 rintro _ _ ⟨b2, rfl, rfl⟩
 refine oE (stpU_alloc 2 tz26 rfl) rfl ?_
 rintro _ _ ⟨b3, rfl, rfl⟩
 obtain ⟨x4, e4, H0⟩ := bS H0
 refine oS rfl (nn (sr (oB2 0 ts26 rfl (oB2 1 ts47 rfl (oE (stpU_call (fun i => 3 + i) cf127 (fun w hw => c_s_FindPage fl w a0 a1 rfl (RO.pass hr0_0 hw) rfl (RO.pass hr0_1 hw) x4 e4) (yB rfl rfl)) rfl ?_)))))
 rintro _ _ ⟨_, ⟨rfl, rfl⟩, rfl⟩
 refine oM rfl (oT rfl (oT rfl (oT rfl (oS rfl (oS rfl (oS rfl (nn (cw_seq (sr (oM rfl (oK rfl (nn (cw_cond rfl (fun h5 => ?_) (fun h5 => ?_))))))))))))))
 ·have H0 := cond_t H0 h5
  refine sr (oD (stp_build (cs := #[.slice none 0 0, .slice none 0 0]) sevp_nil bt26_0) rfl (oC2 2 ts26 rfl rfl (oS rfl (nn (cw_ret (kw_nx_ret (kw_addNil 3 (kw_addNil 4 ?_))))))))
  obtain rfl := sI H0
  exact kr Tryz.results157 (.cons (.cellN (us := [_, _]) ts26 rfl (Cells.box (id := 2) rfl 2 rfl)) (rT rfl)) [3, 4] ⟨_, _, _, _, _, _, _, _, rfl, rfl, rfl, (OwnC.nil _ _), rfl, (OwnC.nil _ _)⟩
 have H0 := cond_f H0 h5
 obtain ⟨x6, e6, H0⟩ := bS H0
 refine cw_skip (kw_nx (sr (oB2 0 ts26 rfl (oM rfl (oE (stpU_call (fun i => 5 + i) cf159 (fun w hw => c_s_l3Unmap fl w a0 x4.1 rfl (RO.pass hr0_0 hw) rfl (RO.pass hr0_1 hw) x6 e6) (yB rfl rfl)) rfl ?_)))))
 rintro _ _ ⟨_, ⟨p7, _, c9, C10, p11, _, c13, C14, rfl, rfl, rfl, o10, rfl, o14⟩, rfl⟩
 refine oC2 2 ts26 rfl rfl (oS rfl (nn (cw_ret ?_)))
 obtain rfl := sI H0
 exact kr Tryz.results157 (.cons (.cellN (us := [_, _]) ts26 rfl (Cells.box (id := 2) rfl 2 rfl)) (rT rfl)) [5, 6] ⟨_, _, _, _, _, _, _, _, rfl, rfl, rfl, o10, rfl, o14⟩

theorem c_s_l4Tag (fl : Nat) (w : World) (a0 : Int) (r : Bool) (H0 : s_l4Tag fl a0 = some r) :
  Ct Tryz.prog 158 [.int .i64 a0] w [] (fun rv h' => rv = .bool r ∧ h' = []) := by
 unfold s_l4Tag at H0
 refine ct_of_cw Tryz.func158 rfl Tryz.ntmps158 rfl (Sat.refl _ _) ?_
 obtain ⟨y1, ey1, H0⟩ := bS H0
 refine sr (oS rfl (nn (sr (oM rfl (oI rfl (oM rfl (ow_cutY 3 8 y1 ?_ ?_)))))))
 ·rcases Bool.eq_false_or_eq_true (decide ((-1) ≤ a0)) with hy1 | hy1
  ·have ey1 := cond_t ey1 hy1
   refine oG rfl hy1 (mv rfl) rfl (oG rfl hy1 (stp_lss rfl rfl) rfl (oD (stp_pick_t rfl hy1 rfl) rfl ?_))
   obtain rfl := sI ey1
   exact ow_nil (jy 3 0)
  have ey1 := cond_f ey1 hy1
  refine oO rfl hy1 rfl (oO rfl hy1 rfl (oD (stp_pick_f rfl hy1 rfl) rfl ?_))
  obtain rfl := sI ey1
  exact ow_nil (jy 3 0)
 refine oS rfl (nn (cw_ret ?_))
 obtain rfl := sI H0
 exact kr Tryz.results158 (rT rfl) [] ⟨rfl, rfl⟩

theorem c_s_FindLine (fl : Nat) (w : World) (a0 : Ca) (a1 : Int) (a2 : Int) (hn0_0 : n0_0 = (a0.l).length) (hr0_0 : RO w (hkeys []) (RdL p0_0 c0_0 a0.l)) (r : Int × Bool) (H0 : s_FindLine fl a0 a1 a2 = some r) :
  Ct Tryz.prog 155 [.agg #[.slice p0_0 n0_0 c0_0, .int .i64 a0.h], .int .i64 a1, .int .i64 a2] w [] (fun rv h' => rv = .tuple #[.int .i64 r.1, .bool r.2] ∧ h' = []) := by
 subst hn0_0
 unfold s_FindLine at H0
 refine ct_of_cw Tryz.func155 rfl Tryz.ntmps155 rfl (Sat.refl _ _) ?_
 refine sr (oE (stpU_box 0 rfl rfl) rfl ?_)
 rintro _ _ ⟨b1, rfl, rfl⟩
 obtain ⟨x2, e2, H0⟩ := bS H0
 refine oS rfl (oS rfl (nn (cw_seq (sr (oB2 0 ts29 rfl (oE (stpU_call (fun i => 1 + i) cf106 (fun w hw => c_s_CacheValid fl w a0 rfl (RO.pass hr0_0 hw) x2 e2) (yA rfl)) rfl ?_))))))
 rintro _ _ ⟨_, ⟨rfl, rfl⟩, rfl⟩
 obtain ⟨y3, ey3, H0⟩ := bS H0
 refine oK rfl (oM rfl (ow_cutY 4 16 y3 ?_ ?_))
 ·rcases Bool.eq_false_or_eq_true (!x2) with hy3 | hy3
  ·have ey3 := cond_t ey3 hy3
   refine oO rfl hy3 rfl (oO rfl hy3 rfl (oO rfl hy3 rfl (oD (stp_pick_t rfl hy3 rfl) rfl ?_)))
   obtain rfl := sI ey3
   exact ow_nil (jy 4 0)
  have ey3 := cond_f ey3 hy3
  obtain ⟨x4, e4, ey3⟩ := bS ey3
  refine oG rfl hy3 (mv rfl) rfl (ow_eff (.some rfl hy3) (stpU_call (fun i => 1 + i) cf158 (fun w hw => c_s_l4Tag fl w a1 x4 e4) (yA rfl)) rfl ?_)
  rintro _ _ ⟨_, ⟨rfl, rfl⟩, rfl⟩
  refine oG rfl hy3 (stp_not rfl) rfl (oD (stp_pick_f rfl hy3 rfl) rfl ?_)
  obtain rfl := sI ey3
  exact ow_nil (jy 4 0)
 obtain ⟨y5, ey5, H0⟩ := bS H0
 refine oM rfl (ow_cutY 4 21 y5 ?_ ?_)
 ·rcases Bool.eq_false_or_eq_true y3 with hy5 | hy5
  ·have ey5 := cond_t ey5 hy5
   refine oO rfl hy5 rfl (oO rfl hy5 rfl (oO rfl hy5 rfl (oD (stp_pick_t rfl hy5 rfl) rfl ?_)))
   obtain rfl := sI ey5
   exact ow_nil (jy 4 0)
  have ey5 := cond_f ey5 hy5
  obtain ⟨x6, e6, ey5⟩ := bS ey5
  refine oG rfl hy5 (mv rfl) rfl (ow_eff (.some rfl hy5) (stpU_call (fun i => 1 + i) cf84 (fun w hw => c_s_l1Page fl w a2 x6 e6) (yA rfl)) rfl ?_)
  rintro _ _ ⟨_, ⟨rfl, rfl⟩, rfl⟩
  refine oG rfl hy5 (stp_not rfl) rfl (oD (stp_pick_f rfl hy5 rfl) rfl ?_)
  obtain rfl := sI ey5
  exact ow_nil (jy 4 0)
 refine ow_nil (kw_nx (cw_cond rfl (fun h7 => ?_) (fun h7 => ?_)))
 ·have H0 := cond_t H0 h7
  refine sr (oS rfl (oS rfl (nn (cw_ret (kw_nx_ret ?_)))))
  obtain rfl := sI H0
  exact kr Tryz.results155 (.cons (.tmp rfl) (rT rfl)) [] ⟨rfl, rfl⟩
 have H0 := cond_f H0 h7
 obtain ⟨x8, e8, H0⟩ := bS H0
 refine cw_skip (kw_nx (sr (oB2 0 ts29 rfl (oM rfl (oM rfl (oE (stpU_call (fun i => 1 + i) cf87 (fun w hw => c_s_l4Find fl w a0 a1 a2 rfl (RO.pass hr0_0 hw) x8 e8) (yC rfl rfl rfl)) rfl ?_))))))
 rintro _ _ ⟨_, ⟨rfl, rfl⟩, rfl⟩
 refine oS rfl (nn (cw_seq (sr (oM rfl (oW rfl (nn (cw_cond rfl (fun h9 => ?_) (fun h9 => ?_))))))))
 ·have H0 := cond_t H0 h9
  refine sr (oS rfl (oS rfl (nn (cw_ret (kw_nx_ret ?_)))))
  obtain rfl := sI H0
  exact kr Tryz.results155 (.cons (.tmp rfl) (rT rfl)) [] ⟨rfl, rfl⟩
 have H0 := cond_f H0 h9
 refine cw_skip (kw_nx (sr (oM rfl (oS rfl (oS rfl (nn (cw_ret ?_)))))))
 obtain rfl := sI H0
 exact kr Tryz.results155 (.cons (.tmp rfl) (rT rfl)) [] ⟨rfl, rfl⟩

theorem c_s_DropPage (fl : Nat) (w : World) (a0 : Ca) (a1 : Int) (a2 : Int) (hn0_0 : n0_0 = (a0.l).length) (hr0_0 : RO w (hkeys []) (RdL p0_0 c0_0 a0.l)) (r : Ca × Bool) (H0 : s_DropPage fl a0 a1 a2 = some r) :
  Ct Tryz.prog 128 [.agg #[.slice p0_0 n0_0 c0_0, .int .i64 a0.h], .int .i64 a1, .int .i64 a2] w [] (fun rv h' => ∃ (x0 : Option Addr) (y0 z0 : Nat) (C0 : Res), rv = .tuple #[.agg #[.slice x0 y0 z0, .int .i64 r.1.h], .bool r.2] ∧ h' = [(0, C0)] ∧ y0 = (r.1.l).length ∧ OwnC 41 x0 z0 r.1.l C0) := by
 subst hn0_0
 unfold s_DropPage at H0
 refine ct_of_cw Tryz.func128 rfl Tryz.ntmps128 rfl (Sat.refl _ _) ?_
 refine sr (oE (stpU_box 0 rfl rfl) rfl ?_)
 rintro _ _ ⟨b1, rfl, rfl⟩
 refine oE (stpU_alloc 1 tz29 rfl) rfl ?_
 rintro _ _ ⟨b2, rfl, rfl⟩
 obtain ⟨x3, e3, H0⟩ := bS H0
 refine oS rfl (nn (sr (oB2 0 ts29 rfl (oM rfl (oM rfl (oE (stpU_call (fun i => 2 + i) cf155 (fun w hw => c_s_FindLine fl w a0 a1 a2 rfl (RO.pass hr0_0 hw) x3 e3) (yC rfl rfl rfl)) rfl ?_))))))
 rintro _ _ ⟨_, ⟨rfl, rfl⟩, rfl⟩
 refine oM rfl (oT rfl (oT rfl (oS rfl (oS rfl (nn (cw_seq (sr (oM rfl (oK rfl (nn (cw_cond rfl (fun h4 => ?_) (fun h4 => ?_))))))))))))
 ·have H0 := cond_t H0 h4
  refine sr (oD (stp_build (cs := #[.slice none 0 0, .int .i64 0]) sevp_nil bt29_2) rfl (oC2 1 ts29 rfl rfl (oS rfl (nn (cw_ret (kw_nx_ret (kw_addNil 2 ?_)))))))
  obtain rfl := sI H0
  exact kr Tryz.results128 (.cons (.cellN (us := [_, _]) ts29 rfl (Cells.box (id := 1) rfl 2 rfl)) (rT rfl)) [2] ⟨_, _, _, _, rfl, rfl, rfl, (OwnC.nil _ _)⟩
 have H0 := cond_f H0 h4
 obtain ⟨x5, e5, H0⟩ := bS H0
 refine cw_skip (kw_nx (sr (oB2 0 ts29 rfl (oE (stpU_call (fun i => 3 + i) cf109 (fun w hw => c_s_l4Copy fl w a0 rfl (RO.pass hr0_0 hw) x5 e5) (yA rfl)) rfl ?_))))
 rintro _ _ ⟨_, ⟨p6, _, c8, C9, rfl, rfl, rfl, o9⟩, rfl⟩
 refine oE (stpU_alloc 4 tz29 rfl) rfl ?_
 rintro _ _ ⟨b10, rfl, rfl⟩
 obtain ⟨x11, e11, H0⟩ := bS H0
 refine oC2 4 ts29 rfl rfl (nn (sr (oA 0 Tryz.underlying29 rfl ts27 rfl (oL 4 ts27 rfl (oM rfl (oD (stp_build (cs := #[.bool false, .int .i64 0, .int .i64 0, .int .i64 0, .int .i64 0, .bool false]) sevp_nil bt41_11) rfl (oD (stp_indexAddr Tryz.underlying27 ts41 (by decide) rfl rfl rfl (Rdb.own (id := 3) rfl o9) e11) rfl (oF (stpU_storeEl (id := 3) (i := 0) (⟨false, 0, 0, 0, 0, false⟩ : Ln) (by decide) ts41 rfl rfl rfl o9 e11 rfl rfl rfl rfl) ?_))))))))
 rintro _ _ ⟨C12, rfl, o12⟩
 refine nn (sr (oB2 4 ts29 rfl (oC2 1 ts29 rfl rfl (oS rfl (nn (cw_ret ?_))))))
 obtain rfl := sI H0
 exact kr Tryz.results128 (.cons (.cellN (us := [_, _]) ts29 rfl (Cells.box (id := 1) rfl 2 rfl)) (rT rfl)) [3] ⟨_, _, _, _, rfl, rfl, (by simp), o12⟩

theorem c_s_l6Forget (fl : Nat) (w : World) (a0 : Mc) (a1 : K) (hn0_0 : n0_0 = (a0.t.b).length) (hr0_0 : RO w (hkeys []) (RdL p0_0 c0_0 a0.t.b)) (hn0_1 : n0_1 = (a0.t.f).length) (hr0_1 : RO w (hkeys []) (RdL p0_1 c0_1 a0.t.f)) (hn0_2 : n0_2 = (a0.c.l).length) (hr0_2 : RO w (hkeys []) (RdL p0_2 c0_2 a0.c.l)) (hn0_3 : n0_3 = (a0.g.o).length) (hr0_3 : RO w (hkeys []) (RdL p0_3 c0_3 a0.g.o)) (r : Mc) (H0 : s_l6Forget fl a0 a1 = some r) :
  Ct Tryz.prog 75 [.agg #[.slice p0_0 n0_0 c0_0, .slice p0_1 n0_1 c0_1, .slice p0_2 n0_2 c0_2, .int .i64 a0.c.h, .int .i64 a0.g.c, .int .i64 a0.g.n, .int .i64 a0.g.r, .slice p0_3 n0_3 c0_3, .int .i64 a0.s], .agg #[.int .i64 a1.s, .int .i64 a1.p]] w [] (fun rv h' => ∃ (x0 : Option Addr) (y0 z0 : Nat) (C0 : Res) (x1 : Option Addr) (y1 z1 : Nat) (C1 : Res) (x2 : Option Addr) (y2 z2 : Nat) (C2 : Res) (x3 : Option Addr) (y3 z3 : Nat) (C3 : Res), rv = .agg #[.slice x0 y0 z0, .slice x1 y1 z1, .slice x2 y2 z2, .int .i64 r.c.h, .int .i64 r.g.c, .int .i64 r.g.n, .int .i64 r.g.r, .slice x3 y3 z3, .int .i64 r.s] ∧ h' = [(0, C0), (1, C1), (2, C2), (3, C3)] ∧ y0 = (r.t.b).length ∧ OwnC 3 x0 z0 r.t.b C0 ∧ y1 = (r.t.f).length ∧ OwnC 58 x1 z1 r.t.f C1 ∧ y2 = (r.c.l).length ∧ OwnC 41 x2 z2 r.c.l C2 ∧ y3 = (r.g.o).length ∧ OwnC 118 x3 z3 r.g.o C3) := by
 subst hn0_0 hn0_1 hn0_2 hn0_3
 unfold s_l6Forget at H0
 refine ct_of_cw Tryz.func75 rfl Tryz.ntmps75 rfl (Sat.refl _ _) ?_
 refine sr (oE (stpU_box 0 rfl rfl) rfl ?_)
 rintro _ _ ⟨b1, rfl, rfl⟩
 refine oE (stpU_box 1 rfl rfl) rfl ?_
 rintro _ _ ⟨b2, rfl, rfl⟩
 refine oE (stpU_alloc 2 tz34 rfl) rfl ?_
 rintro _ _ ⟨b3, rfl, rfl⟩
 obtain ⟨x4, e4, H0⟩ := bS H0
 refine nn (sr (oB9 0 ts34 rfl (oE (stpU_call (fun i => 3 + i) cf52 (fun w hw => c_s_l6Copy fl w a0 rfl (RO.pass hr0_0 hw) rfl (RO.pass hr0_1 hw) rfl (RO.pass hr0_2 hw) rfl (RO.pass hr0_3 hw) x4 e4) (yA rfl)) rfl ?_)))
 rintro _ _ ⟨_, ⟨p5, _, c7, C8, p9, _, c11, C12, p13, _, c15, C16, p17, _, c19, C20, rfl, rfl, rfl, o8, rfl, o12, rfl, o16, rfl, o20⟩, rfl⟩
 refine oE (stpU_alloc 7 tz34 rfl) rfl ?_
 rintro _ _ ⟨b21, rfl, rfl⟩
 obtain ⟨x22, e22, H0⟩ := bS H0
 refine oC9 7 ts34 rfl rfl (nn (sr (oB9 0 ts34 rfl (oA 0 Tryz.underlying47 rfl ts3 rfl (oL 1 ts3 rfl (oA 1 Tryz.underlying47 rfl ts3 rfl (oL 1 ts3 rfl (oE (stpU_call (fun i => 8 + i) cf86 (fun w hw => c_s_l6Tag fl w a0 a1.s a1.p rfl (RO.pass hr0_0 hw) rfl (RO.pass hr0_1 hw) rfl (RO.pass hr0_2 hw) rfl (RO.pass hr0_3 hw) x22 e22) (yC rfl rfl rfl)) rfl ?_))))))))
 rintro _ _ ⟨_, ⟨rfl, rfl⟩, rfl⟩
 refine oM rfl (oT rfl (oT rfl (oS rfl (oS rfl (nn (cw_seq (sr (oM rfl (oK rfl (nn (cw_cond rfl (fun h23 => ?_) (fun h23 => ?_))))))))))))
 ·have H0 := cond_t H0 h23
  refine sr (oB9 7 ts34 rfl (oC9 2 ts34 rfl rfl (nn (cw_ret (kw_nx_ret ?_)))))
  obtain rfl := sI H0
  exact kr Tryz.results75 (rC9 2 ts34 rfl rfl) [3, 4, 5, 6] ⟨_, _, _, _, _, _, _, _, _, _, _, _, _, _, _, _, rfl, rfl, rfl, o8, rfl, o12, rfl, o16, rfl, o20⟩
 have H0 := cond_f H0 h23
 obtain ⟨x24, e24, H0⟩ := bS H0
 refine cw_skip (kw_nx (sr (oA 2 Tryz.underlying34 rfl ts29 rfl (oB2 0 ts29 rfl (oM rfl (oA 1 Tryz.underlying47 rfl ts3 rfl (oL 1 ts3 rfl (oE (stpU_call (fun i => 8 + i) cf128 (fun w hw => c_s_DropPage fl w a0.c x22.1 a1.p rfl (RO.pass hr0_2 hw) x24 e24) (yC rfl rfl rfl)) rfl ?_))))))))
 rintro _ _ ⟨_, ⟨p25, _, c27, C28, rfl, rfl, rfl, o28⟩, rfl⟩
 refine oM rfl (oT rfl (oT rfl (oE (stpU_alloc 9 tz29 rfl) rfl ?_)))
 rintro _ _ ⟨b29, rfl, rfl⟩
 refine oC2 9 ts29 rfl rfl (oS rfl (nn (cw_seq (sr (oM rfl (nn (cw_cond rfl (fun h30 => ?_) (fun h30 => ?_))))))))
 ·have H0 := cond_t H0 h30
  refine cw_region (oB2 9 ts29 rfl (oA 2 Tryz.underlying34 rfl ts29 rfl (oC9 7 ts29 rfl rfl (nn (sr (oB9 7 ts34 rfl (oC9 2 ts34 rfl rfl (nn (cw_ret ?_)))))))))
  obtain rfl := sI H0
  exact kr Tryz.results75 (rC9 2 ts34 rfl rfl) [3, 4, 8, 6] ⟨_, _, _, _, _, _, _, _, _, _, _, _, _, _, _, _, rfl, rfl, rfl, o8, rfl, o12, rfl, o28, rfl, o20⟩
 have H0 := cond_f H0 h30
 refine cw_skip (kw_nx (sr (oB9 7 ts34 rfl (oC9 2 ts34 rfl rfl (nn (cw_ret ?_))))))
 obtain rfl := sI H0
 exact kr Tryz.results75 (rC9 2 ts34 rfl rfl) [3, 4, 5, 6] ⟨_, _, _, _, _, _, _, _, _, _, _, _, _, _, _, _, rfl, rfl, rfl, o8, rfl, o12, rfl, o16, rfl, o20⟩

theorem c_s_TakePage (fl : Nat) (w : World) (a0 : Mc) (a1 : K) (hn0_0 : n0_0 = (a0.t.b).length) (hr0_0 : RO w (hkeys []) (RdL p0_0 c0_0 a0.t.b)) (hn0_1 : n0_1 = (a0.t.f).length) (hr0_1 : RO w (hkeys []) (RdL p0_1 c0_1 a0.t.f)) (hn0_2 : n0_2 = (a0.c.l).length) (hr0_2 : RO w (hkeys []) (RdL p0_2 c0_2 a0.c.l)) (hn0_3 : n0_3 = (a0.g.o).length) (hr0_3 : RO w (hkeys []) (RdL p0_3 c0_3 a0.g.o)) (r : Mc × Bool) (H0 : s_TakePage fl a0 a1 = some r) :
  Ct Tryz.prog 153 [.agg #[.slice p0_0 n0_0 c0_0, .slice p0_1 n0_1 c0_1, .slice p0_2 n0_2 c0_2, .int .i64 a0.c.h, .int .i64 a0.g.c, .int .i64 a0.g.n, .int .i64 a0.g.r, .slice p0_3 n0_3 c0_3, .int .i64 a0.s], .agg #[.int .i64 a1.s, .int .i64 a1.p]] w [] (fun rv h' => ∃ (x0 : Option Addr) (y0 z0 : Nat) (C0 : Res) (x1 : Option Addr) (y1 z1 : Nat) (C1 : Res) (x2 : Option Addr) (y2 z2 : Nat) (C2 : Res) (x3 : Option Addr) (y3 z3 : Nat) (C3 : Res), rv = .tuple #[.agg #[.slice x0 y0 z0, .slice x1 y1 z1, .slice x2 y2 z2, .int .i64 r.1.c.h, .int .i64 r.1.g.c, .int .i64 r.1.g.n, .int .i64 r.1.g.r, .slice x3 y3 z3, .int .i64 r.1.s], .bool r.2] ∧ h' = [(0, C0), (1, C1), (2, C2), (3, C3)] ∧ y0 = (r.1.t.b).length ∧ OwnC 3 x0 z0 r.1.t.b C0 ∧ y1 = (r.1.t.f).length ∧ OwnC 58 x1 z1 r.1.t.f C1 ∧ y2 = (r.1.c.l).length ∧ OwnC 41 x2 z2 r.1.c.l C2 ∧ y3 = (r.1.g.o).length ∧ OwnC 118 x3 z3 r.1.g.o C3) := by
 subst hn0_0 hn0_1 hn0_2 hn0_3
 unfold s_TakePage at H0
 refine ct_of_cw Tryz.func153 rfl Tryz.ntmps153 rfl (Sat.refl _ _) ?_
 refine sr (oE (stpU_box 0 rfl rfl) rfl ?_)
 rintro _ _ ⟨b1, rfl, rfl⟩
 refine oE (stpU_box 1 rfl rfl) rfl ?_
 rintro _ _ ⟨b2, rfl, rfl⟩
 refine oE (stpU_alloc 2 tz34 rfl) rfl ?_
 rintro _ _ ⟨b3, rfl, rfl⟩
 obtain ⟨x4, e4, H0⟩ := bS H0
 refine oS rfl (nn (cw_seq (sr (oB9 0 ts34 rfl (oE (stpU_call (fun i => 3 + i) cf51 (fun w hw => c_s_MachineValid fl w a0 rfl (RO.pass hr0_0 hw) rfl (RO.pass hr0_1 hw) rfl (RO.pass hr0_2 hw) rfl (RO.pass hr0_3 hw) x4 e4) (yA rfl)) rfl ?_)))))
 rintro _ _ ⟨_, ⟨rfl, rfl⟩, rfl⟩
 refine oK rfl (nn (cw_cond rfl (fun h5 => ?_) (fun h5 => ?_)))
 ·have H0 := cond_t H0 h5
  refine sr (oD (stp_build (cs := #[.slice none 0 0, .slice none 0 0, .slice none 0 0, .int .i64 0, .int .i64 0, .int .i64 0, .int .i64 0, .slice none 0 0, .int .i64 0]) sevp_nil bt34_6) rfl (oC9 2 ts34 rfl rfl (oS rfl (nn (cw_ret (kw_nx_ret (kw_addNil 3 (kw_addNil 4 (kw_addNil 5 (kw_addNil 6 ?_))))))))))
  obtain rfl := sI H0
  exact kr Tryz.results153 (.cons (.cellN (us := [_, _, _, _, _, _, _, _, _]) ts34 rfl (Cells.box (id := 2) rfl 9 rfl)) (rT rfl)) [3, 4, 5, 6] ⟨_, _, _, _, _, _, _, _, _, _, _, _, _, _, _, _, rfl, rfl, rfl, (OwnC.nil _ _), rfl, (OwnC.nil _ _), rfl, (OwnC.nil _ _), rfl, (OwnC.nil _ _)⟩
 have H0 := cond_f H0 h5
 obtain ⟨x6, e6, H0⟩ := bS H0
 refine cw_skip (kw_nx (sr (oA 0 Tryz.underlying34 rfl ts26 rfl (oB2 0 ts26 rfl (oB2 1 ts47 rfl (oE (stpU_call (fun i => 7 + i) cf157 (fun w hw => c_s_UnmapPage fl w a0.t a1 rfl (RO.pass hr0_0 hw) rfl (RO.pass hr0_1 hw) x6 e6) (yB rfl rfl)) rfl ?_))))))
 rintro _ _ ⟨_, ⟨p7, _, c9, C10, p11, _, c13, C14, rfl, rfl, rfl, o10, rfl, o14⟩, rfl⟩
 refine oM rfl (oT rfl (oT rfl (oE (stpU_alloc 9 tz26 rfl) rfl ?_)))
 rintro _ _ ⟨b15, rfl, rfl⟩
 refine oC2 9 ts26 rfl rfl (oS rfl (nn (cw_seq (sr (oM rfl (oK rfl (nn (cw_cond rfl (fun h16 => ?_) (fun h16 => ?_)))))))))
 ·have H0 := cond_t H0 h16
  refine sr (oD (stp_build (cs := #[.slice none 0 0, .slice none 0 0, .slice none 0 0, .int .i64 0, .int .i64 0, .int .i64 0, .int .i64 0, .slice none 0 0, .int .i64 0]) sevp_nil bt34_6) rfl (oC9 2 ts34 rfl rfl (oS rfl (nn (cw_ret (kw_nx_ret (kw_addNil 10 (kw_addNil 11 (kw_addNil 12 (kw_addNil 13 ?_))))))))))
  obtain rfl := sI H0
  exact kr Tryz.results153 (.cons (.cellN (us := [_, _, _, _, _, _, _, _, _]) ts34 rfl (Cells.box (id := 2) rfl 9 rfl)) (rT rfl)) [10, 11, 12, 13] ⟨_, _, _, _, _, _, _, _, _, _, _, _, _, _, _, _, rfl, rfl, rfl, (OwnC.nil _ _), rfl, (OwnC.nil _ _), rfl, (OwnC.nil _ _), rfl, (OwnC.nil _ _)⟩
 have H0 := cond_f H0 h16
 obtain ⟨x17, e17, H0⟩ := bS H0
 refine cw_skip (kw_nx (sr (oB9 0 ts34 rfl (oB2 1 ts47 rfl (oE (stpU_call (fun i => 14 + i) cf75 (fun w hw => c_s_l6Forget fl w a0 a1 rfl (RO.pass hr0_0 hw) rfl (RO.pass hr0_1 hw) rfl (RO.pass hr0_2 hw) rfl (RO.pass hr0_3 hw) x17 e17) (yB rfl rfl)) rfl ?_)))))
 rintro _ _ ⟨_, ⟨p18, _, c20, C21, p22, _, c24, C25, p26, _, c28, C29, p30, _, c32, C33, rfl, rfl, rfl, o21, rfl, o25, rfl, o29, rfl, o33⟩, rfl⟩
 refine oE (stpU_alloc 18 tz34 rfl) rfl ?_
 rintro _ _ ⟨b34, rfl, rfl⟩
 refine oC9 18 ts34 rfl rfl (nn (sr (oB2 9 ts26 rfl (oA 0 Tryz.underlying34 rfl ts26 rfl (oC9 18 ts26 rfl rfl (nn (sr (oB9 18 ts34 rfl (oC9 2 ts34 rfl rfl (oS rfl (nn (cw_ret ?_))))))))))))
 obtain rfl := sI H0
 exact kr Tryz.results153 (.cons (.cellN (us := [_, _, _, _, _, _, _, _, _]) ts34 rfl (Cells.box (id := 2) rfl 9 rfl)) (rT rfl)) [7, 8, 16, 17] ⟨_, _, _, _, _, _, _, _, _, _, _, _, _, _, _, _, rfl, rfl, rfl, o10, rfl, o14, rfl, o29, rfl, o33⟩

theorem c_s_l6Step (fl : Nat) (w : World) (m0 : Nat) (a0_0 : (List UInt8)) (a0_1 : Int) (a1 : Mc) (hn0_0_0 : n0_0_0 = (a0_0).length) (hr0_0_0 : RO w (hkeys [(0, [(m0, .cells #[.slice p0_0_0 n0_0_0 c0_0_0, .int .i64 a0_1] 124 (0, 0))]), (1, C1_0), (2, C1_1), (3, C1_2), (4, C1_3)]) (RdL p0_0_0 c0_0_0 a0_0)) (hn1_0 : n1_0 = (a1.t.b).length) (ho1_0 : OwnC 3 p1_0 c1_0 a1.t.b C1_0) (hn1_1 : n1_1 = (a1.t.f).length) (ho1_1 : OwnC 58 p1_1 c1_1 a1.t.f C1_1) (hn1_2 : n1_2 = (a1.c.l).length) (ho1_2 : OwnC 41 p1_2 c1_2 a1.c.l C1_2) (hn1_3 : n1_3 = (a1.g.o).length) (ho1_3 : OwnC 118 p1_3 c1_3 a1.g.o C1_3) (hM : Sat w (hkeys [(0, [(m0, .cells #[.slice p0_0_0 n0_0_0 c0_0_0, .int .i64 a0_1] 124 (0, 0))]), (1, C1_0), (2, C1_1), (3, C1_2), (4, C1_3)]) w [(0, [(m0, .cells #[.slice p0_0_0 n0_0_0 c0_0_0, .int .i64 a0_1] 124 (0, 0))]), (1, C1_0), (2, C1_1), (3, C1_2), (4, C1_3)]) (r : Mc × Int) (H0 : s_l6Step fl a0_0 a0_1 a1 = some r) :
  Ct Tryz.prog 121 [.pointer (some ⟨m0, 0, none⟩), .agg #[.slice p1_0 n1_0 c1_0, .slice p1_1 n1_1 c1_1, .slice p1_2 n1_2 c1_2, .int .i64 a1.c.h, .int .i64 a1.g.c, .int .i64 a1.g.n, .int .i64 a1.g.r, .slice p1_3 n1_3 c1_3, .int .i64 a1.s]] w [(0, [(m0, .cells #[.slice p0_0_0 n0_0_0 c0_0_0, .int .i64 a0_1] 124 (0, 0))]), (1, C1_0), (2, C1_1), (3, C1_2), (4, C1_3)] (fun rv h' => ∃ (x5 : Option Addr) (y5 z5 : Nat) (C5 : Res) (x6 : Option Addr) (y6 z6 : Nat) (C6 : Res) (x7 : Option Addr) (y7 z7 : Nat) (C7 : Res) (x8 : Option Addr) (y8 z8 : Nat) (C8 : Res), rv = .agg #[.slice x5 y5 z5, .slice x6 y6 z6, .slice x7 y7 z7, .int .i64 r.1.c.h, .int .i64 r.1.g.c, .int .i64 r.1.g.n, .int .i64 r.1.g.r, .slice x8 y8 z8, .int .i64 r.1.s] ∧ h' = [(0, [(m0, .cells #[.slice p0_0_0 n0_0_0 c0_0_0, .int .i64 r.2] 124 (0, 0))]), (1, []), (2, []), (3, []), (4, []), (5, C5), (6, C6), (7, C7), (8, C8)] ∧ y5 = (r.1.t.b).length ∧ OwnC 3 x5 z5 r.1.t.b C5 ∧ y6 = (r.1.t.f).length ∧ OwnC 58 x6 z6 r.1.t.f C6 ∧ y7 = (r.1.c.l).length ∧ OwnC 41 x7 z7 r.1.c.l C7 ∧ y8 = (r.1.g.o).length ∧ OwnC 118 x8 z8 r.1.g.o C8) := by
 subst hn0_0_0 hn1_0 hn1_1 hn1_2 hn1_3
 unfold s_l6Step at H0
 refine ct_of_cw Tryz.func121 rfl Tryz.ntmps121 rfl hM ?_
 refine sr (oE (stpU_box 5 rfl rfl) rfl ?_)
 rintro _ _ ⟨b1, rfl, rfl⟩
 refine oE (stpU_alloc 6 tz34 rfl) rfl ?_
 rintro _ _ ⟨b2, rfl, rfl⟩
 refine nn (sr (oB9 5 ts34 rfl (oE (stpU_alloc 7 tz34 rfl) rfl ?_)))
 rintro _ _ ⟨b3, rfl, rfl⟩
 obtain ⟨x4, e4, H0⟩ := bS H0
 refine oC9 7 ts34 rfl rfl (nn (sr (oS rfl (nn (cw_seq (sr (oM rfl (oE (stpU_callM (fun i => bif Nat.beq i 0 then 0 else 8 + i) cf66 (fun w hw hb => c_s_l12Rd_pick fl w m0 a0_0 a0_1 8 rfl (RO.passM hr0_0_0 hw hb) (hw.pass (js := [0]) ⟨0, [], rfl, rfl, trivial⟩ (by decide)) x4 e4) (yB rfl rfl) ⟨rfl, (fun _ _ hp => by obtain ⟨_, rfl⟩ := hp; exact ⟨_, rfl⟩), trivial⟩) rfl ?_))))))))
 rintro _ _ ⟨_, ⟨rfl, rfl⟩, rfl⟩
 refine nn (cw_block (sr (oQ rfl (oS rfl (nn (cw_cond rfl (fun h5 => ?_) (fun h5 => ?_)))))))
 ·have H0 := cond_t H0 h5
  obtain ⟨x8, e8, H0⟩ := bS H0
  obtain ⟨x9, e9, H0⟩ := bS H0
  refine rdq g_mixed [0, 3, 5] [0, 1, 2, 3, 4, 5, 7] { dst := dS [14, 15, 16, 17, 18, 13, 19, 20, 0, 7], pre := gA [] [[], [], [], [1, 2], rn 0 4, rn 0 5, rn 0 6, rn 0 6, rn 0 7, rn 0 9], ids := gA [] [[], [], [9], [0], [11, 12, 13, 14], [], [], [], [7]], rs := rL [[(3, 0)], [(0, 0)], [], [(14, 2), (15, 3)], [(13, 1), (16, 4)], [(17, 5)], [(12, 6)], [(12, 6)], [(5, 0), (18, 7)], [(19, 8)]], rh := rL [[(5, 0)], [], [], [(0, 0), (9, 3)], [(1, 0), (2, 0), (3, 0), (4, 0)], [], [], [], [(7, 0)]], V := fun i g => gA undef [.agg #[.slice p1_0 ((a1.t.b).length) c1_0, .slice p1_1 ((a1.t.f).length) c1_1, .slice p1_2 ((a1.c.l).length) c1_2, .int .i64 a1.c.h, .int .i64 a1.g.c, .int .i64 a1.g.n, .int .i64 a1.g.r, .slice p1_3 ((a1.g.o).length) c1_3, .int .i64 a1.s], .pointer (some ⟨m0, 0, none⟩), .slice ((g 2).A 0) 4 4, .int .i64 x8.1, .tuple #[.agg #[.slice ((g 4).A 0) ((x9.1.t.b).length) ((g 4).C 0), .slice ((g 4).A 1) ((x9.1.t.f).length) ((g 4).C 1), .slice ((g 4).A 2) ((x9.1.c.l).length) ((g 4).C 2), .int .i64 x9.1.c.h, .int .i64 x9.1.g.c, .int .i64 x9.1.g.n, .int .i64 x9.1.g.r, .slice ((g 4).A 3) ((x9.1.g.o).length) ((g 4).C 3), .int .i64 x9.1.s], .bool x9.2], .tuple #[.agg #[.slice ((g 4).A 0) ((x9.1.t.b).length) ((g 4).C 0), .slice ((g 4).A 1) ((x9.1.t.f).length) ((g 4).C 1), .slice ((g 4).A 2) ((x9.1.c.l).length) ((g 4).C 2), .int .i64 x9.1.c.h, .int .i64 x9.1.g.c, .int .i64 x9.1.g.n, .int .i64 x9.1.g.r, .slice ((g 4).A 3) ((x9.1.g.o).length) ((g 4).C 3), .int .i64 x9.1.s], .bool x9.2], .agg #[.slice ((g 4).A 0) ((x9.1.t.b).length) ((g 4).C 0), .slice ((g 4).A 1) ((x9.1.t.f).length) ((g 4).C 1), .slice ((g 4).A 2) ((x9.1.c.l).length) ((g 4).C 2), .int .i64 x9.1.c.h, .int .i64 x9.1.g.c, .int .i64 x9.1.g.n, .int .i64 x9.1.g.r, .slice ((g 4).A 3) ((x9.1.g.o).length) ((g 4).C 3), .int .i64 x9.1.s], .bool x9.2, undef, .bool x9.2] i, U := fun i g => gA [] [[], [], [(9, ((g 2).R 0))], [(0, [(m0, .cells #[.slice p0_0_0 ((a0_0).length) c0_0_0, .int .i64 x8.2] 124 (0, 0))])], [(11, ((g 4).R 0)), (12, ((g 4).R 1)), (13, ((g 4).R 2)), (14, ((g 4).R 3))], [], [], [], [(7, [(b3, .cells #[.slice ((g 4).A 0) ((x9.1.t.b).length) ((g 4).C 0), .slice ((g 4).A 1) ((x9.1.t.f).length) ((g 4).C 1), .slice ((g 4).A 2) ((x9.1.c.l).length) ((g 4).C 2), .int .i64 x9.1.c.h, .int .i64 x9.1.g.c, .int .i64 x9.1.g.n, .int .i64 x9.1.g.r, .slice ((g 4).A 3) ((x9.1.g.o).length) ((g 4).C 3), .int .i64 x9.1.s] 34 (0, 0))])]] i, Φ := fun i x => gA True [True, True, OwnC (α := Int) 3 (x.A 0) 4 ([0, 1, 2, 3]) (x.R 0), True, OwnC 3 (x.A 0) (x.C 0) x9.1.t.b (x.R 0) ∧ OwnC 58 (x.A 1) (x.C 1) x9.1.t.f (x.R 1) ∧ OwnC 41 (x.A 2) (x.C 2) x9.1.c.l (x.R 2) ∧ OwnC 118 (x.A 3) (x.C 3) x9.1.g.o (x.R 3)] i } ?_ ?_
  ·refine ⟨lc rfl rfl fun hs hh => stp_loadN (us := [_, _, _, _, _, _, _, _, _]) ts34 (sv hs 3 rfl) (Cells.box (id := 5) (hh.get 5 _ rfl) 9 rfl), lM, ?_, ?_, ?_, lM, lT, lT, ?_, lS, trivial⟩
   ·refine le rfl rfl (fun g hΦ s h hs hh => (stpU_lit (sz := 1) (l := [0, 1, 2, 3]) [.int .i64 0, .int .i64 1, .int .i64 2, .int .i64 3] sl23 9 (sevp_cons rfl (sevp_cons rfl (sevp_cons rfl (sevp_cons rfl sevp_nil)))) rfl rfl rfl rfl rfl rfl rfl rfl rfl)) ?_
    rintro g _ _ ⟨p6, C7, rfl, rfl, o7⟩
    exact ⟨⟨[p6], [], [C7]⟩, o7, .inr rfl, rfl⟩
   ·refine le rfl rfl (fun g hΦ s h hs hh => (stpU_callM (fun i => bif Nat.beq i 0 then 0 else 10 + i) cf47 (fun w hw hb => c_s_l12Rd_num fl w m0 a0_0 x4.2 ([0, 1, 2, 3]) rfl (RO.passM hr0_0_0 hw hb) (by simp) (OwnC.passM (id := 9) (hh.get 9 _ rfl) (hΦ 2 rfl) hw hb ⟨rfl, trivial⟩) (hw.pass (js := [0]) ⟨0, [], rfl, (hh.get 0 _ rfl), trivial⟩ (by decide)) x8 e8) (yB (sv hs 14 rfl) (sv hs 15 rfl)) ⟨(hh.get 0 _ rfl), (fun _ _ hp => by obtain ⟨_, rfl⟩ := hp; exact ⟨_, rfl⟩), trivial⟩)) ?_
    rintro g _ _ ⟨_, ⟨rfl, rfl⟩, rfl⟩
    exact ⟨⟨[], [], []⟩, trivial, .inr rfl, rfl⟩
   ·refine le rfl rfl (fun g hΦ s h hs hh => (stpU_call (fun i => 11 + i) cf17 (fun w hw => c_s_EnterSpace fl w a1 x8.1 rfl (OwnC.pass (id := 1) (hh.get 1 _ rfl) ho1_0 hw) rfl (OwnC.pass (id := 2) (hh.get 2 _ rfl) ho1_1 hw) rfl (OwnC.pass (id := 3) (hh.get 3 _ rfl) ho1_2 hw) rfl (OwnC.pass (id := 4) (hh.get 4 _ rfl) ho1_3 hw) x9 e9) (yB (sv hs 13 rfl) (sv hs 16 rfl)))) ?_
    rintro g _ _ ⟨_, ⟨p10, _, c12, C13, p14, _, c16, C17, p18, _, c20, C21, p22, _, c24, C25, rfl, rfl, rfl, o13, rfl, o17, rfl, o21, rfl, o25⟩, rfl⟩
    exact ⟨⟨[p10, p14, p18, p22], [c12, c16, c20, c24], [C13, C17, C21, C25]⟩, ⟨o13, o17, o21, o25⟩, .inr rfl, rfl⟩
   refine le rfl rfl (fun g hΦ s h hs hh => (stpU_store (id := 7) (cs' := [.slice ((g 4).A 0) ((x9.1.t.b).length) ((g 4).C 0), .slice ((g 4).A 1) ((x9.1.t.f).length) ((g 4).C 1), .slice ((g 4).A 2) ((x9.1.c.l).length) ((g 4).C 2), .int .i64 x9.1.c.h, .int .i64 x9.1.g.c, .int .i64 x9.1.g.n, .int .i64 x9.1.g.r, .slice ((g 4).A 3) ((x9.1.g.o).length) ((g 4).C 3), .int .i64 x9.1.s]) ts34 (sv hs 5 rfl) (sv hs 18 rfl) (hh.get 7 _ rfl) rfl rfl rfl rfl)) ?_
   rintro g _ _ rfl
   exact ⟨⟨[], [], []⟩, trivial, .inl rfl, rfl⟩
  intro g hΦ
  refine kw_gen (ι := Option Addr × Res × Option Addr × Option Addr × Option Addr × Option Addr × Nat × Nat × Nat × Nat × Res × Res × Res × Res) (((g 2).A 0), ((g 2).R 0), ((g 4).A 0), ((g 4).A 1), ((g 4).A 2), ((g 4).A 3), ((g 4).C 0), ((g 4).C 1), ((g 4).C 2), ((g 4).C 3), ((g 4).R 0), ((g 4).R 1), ((g 4).R 2), ((g 4).R 3)) (fun | (p6, C7, p10, p14, p18, p22, c12, c16, c20, c24, C13, C17, C21, C25) => OwnC (α := Int) 3 p6 4 ([0, 1, 2, 3]) C7 ∧ OwnC 3 p10 c12 x9.1.t.b C13 ∧ OwnC 58 p14 c16 x9.1.t.f C17 ∧ OwnC 41 p18 c20 x9.1.c.l C21 ∧ OwnC 118 p22 c24 x9.1.g.o C25) (fun | (p6, C7, p10, p14, p18, p22, c12, c16, c20, c24, C13, C17, C21, C25) => [(3, .pointer (some ⟨b1, 0, none⟩)), (4, .pointer (some ⟨b2, 0, none⟩)), (5, .pointer (some ⟨b3, 0, none⟩)), (6, .bool x9.2)]) (fun | (p6, C7, p10, p14, p18, p22, c12, c16, c20, c24, C13, C17, C21, C25) => [(0, [(m0, .cells #[.slice p0_0_0 ((a0_0).length) c0_0_0, .int .i64 x8.2] 124 (0, 0))]), (1, C1_0), (2, C1_1), (3, C1_2), (4, C1_3), (5, [(b1, .cells #[.slice p1_0 ((a1.t.b).length) c1_0, .slice p1_1 ((a1.t.f).length) c1_1, .slice p1_2 ((a1.c.l).length) c1_2, .int .i64 a1.c.h, .int .i64 a1.g.c, .int .i64 a1.g.n, .int .i64 a1.g.r, .slice p1_3 ((a1.g.o).length) c1_3, .int .i64 a1.s] 34 (0, 0))]), (6, [(b2, .cells #[.slice none 0 0, .slice none 0 0, .slice none 0 0, .int .i64 0, .int .i64 0, .int .i64 0, .int .i64 0, .slice none 0 0, .int .i64 0] 34 (0, 0))]), (7, [(b3, .cells #[.slice p10 ((x9.1.t.b).length) c12, .slice p14 ((x9.1.t.f).length) c16, .slice p18 ((x9.1.c.l).length) c20, .int .i64 x9.1.c.h, .int .i64 x9.1.g.c, .int .i64 x9.1.g.n, .int .i64 x9.1.g.r, .slice p22 ((x9.1.g.o).length) c24, .int .i64 x9.1.s] 34 (0, 0))]), (11, C13), (12, C17), (13, C21), (14, C25)]) ⟨(hΦ 2 (by decide)), (hΦ 4 (by decide)).1, (hΦ 4 (by decide)).2.1, (hΦ 4 (by decide)).2.2.1, (hΦ 4 (by decide)).2.2.2⟩ ⟨rfl, rfl, rfl, rfl, trivial⟩ ⟨rfl, rfl, rfl, rfl, rfl, rfl, rfl, rfl, rfl, rfl, rfl, rfl, trivial⟩ ?_
  rintro ⟨p6, C7, p10, p14, p18, p22, c12, c16, c20, c24, C13, C17, C21, C25⟩ ⟨o7, o13, o17, o21, o25⟩
  dsimp only
  refine kw_bl_normal (kw_nx (cw_seq (sr (oM rfl (oK rfl (nn (cw_cond rfl (fun h26 => ?_) (fun h26 => ?_))))))))
  ·have H0 := cond_t H0 h26
   refine sr (oB9 5 ts34 rfl (oC9 6 ts34 rfl rfl (nn (cw_ret (kw_nx_ret (kw_addNil 15 (kw_addNil 16 (kw_addNil 17 (kw_addNil 18 ?_)))))))))
   obtain rfl := sI H0
   exact kr Tryz.results121 (rC9 6 ts34 rfl rfl) [0, 15, 16, 17, 18, 1, 2, 3, 4] ⟨_, _, _, _, _, _, _, _, _, _, _, _, _, _, _, _, rfl, rfl, rfl, ho1_0, rfl, ho1_1, rfl, ho1_2, rfl, ho1_3⟩
  have H0 := cond_f H0 h26
  refine cw_skip (kw_nx (sr (oB9 7 ts34 rfl (oC9 6 ts34 rfl rfl (nn (cw_ret (kw_addNil 19 (kw_addNil 20 (kw_addNil 21 (kw_addNil 22 ?_))))))))))
  obtain rfl := sI H0
  exact kr Tryz.results121 (rC9 6 ts34 rfl rfl) [0, 19, 20, 21, 22, 11, 12, 13, 14] ⟨_, _, _, _, _, _, _, _, _, _, _, _, _, _, _, _, rfl, rfl, rfl, o13, rfl, o17, rfl, o21, rfl, o25⟩
 have H0 := cond_f H0 h5
 obtain ⟨y28, ey28, H0⟩ := bS H0
 refine cw_seq (sr (oQ rfl (oS rfl (nn (cw_join (ι := Unit) (fun _ => True) (fun _ => [(0, .pointer (some ⟨m0, 0, none⟩)), (3, .pointer (some ⟨b1, 0, none⟩)), (4, .pointer (some ⟨b2, 0, none⟩)), (5, .pointer (some ⟨b3, 0, none⟩)), (6, .bool false), (9, .int .i64 x4.1), (20, .bool y28)]) (fun _ => [(0, [(m0, .cells #[.slice p0_0_0 ((a0_0).length) c0_0_0, .int .i64 x4.2] 124 (0, 0))]), (1, C1_0), (2, C1_1), (3, C1_2), (4, C1_3), (5, [(b1, .cells #[.slice p1_0 ((a1.t.b).length) c1_0, .slice p1_1 ((a1.t.f).length) c1_1, .slice p1_2 ((a1.c.l).length) c1_2, .int .i64 a1.c.h, .int .i64 a1.g.c, .int .i64 a1.g.n, .int .i64 a1.g.r, .slice p1_3 ((a1.g.o).length) c1_3, .int .i64 a1.s] 34 (0, 0))]), (6, [(b2, .cells #[.slice none 0 0, .slice none 0 0, .slice none 0 0, .int .i64 0, .int .i64 0, .int .i64 0, .int .i64 0, .slice none 0 0, .int .i64 0] 34 (0, 0))]), (7, [(b3, .cells #[.slice p1_0 ((a1.t.b).length) c1_0, .slice p1_1 ((a1.t.f).length) c1_1, .slice p1_2 ((a1.c.l).length) c1_2, .int .i64 a1.c.h, .int .i64 a1.g.c, .int .i64 a1.g.n, .int .i64 a1.g.r, .slice p1_3 ((a1.g.o).length) c1_3, .int .i64 a1.s] 34 (0, 0))])]) ?_ (fun _ _ => ?_))))))
 ·refine cw_cond rfl (fun h29 => ?_) (fun h29 => ?_)
  ·have ey28 := cond_t ey28 h29
   refine cw_skip ?_
   obtain rfl := sI ey28
   exact kw_join () trivial ⟨rfl, rfl, rfl, rfl, rfl, rfl, rfl, trivial⟩ ⟨rfl, rfl, rfl, rfl, rfl, rfl, rfl, rfl, trivial⟩
  have ey28 := cond_f ey28 h29
  refine sr (oQ rfl (oS rfl (nn (cw_cond rfl (fun h30 => ?_) (fun h30 => ?_)))))
  ·have ey28 := cond_t ey28 h30
   refine cw_skip ?_
   obtain rfl := sI ey28
   exact kw_join () trivial ⟨rfl, rfl, rfl, rfl, rfl, rfl, rfl, trivial⟩ ⟨rfl, rfl, rfl, rfl, rfl, rfl, rfl, rfl, trivial⟩
  have ey28 := cond_f ey28 h30
  refine cw_region (oQ rfl (oS rfl (ow_nil ?_)))
  obtain rfl := sI ey28
  exact kw_join () trivial ⟨rfl, rfl, rfl, rfl, rfl, rfl, rfl, trivial⟩ ⟨rfl, rfl, rfl, rfl, rfl, rfl, rfl, rfl, trivial⟩
 refine kw_nx (cw_cond rfl (fun h31 => ?_) (fun h31 => ?_))
 ·have H0 := cond_t H0 h31
  obtain ⟨x32, e32, H0⟩ := bS H0
  obtain ⟨x33, e33, H0⟩ := bS H0
  obtain ⟨x34, e34, H0⟩ := bS H0
  obtain ⟨x35, e35, H0⟩ := bS H0
  obtain ⟨x38, e38, H0⟩ := bS H0
  obtain ⟨x39, e39, H0⟩ := bS H0
  refine rdq g_mixed [0, 3, 5] [0, 1, 2, 3, 4, 5, 7] { dst := dS [26, 27, 28, 29, 30, 31, 32, 33, 34, 35, 36, 37, 38, 39, 40, 41, 25, 42, 43, 0, 7], pre := gA [] [[], [], [1], [], [1, 2, 3], rn 1 4, [], [], [7], [7, 8], [7, 8, 9], rn 1 10, [], [], rn 1 13, rn 0 15, rn 0 16, rn 0 17, rn 0 17, rn 0 18, rn 0 20], ids := gA [] [[], [], [0], [], [0], [], [], [], [], [], [], [0], [], [26], [0], [28, 29, 30, 31], [], [], [], [7]], rs := rL [[(3, 0)], [(0, 0)], [(26, 2)], [(0, 0)], [(28, 4)], [(27, 3), (29, 5)], [(0, 0)], [(3, 0)], [(32, 8)], [(33, 9)], [(34, 10)], [(31, 7), (35, 11)], [(0, 0)], [], [(37, 13), (38, 14)], [(25, 1), (30, 6), (36, 12), (39, 15)], [(40, 16)], [(24, 17)], [(24, 17)], [(5, 0), (41, 18)], [(42, 19)]], rh := rL [[(5, 0)], [], [(0, 0)], [], [(0, 3)], [], [], [], [], [(5, 0)], [], [(0, 5)], [], [], [(0, 12), (26, 14)], [(1, 0), (2, 0), (3, 0), (4, 0)], [], [], [], [(7, 0)]], V := fun i g => gA undef [.agg #[.slice p1_0 ((a1.t.b).length) c1_0, .slice p1_1 ((a1.t.f).length) c1_1, .slice p1_2 ((a1.c.l).length) c1_2, .int .i64 a1.c.h, .int .i64 a1.g.c, .int .i64 a1.g.n, .int .i64 a1.g.r, .slice p1_3 ((a1.g.o).length) c1_3, .int .i64 a1.s], .pointer (some ⟨m0, 0, none⟩), .int .i64 x32.1, .pointer (some ⟨m0, 0, none⟩), .int .i64 x33.1, .agg #[.int .i64 x34.s, .int .i64 x34.p], .pointer (some ⟨m0, 0, none⟩), .pointer (some ⟨b1, 0, none⟩), .pointer (some ⟨b1, 1, none⟩), .slice p1_1 ((a1.t.f).length) c1_1, .int .i64 ((a1.t.f).length : Int), .int .i64 x35.1, .pointer (some ⟨m0, 0, none⟩), .slice ((g 13).A 0) 3 3, .int .i64 x38.1, .tuple #[.agg #[.slice ((g 15).A 0) ((x39.1.t.b).length) ((g 15).C 0), .slice ((g 15).A 1) ((x39.1.t.f).length) ((g 15).C 1), .slice ((g 15).A 2) ((x39.1.c.l).length) ((g 15).C 2), .int .i64 x39.1.c.h, .int .i64 x39.1.g.c, .int .i64 x39.1.g.n, .int .i64 x39.1.g.r, .slice ((g 15).A 3) ((x39.1.g.o).length) ((g 15).C 3), .int .i64 x39.1.s], .bool x39.2], .tuple #[.agg #[.slice ((g 15).A 0) ((x39.1.t.b).length) ((g 15).C 0), .slice ((g 15).A 1) ((x39.1.t.f).length) ((g 15).C 1), .slice ((g 15).A 2) ((x39.1.c.l).length) ((g 15).C 2), .int .i64 x39.1.c.h, .int .i64 x39.1.g.c, .int .i64 x39.1.g.n, .int .i64 x39.1.g.r, .slice ((g 15).A 3) ((x39.1.g.o).length) ((g 15).C 3), .int .i64 x39.1.s], .bool x39.2], .agg #[.slice ((g 15).A 0) ((x39.1.t.b).length) ((g 15).C 0), .slice ((g 15).A 1) ((x39.1.t.f).length) ((g 15).C 1), .slice ((g 15).A 2) ((x39.1.c.l).length) ((g 15).C 2), .int .i64 x39.1.c.h, .int .i64 x39.1.g.c, .int .i64 x39.1.g.n, .int .i64 x39.1.g.r, .slice ((g 15).A 3) ((x39.1.g.o).length) ((g 15).C 3), .int .i64 x39.1.s], .bool x39.2, undef, .bool x39.2] i, U := fun i g => gA [] [[], [], [(0, [(m0, .cells #[.slice p0_0_0 ((a0_0).length) c0_0_0, .int .i64 x32.2] 124 (0, 0))])], [], [(0, [(m0, .cells #[.slice p0_0_0 ((a0_0).length) c0_0_0, .int .i64 x33.2] 124 (0, 0))])], [], [], [], [], [], [], [(0, [(m0, .cells #[.slice p0_0_0 ((a0_0).length) c0_0_0, .int .i64 x35.2] 124 (0, 0))])], [], [(26, ((g 13).R 0))], [(0, [(m0, .cells #[.slice p0_0_0 ((a0_0).length) c0_0_0, .int .i64 x38.2] 124 (0, 0))])], [(28, ((g 15).R 0)), (29, ((g 15).R 1)), (30, ((g 15).R 2)), (31, ((g 15).R 3))], [], [], [], [(7, [(b3, .cells #[.slice ((g 15).A 0) ((x39.1.t.b).length) ((g 15).C 0), .slice ((g 15).A 1) ((x39.1.t.f).length) ((g 15).C 1), .slice ((g 15).A 2) ((x39.1.c.l).length) ((g 15).C 2), .int .i64 x39.1.c.h, .int .i64 x39.1.g.c, .int .i64 x39.1.g.n, .int .i64 x39.1.g.r, .slice ((g 15).A 3) ((x39.1.g.o).length) ((g 15).C 3), .int .i64 x39.1.s] 34 (0, 0))])]] i, Φ := fun i x => match i with | 13 => OwnC (α := Int) 3 (x.A 0) 3 ([3, 1, 7]) (x.R 0) | 15 => OwnC 3 (x.A 0) (x.C 0) x39.1.t.b (x.R 0) ∧ OwnC 58 (x.A 1) (x.C 1) x39.1.t.f (x.R 1) ∧ OwnC 41 (x.A 2) (x.C 2) x39.1.c.l (x.R 2) ∧ OwnC 118 (x.A 3) (x.C 3) x39.1.g.o (x.R 3) | _ => True } ?_ ?_
  ·refine ⟨lc rfl rfl fun hs hh => stp_loadN (us := [_, _, _, _, _, _, _, _, _]) ts34 (sv hs 3 rfl) (Cells.box (id := 5) (hh.get 5 _ rfl) 9 rfl), lM, ?_, lM, ?_, ?_, lM, lc rfl rfl fun hs hh => stp_fieldAddr (j := 0) Tryz.underlying34 rfl ts26 rfl (sv hs 3 rfl) rfl, lc rfl rfl fun hs hh => stp_fieldAddr (j := 1) Tryz.underlying26 rfl ts24 rfl (sv hs 32 rfl) rfl, lc rfl rfl fun hs hh => stp_load1 ts24 (sv hs 33 rfl) (Cells.box (id := 5) (hh.get 5 _ rfl) 1 rfl), lc rfl rfl fun hs hh => stp_len Tryz.underlying24 (sv hs 34 rfl), ?_, lM, ?_, ?_, ?_, lM, lT, lT, ?_, lS, trivial⟩
   ·refine le rfl rfl (fun g hΦ s h hs hh => (stpU_callM (fun i => bif Nat.beq i 0 then 0 else 23 + i) cf66 (fun w hw hb => c_s_l12Rd_pick fl w m0 a0_0 x4.2 3 rfl (RO.passM hr0_0_0 hw hb) (hw.pass (js := [0]) ⟨0, [], rfl, (hh.get 0 _ rfl), trivial⟩ (by decide)) x32 e32) (yB (sv hs 26 rfl) rfl) ⟨(hh.get 0 _ rfl), (fun _ _ hp => by obtain ⟨_, rfl⟩ := hp; exact ⟨_, rfl⟩), trivial⟩)) ?_
    rintro g _ _ ⟨_, ⟨rfl, rfl⟩, rfl⟩
    exact ⟨⟨[], [], []⟩, trivial, .inr rfl, rfl⟩
   ·refine le rfl rfl (fun g hΦ s h hs hh => (stpU_callM (fun i => bif Nat.beq i 0 then 0 else 24 + i) cf126 (fun w hw hb => c_s_l6Page fl w m0 a0_0 x32.2 rfl (RO.passM hr0_0_0 hw hb) (hw.pass (js := [0]) ⟨0, [], rfl, (hh.get 0 _ rfl), trivial⟩ (by decide)) x33 e33) (yA (sv hs 28 rfl)) ⟨(hh.get 0 _ rfl), (fun _ _ hp => by obtain ⟨_, rfl⟩ := hp; exact ⟨_, rfl⟩), trivial⟩)) ?_
    rintro g _ _ ⟨_, ⟨rfl, rfl⟩, rfl⟩
    exact ⟨⟨[], [], []⟩, trivial, .inr rfl, rfl⟩
   ·refine le rfl rfl (fun g hΦ s h hs hh => (stpU_call (fun i => 25 + i) cf65 (fun w hw => c_s_KeyFor fl w x32.1 x33.1 x34 e34) (yB (sv hs 27 rfl) (sv hs 29 rfl)))) ?_
    rintro g _ _ ⟨_, ⟨rfl, rfl⟩, rfl⟩
    exact ⟨⟨[], [], []⟩, trivial, .inr rfl, rfl⟩
   ·refine le rfl rfl (fun g hΦ s h hs hh => (stpU_callM (fun i => bif Nat.beq i 0 then 0 else 25 + i) cf66 (fun w hw hb => c_s_l12Rd_pick fl w m0 a0_0 x33.2 ((a1.t.f).length : Int) rfl (RO.passM hr0_0_0 hw hb) (hw.pass (js := [0]) ⟨0, [], rfl, (hh.get 0 _ rfl), trivial⟩ (by decide)) x35 e35) (yB (sv hs 31 rfl) (sv hs 35 rfl)) ⟨(hh.get 0 _ rfl), (fun _ _ hp => by obtain ⟨_, rfl⟩ := hp; exact ⟨_, rfl⟩), trivial⟩)) ?_
    rintro g _ _ ⟨_, ⟨rfl, rfl⟩, rfl⟩
    exact ⟨⟨[], [], []⟩, trivial, .inr rfl, rfl⟩
   ·refine le rfl rfl (fun g hΦ s h hs hh => (stpU_lit (sz := 1) (l := [3, 1, 7]) [.int .i64 3, .int .i64 1, .int .i64 7] sl23 26 (sevp_cons rfl (sevp_cons rfl (sevp_cons rfl sevp_nil))) rfl rfl rfl rfl rfl rfl rfl rfl rfl)) ?_
    rintro g _ _ ⟨p36, C37, rfl, rfl, o37⟩
    exact ⟨⟨[p36], [], [C37]⟩, o37, .inr rfl, rfl⟩
   ·refine le rfl rfl (fun g hΦ s h hs hh => (stpU_callM (fun i => bif Nat.beq i 0 then 0 else 27 + i) cf47 (fun w hw hb => c_s_l12Rd_num fl w m0 a0_0 x35.2 ([3, 1, 7]) rfl (RO.passM hr0_0_0 hw hb) (by simp) (OwnC.passM (id := 26) (hh.get 26 _ rfl) (hΦ 13 rfl) hw hb ⟨rfl, trivial⟩) (hw.pass (js := [0]) ⟨0, [], rfl, (hh.get 0 _ rfl), trivial⟩ (by decide)) x38 e38) (yB (sv hs 37 rfl) (sv hs 38 rfl)) ⟨(hh.get 0 _ rfl), (fun _ _ hp => by obtain ⟨_, rfl⟩ := hp; exact ⟨_, rfl⟩), trivial⟩)) ?_
    rintro g _ _ ⟨_, ⟨rfl, rfl⟩, rfl⟩
    exact ⟨⟨[], [], []⟩, trivial, .inr rfl, rfl⟩
   ·refine le rfl rfl (fun g hΦ s h hs hh => (stpU_call (fun i => 28 + i) cf24 (fun w hw => c_s_PutPage fl w a1 x34 x35.1 x38.1 rfl (OwnC.pass (id := 1) (hh.get 1 _ rfl) ho1_0 hw) rfl (OwnC.pass (id := 2) (hh.get 2 _ rfl) ho1_1 hw) rfl (OwnC.pass (id := 3) (hh.get 3 _ rfl) ho1_2 hw) rfl (OwnC.pass (id := 4) (hh.get 4 _ rfl) ho1_3 hw) x39 e39) (yD (sv hs 25 rfl) (sv hs 30 rfl) (sv hs 36 rfl) (sv hs 39 rfl)))) ?_
    rintro g _ _ ⟨_, ⟨p40, _, c42, C43, p44, _, c46, C47, p48, _, c50, C51, p52, _, c54, C55, rfl, rfl, rfl, o43, rfl, o47, rfl, o51, rfl, o55⟩, rfl⟩
    exact ⟨⟨[p40, p44, p48, p52], [c42, c46, c50, c54], [C43, C47, C51, C55]⟩, ⟨o43, o47, o51, o55⟩, .inr rfl, rfl⟩
   refine le rfl rfl (fun g hΦ s h hs hh => (stpU_store (id := 7) (cs' := [.slice ((g 15).A 0) ((x39.1.t.b).length) ((g 15).C 0), .slice ((g 15).A 1) ((x39.1.t.f).length) ((g 15).C 1), .slice ((g 15).A 2) ((x39.1.c.l).length) ((g 15).C 2), .int .i64 x39.1.c.h, .int .i64 x39.1.g.c, .int .i64 x39.1.g.n, .int .i64 x39.1.g.r, .slice ((g 15).A 3) ((x39.1.g.o).length) ((g 15).C 3), .int .i64 x39.1.s]) ts34 (sv hs 5 rfl) (sv hs 41 rfl) (hh.get 7 _ rfl) rfl rfl rfl rfl)) ?_
   rintro g _ _ rfl
   exact ⟨⟨[], [], []⟩, trivial, .inl rfl, rfl⟩
  intro g hΦ
  refine kw_gen (ι := Option Addr × Res × Option Addr × Option Addr × Option Addr × Option Addr × Nat × Nat × Nat × Nat × Res × Res × Res × Res) (((g 13).A 0), ((g 13).R 0), ((g 15).A 0), ((g 15).A 1), ((g 15).A 2), ((g 15).A 3), ((g 15).C 0), ((g 15).C 1), ((g 15).C 2), ((g 15).C 3), ((g 15).R 0), ((g 15).R 1), ((g 15).R 2), ((g 15).R 3)) (fun | (p36, C37, p40, p44, p48, p52, c42, c46, c50, c54, C43, C47, C51, C55) => OwnC (α := Int) 3 p36 3 ([3, 1, 7]) C37 ∧ OwnC 3 p40 c42 x39.1.t.b C43 ∧ OwnC 58 p44 c46 x39.1.t.f C47 ∧ OwnC 41 p48 c50 x39.1.c.l C51 ∧ OwnC 118 p52 c54 x39.1.g.o C55) (fun | (p36, C37, p40, p44, p48, p52, c42, c46, c50, c54, C43, C47, C51, C55) => [(3, .pointer (some ⟨b1, 0, none⟩)), (4, .pointer (some ⟨b2, 0, none⟩)), (5, .pointer (some ⟨b3, 0, none⟩)), (6, .bool x39.2)]) (fun | (p36, C37, p40, p44, p48, p52, c42, c46, c50, c54, C43, C47, C51, C55) => [(0, [(m0, .cells #[.slice p0_0_0 ((a0_0).length) c0_0_0, .int .i64 x38.2] 124 (0, 0))]), (1, C1_0), (2, C1_1), (3, C1_2), (4, C1_3), (5, [(b1, .cells #[.slice p1_0 ((a1.t.b).length) c1_0, .slice p1_1 ((a1.t.f).length) c1_1, .slice p1_2 ((a1.c.l).length) c1_2, .int .i64 a1.c.h, .int .i64 a1.g.c, .int .i64 a1.g.n, .int .i64 a1.g.r, .slice p1_3 ((a1.g.o).length) c1_3, .int .i64 a1.s] 34 (0, 0))]), (6, [(b2, .cells #[.slice none 0 0, .slice none 0 0, .slice none 0 0, .int .i64 0, .int .i64 0, .int .i64 0, .int .i64 0, .slice none 0 0, .int .i64 0] 34 (0, 0))]), (7, [(b3, .cells #[.slice p40 ((x39.1.t.b).length) c42, .slice p44 ((x39.1.t.f).length) c46, .slice p48 ((x39.1.c.l).length) c50, .int .i64 x39.1.c.h, .int .i64 x39.1.g.c, .int .i64 x39.1.g.n, .int .i64 x39.1.g.r, .slice p52 ((x39.1.g.o).length) c54, .int .i64 x39.1.s] 34 (0, 0))]), (28, C43), (29, C47), (30, C51), (31, C55)]) ⟨(hΦ 13 (by decide)), (hΦ 15 (by decide)).1, (hΦ 15 (by decide)).2.1, (hΦ 15 (by decide)).2.2.1, (hΦ 15 (by decide)).2.2.2⟩ ⟨rfl, rfl, rfl, rfl, trivial⟩ ⟨rfl, rfl, rfl, rfl, rfl, rfl, rfl, rfl, rfl, rfl, rfl, rfl, trivial⟩ ?_
  rintro ⟨p36, C37, p40, p44, p48, p52, c42, c46, c50, c54, C43, C47, C51, C55⟩ ⟨o37, o43, o47, o51, o55⟩
  dsimp only
  refine kw_bl_normal (kw_nx (cw_seq (sr (oM rfl (oK rfl (nn (cw_cond rfl (fun h56 => ?_) (fun h56 => ?_))))))))
  ·have H0 := cond_t H0 h56
   refine sr (oB9 5 ts34 rfl (oC9 6 ts34 rfl rfl (nn (cw_ret (kw_nx_ret (kw_addNil 32 (kw_addNil 33 (kw_addNil 34 (kw_addNil 35 ?_)))))))))
   obtain rfl := sI H0
   exact kr Tryz.results121 (rC9 6 ts34 rfl rfl) [0, 32, 33, 34, 35, 1, 2, 3, 4] ⟨_, _, _, _, _, _, _, _, _, _, _, _, _, _, _, _, rfl, rfl, rfl, ho1_0, rfl, ho1_1, rfl, ho1_2, rfl, ho1_3⟩
  have H0 := cond_f H0 h56
  refine cw_skip (kw_nx (sr (oB9 7 ts34 rfl (oC9 6 ts34 rfl rfl (nn (cw_ret (kw_addNil 36 (kw_addNil 37 (kw_addNil 38 (kw_addNil 39 ?_))))))))))
  obtain rfl := sI H0
  exact kr Tryz.results121 (rC9 6 ts34 rfl rfl) [0, 36, 37, 38, 39, 28, 29, 30, 31] ⟨_, _, _, _, _, _, _, _, _, _, _, _, _, _, _, _, rfl, rfl, rfl, o43, rfl, o47, rfl, o51, rfl, o55⟩
 have H0 := cond_f H0 h31
 obtain ⟨y58, ey58, H0⟩ := bS H0
 refine cw_seq (sr (oQ rfl (oS rfl (nn (cw_join (ι := Unit) (fun _ => True) (fun _ => [(0, .pointer (some ⟨m0, 0, none⟩)), (3, .pointer (some ⟨b1, 0, none⟩)), (4, .pointer (some ⟨b2, 0, none⟩)), (5, .pointer (some ⟨b3, 0, none⟩)), (6, .bool false), (9, .int .i64 x4.1), (43, .bool y58)]) (fun _ => [(0, [(m0, .cells #[.slice p0_0_0 ((a0_0).length) c0_0_0, .int .i64 x4.2] 124 (0, 0))]), (1, C1_0), (2, C1_1), (3, C1_2), (4, C1_3), (5, [(b1, .cells #[.slice p1_0 ((a1.t.b).length) c1_0, .slice p1_1 ((a1.t.f).length) c1_1, .slice p1_2 ((a1.c.l).length) c1_2, .int .i64 a1.c.h, .int .i64 a1.g.c, .int .i64 a1.g.n, .int .i64 a1.g.r, .slice p1_3 ((a1.g.o).length) c1_3, .int .i64 a1.s] 34 (0, 0))]), (6, [(b2, .cells #[.slice none 0 0, .slice none 0 0, .slice none 0 0, .int .i64 0, .int .i64 0, .int .i64 0, .int .i64 0, .slice none 0 0, .int .i64 0] 34 (0, 0))]), (7, [(b3, .cells #[.slice p1_0 ((a1.t.b).length) c1_0, .slice p1_1 ((a1.t.f).length) c1_1, .slice p1_2 ((a1.c.l).length) c1_2, .int .i64 a1.c.h, .int .i64 a1.g.c, .int .i64 a1.g.n, .int .i64 a1.g.r, .slice p1_3 ((a1.g.o).length) c1_3, .int .i64 a1.s] 34 (0, 0))])]) ?_ (fun _ _ => ?_))))))
 ·refine cw_cond rfl (fun h59 => ?_) (fun h59 => ?_)
  ·have ey58 := cond_t ey58 h59
   refine cw_skip ?_
   obtain rfl := sI ey58
   exact kw_join () trivial ⟨rfl, rfl, rfl, rfl, rfl, rfl, rfl, trivial⟩ ⟨rfl, rfl, rfl, rfl, rfl, rfl, rfl, rfl, trivial⟩
  have ey58 := cond_f ey58 h59
  refine cw_region (oQ rfl (oS rfl (ow_nil ?_)))
  obtain rfl := sI ey58
  exact kw_join () trivial ⟨rfl, rfl, rfl, rfl, rfl, rfl, rfl, trivial⟩ ⟨rfl, rfl, rfl, rfl, rfl, rfl, rfl, rfl, trivial⟩
 refine kw_nx (cw_cond rfl (fun h60 => ?_) (fun h60 => ?_))
 ·have H0 := cond_t H0 h60
  obtain ⟨x61, e61, H0⟩ := bS H0
  obtain ⟨x64, e64, H0⟩ := bS H0
  obtain ⟨x65, e65, H0⟩ := bS H0
  refine rdq g_mixed [0, 3, 5] [0, 1, 2, 3, 4, 5, 7] { dst := dS [48, 49, 50, 51, 52, 53, 54, 47, 55, 56, 57, 58, 0, 7], pre := gA [] [[], [], [1], [], [], rn 1 4, rn 0 6, rn 0 7, rn 0 8, rn 0 8, rn 0 8, rn 0 8, rn 0 9, rn 0 13], ids := gA [] [[], [], [0], [], [41], [0], [43, 44, 45, 46], [], [], [], [], [], [7]], rs := rL [[(3, 0)], [(0, 0)], [(48, 2)], [(0, 0)], [], [(50, 4), (51, 5)], [(47, 1), (49, 3), (52, 6)], [(53, 7)], [(46, 8)], [(46, 8)], [(46, 8)], [(46, 8)], [(5, 0), (54, 9)], [(57, 12)]], rh := rL [[(5, 0)], [], [(0, 0)], [], [], [(0, 3), (41, 5)], [(1, 0), (2, 0), (3, 0), (4, 0)], [], [], [], [], [], [(7, 0)]], V := fun i g => gA undef [.agg #[.slice p1_0 ((a1.t.b).length) c1_0, .slice p1_1 ((a1.t.f).length) c1_1, .slice p1_2 ((a1.c.l).length) c1_2, .int .i64 a1.c.h, .int .i64 a1.g.c, .int .i64 a1.g.n, .int .i64 a1.g.r, .slice p1_3 ((a1.g.o).length) c1_3, .int .i64 a1.s], .pointer (some ⟨m0, 0, none⟩), .int .i64 x61.1, .pointer (some ⟨m0, 0, none⟩), .slice ((g 4).A 0) 3 3, .int .i64 x64.1, .tuple #[.agg #[.slice ((g 6).A 0) ((x65.1.t.b).length) ((g 6).C 0), .slice ((g 6).A 1) ((x65.1.t.f).length) ((g 6).C 1), .slice ((g 6).A 2) ((x65.1.c.l).length) ((g 6).C 2), .int .i64 x65.1.c.h, .int .i64 x65.1.g.c, .int .i64 x65.1.g.n, .int .i64 x65.1.g.r, .slice ((g 6).A 3) ((x65.1.g.o).length) ((g 6).C 3), .int .i64 x65.1.s], .int .i64 x65.2.1, .int .i64 x65.2.2.1, .bool x65.2.2.2], .tuple #[.agg #[.slice ((g 6).A 0) ((x65.1.t.b).length) ((g 6).C 0), .slice ((g 6).A 1) ((x65.1.t.f).length) ((g 6).C 1), .slice ((g 6).A 2) ((x65.1.c.l).length) ((g 6).C 2), .int .i64 x65.1.c.h, .int .i64 x65.1.g.c, .int .i64 x65.1.g.n, .int .i64 x65.1.g.r, .slice ((g 6).A 3) ((x65.1.g.o).length) ((g 6).C 3), .int .i64 x65.1.s], .int .i64 x65.2.1, .int .i64 x65.2.2.1, .bool x65.2.2.2], .agg #[.slice ((g 6).A 0) ((x65.1.t.b).length) ((g 6).C 0), .slice ((g 6).A 1) ((x65.1.t.f).length) ((g 6).C 1), .slice ((g 6).A 2) ((x65.1.c.l).length) ((g 6).C 2), .int .i64 x65.1.c.h, .int .i64 x65.1.g.c, .int .i64 x65.1.g.n, .int .i64 x65.1.g.r, .slice ((g 6).A 3) ((x65.1.g.o).length) ((g 6).C 3), .int .i64 x65.1.s], .int .i64 x65.2.1, .int .i64 x65.2.2.1, .bool x65.2.2.2, undef, .bool x65.2.2.2] i, U := fun i g => gA [] [[], [], [(0, [(m0, .cells #[.slice p0_0_0 ((a0_0).length) c0_0_0, .int .i64 x61.2] 124 (0, 0))])], [], [(41, ((g 4).R 0))], [(0, [(m0, .cells #[.slice p0_0_0 ((a0_0).length) c0_0_0, .int .i64 x64.2] 124 (0, 0))])], [(43, ((g 6).R 0)), (44, ((g 6).R 1)), (45, ((g 6).R 2)), (46, ((g 6).R 3))], [], [], [], [], [], [(7, [(b3, .cells #[.slice ((g 6).A 0) ((x65.1.t.b).length) ((g 6).C 0), .slice ((g 6).A 1) ((x65.1.t.f).length) ((g 6).C 1), .slice ((g 6).A 2) ((x65.1.c.l).length) ((g 6).C 2), .int .i64 x65.1.c.h, .int .i64 x65.1.g.c, .int .i64 x65.1.g.n, .int .i64 x65.1.g.r, .slice ((g 6).A 3) ((x65.1.g.o).length) ((g 6).C 3), .int .i64 x65.1.s] 34 (0, 0))])]] i, Φ := fun i x => match i with | 4 => OwnC (α := Int) 3 (x.A 0) 3 ([1, 0, 2]) (x.R 0) | 6 => OwnC 3 (x.A 0) (x.C 0) x65.1.t.b (x.R 0) ∧ OwnC 58 (x.A 1) (x.C 1) x65.1.t.f (x.R 1) ∧ OwnC 41 (x.A 2) (x.C 2) x65.1.c.l (x.R 2) ∧ OwnC 118 (x.A 3) (x.C 3) x65.1.g.o (x.R 3) | _ => True } ?_ ?_
  ·refine ⟨lc rfl rfl fun hs hh => stp_loadN (us := [_, _, _, _, _, _, _, _, _]) ts34 (sv hs 3 rfl) (Cells.box (id := 5) (hh.get 5 _ rfl) 9 rfl), lM, ?_, lM, ?_, ?_, ?_, lM, lT, lT, lT, lT, ?_, lS, trivial⟩
   ·refine le rfl rfl (fun g hΦ s h hs hh => (stpU_callM (fun i => bif Nat.beq i 0 then 0 else 40 + i) cf126 (fun w hw hb => c_s_l6Page fl w m0 a0_0 x4.2 rfl (RO.passM hr0_0_0 hw hb) (hw.pass (js := [0]) ⟨0, [], rfl, (hh.get 0 _ rfl), trivial⟩ (by decide)) x61 e61) (yA (sv hs 48 rfl)) ⟨(hh.get 0 _ rfl), (fun _ _ hp => by obtain ⟨_, rfl⟩ := hp; exact ⟨_, rfl⟩), trivial⟩)) ?_
    rintro g _ _ ⟨_, ⟨rfl, rfl⟩, rfl⟩
    exact ⟨⟨[], [], []⟩, trivial, .inr rfl, rfl⟩
   ·refine le rfl rfl (fun g hΦ s h hs hh => (stpU_lit (sz := 1) (l := [1, 0, 2]) [.int .i64 1, .int .i64 0, .int .i64 2] sl23 41 (sevp_cons rfl (sevp_cons rfl (sevp_cons rfl sevp_nil))) rfl rfl rfl rfl rfl rfl rfl rfl rfl)) ?_
    rintro g _ _ ⟨p62, C63, rfl, rfl, o63⟩
    exact ⟨⟨[p62], [], [C63]⟩, o63, .inr rfl, rfl⟩
   ·refine le rfl rfl (fun g hΦ s h hs hh => (stpU_callM (fun i => bif Nat.beq i 0 then 0 else 42 + i) cf47 (fun w hw hb => c_s_l12Rd_num fl w m0 a0_0 x61.2 ([1, 0, 2]) rfl (RO.passM hr0_0_0 hw hb) (by simp) (OwnC.passM (id := 41) (hh.get 41 _ rfl) (hΦ 4 rfl) hw hb ⟨rfl, trivial⟩) (hw.pass (js := [0]) ⟨0, [], rfl, (hh.get 0 _ rfl), trivial⟩ (by decide)) x64 e64) (yB (sv hs 50 rfl) (sv hs 51 rfl)) ⟨(hh.get 0 _ rfl), (fun _ _ hp => by obtain ⟨_, rfl⟩ := hp; exact ⟨_, rfl⟩), trivial⟩)) ?_
    rintro g _ _ ⟨_, ⟨rfl, rfl⟩, rfl⟩
    exact ⟨⟨[], [], []⟩, trivial, .inr rfl, rfl⟩
   ·refine le rfl rfl (fun g hΦ s h hs hh => (stpU_call (fun i => 43 + i) cf32 (fun w hw => c_s_TouchPage fl w a1 x61.1 x64.1 rfl (OwnC.pass (id := 1) (hh.get 1 _ rfl) ho1_0 hw) rfl (OwnC.pass (id := 2) (hh.get 2 _ rfl) ho1_1 hw) rfl (OwnC.pass (id := 3) (hh.get 3 _ rfl) ho1_2 hw) rfl (OwnC.pass (id := 4) (hh.get 4 _ rfl) ho1_3 hw) x65 e65) (yC (sv hs 47 rfl) (sv hs 49 rfl) (sv hs 52 rfl)))) ?_
    rintro g _ _ ⟨_, ⟨p66, _, c68, C69, p70, _, c72, C73, p74, _, c76, C77, p78, _, c80, C81, rfl, rfl, rfl, o69, rfl, o73, rfl, o77, rfl, o81⟩, rfl⟩
    exact ⟨⟨[p66, p70, p74, p78], [c68, c72, c76, c80], [C69, C73, C77, C81]⟩, ⟨o69, o73, o77, o81⟩, .inr rfl, rfl⟩
   refine le rfl rfl (fun g hΦ s h hs hh => (stpU_store (id := 7) (cs' := [.slice ((g 6).A 0) ((x65.1.t.b).length) ((g 6).C 0), .slice ((g 6).A 1) ((x65.1.t.f).length) ((g 6).C 1), .slice ((g 6).A 2) ((x65.1.c.l).length) ((g 6).C 2), .int .i64 x65.1.c.h, .int .i64 x65.1.g.c, .int .i64 x65.1.g.n, .int .i64 x65.1.g.r, .slice ((g 6).A 3) ((x65.1.g.o).length) ((g 6).C 3), .int .i64 x65.1.s]) ts34 (sv hs 5 rfl) (sv hs 54 rfl) (hh.get 7 _ rfl) rfl rfl rfl rfl)) ?_
   rintro g _ _ rfl
   exact ⟨⟨[], [], []⟩, trivial, .inl rfl, rfl⟩
  intro g hΦ
  refine kw_gen (ι := Option Addr × Res × Option Addr × Option Addr × Option Addr × Option Addr × Nat × Nat × Nat × Nat × Res × Res × Res × Res) (((g 4).A 0), ((g 4).R 0), ((g 6).A 0), ((g 6).A 1), ((g 6).A 2), ((g 6).A 3), ((g 6).C 0), ((g 6).C 1), ((g 6).C 2), ((g 6).C 3), ((g 6).R 0), ((g 6).R 1), ((g 6).R 2), ((g 6).R 3)) (fun | (p62, C63, p66, p70, p74, p78, c68, c72, c76, c80, C69, C73, C77, C81) => OwnC (α := Int) 3 p62 3 ([1, 0, 2]) C63 ∧ OwnC 3 p66 c68 x65.1.t.b C69 ∧ OwnC 58 p70 c72 x65.1.t.f C73 ∧ OwnC 41 p74 c76 x65.1.c.l C77 ∧ OwnC 118 p78 c80 x65.1.g.o C81) (fun | (p62, C63, p66, p70, p74, p78, c68, c72, c76, c80, C69, C73, C77, C81) => [(3, .pointer (some ⟨b1, 0, none⟩)), (4, .pointer (some ⟨b2, 0, none⟩)), (5, .pointer (some ⟨b3, 0, none⟩)), (6, .bool x65.2.2.2)]) (fun | (p62, C63, p66, p70, p74, p78, c68, c72, c76, c80, C69, C73, C77, C81) => [(0, [(m0, .cells #[.slice p0_0_0 ((a0_0).length) c0_0_0, .int .i64 x64.2] 124 (0, 0))]), (1, C1_0), (2, C1_1), (3, C1_2), (4, C1_3), (5, [(b1, .cells #[.slice p1_0 ((a1.t.b).length) c1_0, .slice p1_1 ((a1.t.f).length) c1_1, .slice p1_2 ((a1.c.l).length) c1_2, .int .i64 a1.c.h, .int .i64 a1.g.c, .int .i64 a1.g.n, .int .i64 a1.g.r, .slice p1_3 ((a1.g.o).length) c1_3, .int .i64 a1.s] 34 (0, 0))]), (6, [(b2, .cells #[.slice none 0 0, .slice none 0 0, .slice none 0 0, .int .i64 0, .int .i64 0, .int .i64 0, .int .i64 0, .slice none 0 0, .int .i64 0] 34 (0, 0))]), (7, [(b3, .cells #[.slice p66 ((x65.1.t.b).length) c68, .slice p70 ((x65.1.t.f).length) c72, .slice p74 ((x65.1.c.l).length) c76, .int .i64 x65.1.c.h, .int .i64 x65.1.g.c, .int .i64 x65.1.g.n, .int .i64 x65.1.g.r, .slice p78 ((x65.1.g.o).length) c80, .int .i64 x65.1.s] 34 (0, 0))]), (43, C69), (44, C73), (45, C77), (46, C81)]) ⟨(hΦ 4 (by decide)), (hΦ 6 (by decide)).1, (hΦ 6 (by decide)).2.1, (hΦ 6 (by decide)).2.2.1, (hΦ 6 (by decide)).2.2.2⟩ ⟨rfl, rfl, rfl, rfl, trivial⟩ ⟨rfl, rfl, rfl, rfl, rfl, rfl, rfl, rfl, rfl, rfl, rfl, rfl, trivial⟩ ?_
  rintro ⟨p62, C63, p66, p70, p74, p78, c68, c72, c76, c80, C69, C73, C77, C81⟩ ⟨o63, o69, o73, o77, o81⟩
  dsimp only
  refine kw_bl_normal (kw_nx (cw_seq (sr (oM rfl (oK rfl (nn (cw_cond rfl (fun h82 => ?_) (fun h82 => ?_))))))))
  ·have H0 := cond_t H0 h82
   refine sr (oB9 5 ts34 rfl (oC9 6 ts34 rfl rfl (nn (cw_ret (kw_nx_ret (kw_addNil 47 (kw_addNil 48 (kw_addNil 49 (kw_addNil 50 ?_)))))))))
   obtain rfl := sI H0
   exact kr Tryz.results121 (rC9 6 ts34 rfl rfl) [0, 47, 48, 49, 50, 1, 2, 3, 4] ⟨_, _, _, _, _, _, _, _, _, _, _, _, _, _, _, _, rfl, rfl, rfl, ho1_0, rfl, ho1_1, rfl, ho1_2, rfl, ho1_3⟩
  have H0 := cond_f H0 h82
  refine cw_skip (kw_nx (sr (oB9 7 ts34 rfl (oC9 6 ts34 rfl rfl (nn (cw_ret (kw_addNil 51 (kw_addNil 52 (kw_addNil 53 (kw_addNil 54 ?_))))))))))
  obtain rfl := sI H0
  exact kr Tryz.results121 (rC9 6 ts34 rfl rfl) [0, 51, 52, 53, 54, 43, 44, 45, 46] ⟨_, _, _, _, _, _, _, _, _, _, _, _, _, _, _, _, rfl, rfl, rfl, o69, rfl, o73, rfl, o77, rfl, o81⟩
 have H0 := cond_f H0 h60
 refine sr (oQ rfl (oS rfl (nn (cw_cond rfl (fun h83 => ?_) (fun h83 => ?_)))))
 ·have H0 := cond_t H0 h83
  obtain ⟨x86, e86, H0⟩ := bS H0
  obtain ⟨x87, e87, H0⟩ := bS H0
  refine rdq g_mixed [0, 3, 5] [0, 1, 2, 3, 4, 5, 7] { dst := dS [62, 63, 64, 65, 66, 61, 67, 68, 0, 7], pre := gA [] [[], [], [], [1, 2], rn 0 4, rn 0 5, rn 0 6, rn 0 6, rn 0 7, rn 0 9], ids := gA [] [[], [], [55], [0], [57, 58, 59, 60], [], [], [], [7]], rs := rL [[(3, 0)], [(0, 0)], [], [(62, 2), (63, 3)], [(61, 1), (64, 4)], [(65, 5)], [(60, 6)], [(60, 6)], [(5, 0), (66, 7)], [(67, 8)]], rh := rL [[(5, 0)], [], [], [(0, 0), (55, 3)], [(1, 0), (2, 0), (3, 0), (4, 0)], [], [], [], [(7, 0)]], V := fun i g => gA undef [.agg #[.slice p1_0 ((a1.t.b).length) c1_0, .slice p1_1 ((a1.t.f).length) c1_1, .slice p1_2 ((a1.c.l).length) c1_2, .int .i64 a1.c.h, .int .i64 a1.g.c, .int .i64 a1.g.n, .int .i64 a1.g.r, .slice p1_3 ((a1.g.o).length) c1_3, .int .i64 a1.s], .pointer (some ⟨m0, 0, none⟩), .slice ((g 2).A 0) 2 2, .int .i64 x86.1, .tuple #[.agg #[.slice ((g 4).A 0) ((x87.1.t.b).length) ((g 4).C 0), .slice ((g 4).A 1) ((x87.1.t.f).length) ((g 4).C 1), .slice ((g 4).A 2) ((x87.1.c.l).length) ((g 4).C 2), .int .i64 x87.1.c.h, .int .i64 x87.1.g.c, .int .i64 x87.1.g.n, .int .i64 x87.1.g.r, .slice ((g 4).A 3) ((x87.1.g.o).length) ((g 4).C 3), .int .i64 x87.1.s], .bool x87.2], .tuple #[.agg #[.slice ((g 4).A 0) ((x87.1.t.b).length) ((g 4).C 0), .slice ((g 4).A 1) ((x87.1.t.f).length) ((g 4).C 1), .slice ((g 4).A 2) ((x87.1.c.l).length) ((g 4).C 2), .int .i64 x87.1.c.h, .int .i64 x87.1.g.c, .int .i64 x87.1.g.n, .int .i64 x87.1.g.r, .slice ((g 4).A 3) ((x87.1.g.o).length) ((g 4).C 3), .int .i64 x87.1.s], .bool x87.2], .agg #[.slice ((g 4).A 0) ((x87.1.t.b).length) ((g 4).C 0), .slice ((g 4).A 1) ((x87.1.t.f).length) ((g 4).C 1), .slice ((g 4).A 2) ((x87.1.c.l).length) ((g 4).C 2), .int .i64 x87.1.c.h, .int .i64 x87.1.g.c, .int .i64 x87.1.g.n, .int .i64 x87.1.g.r, .slice ((g 4).A 3) ((x87.1.g.o).length) ((g 4).C 3), .int .i64 x87.1.s], .bool x87.2, undef, .bool x87.2] i, U := fun i g => gA [] [[], [], [(55, ((g 2).R 0))], [(0, [(m0, .cells #[.slice p0_0_0 ((a0_0).length) c0_0_0, .int .i64 x86.2] 124 (0, 0))])], [(57, ((g 4).R 0)), (58, ((g 4).R 1)), (59, ((g 4).R 2)), (60, ((g 4).R 3))], [], [], [], [(7, [(b3, .cells #[.slice ((g 4).A 0) ((x87.1.t.b).length) ((g 4).C 0), .slice ((g 4).A 1) ((x87.1.t.f).length) ((g 4).C 1), .slice ((g 4).A 2) ((x87.1.c.l).length) ((g 4).C 2), .int .i64 x87.1.c.h, .int .i64 x87.1.g.c, .int .i64 x87.1.g.n, .int .i64 x87.1.g.r, .slice ((g 4).A 3) ((x87.1.g.o).length) ((g 4).C 3), .int .i64 x87.1.s] 34 (0, 0))])]] i, Φ := fun i x => gA True [True, True, OwnC (α := Int) 3 (x.A 0) 2 ([200, 201]) (x.R 0), True, OwnC 3 (x.A 0) (x.C 0) x87.1.t.b (x.R 0) ∧ OwnC 58 (x.A 1) (x.C 1) x87.1.t.f (x.R 1) ∧ OwnC 41 (x.A 2) (x.C 2) x87.1.c.l (x.R 2) ∧ OwnC 118 (x.A 3) (x.C 3) x87.1.g.o (x.R 3)] i } ?_ ?_
  ·refine ⟨lc rfl rfl fun hs hh => stp_loadN (us := [_, _, _, _, _, _, _, _, _]) ts34 (sv hs 3 rfl) (Cells.box (id := 5) (hh.get 5 _ rfl) 9 rfl), lM, ?_, ?_, ?_, lM, lT, lT, ?_, lS, trivial⟩
   ·refine le rfl rfl (fun g hΦ s h hs hh => (stpU_lit (sz := 1) (l := [200, 201]) [.int .i64 200, .int .i64 201] sl23 55 (sevp_cons rfl (sevp_cons rfl sevp_nil)) rfl rfl rfl rfl rfl rfl rfl rfl rfl)) ?_
    rintro g _ _ ⟨p84, C85, rfl, rfl, o85⟩
    exact ⟨⟨[p84], [], [C85]⟩, o85, .inr rfl, rfl⟩
   ·refine le rfl rfl (fun g hΦ s h hs hh => (stpU_callM (fun i => bif Nat.beq i 0 then 0 else 56 + i) cf47 (fun w hw hb => c_s_l12Rd_num fl w m0 a0_0 x4.2 ([200, 201]) rfl (RO.passM hr0_0_0 hw hb) (by simp) (OwnC.passM (id := 55) (hh.get 55 _ rfl) (hΦ 2 rfl) hw hb ⟨rfl, trivial⟩) (hw.pass (js := [0]) ⟨0, [], rfl, (hh.get 0 _ rfl), trivial⟩ (by decide)) x86 e86) (yB (sv hs 62 rfl) (sv hs 63 rfl)) ⟨(hh.get 0 _ rfl), (fun _ _ hp => by obtain ⟨_, rfl⟩ := hp; exact ⟨_, rfl⟩), trivial⟩)) ?_
    rintro g _ _ ⟨_, ⟨rfl, rfl⟩, rfl⟩
    exact ⟨⟨[], [], []⟩, trivial, .inr rfl, rfl⟩
   ·refine le rfl rfl (fun g hΦ s h hs hh => (stpU_call (fun i => 57 + i) cf38 (fun w hw => c_s_WirePage fl w a1 x86.1 rfl (OwnC.pass (id := 1) (hh.get 1 _ rfl) ho1_0 hw) rfl (OwnC.pass (id := 2) (hh.get 2 _ rfl) ho1_1 hw) rfl (OwnC.pass (id := 3) (hh.get 3 _ rfl) ho1_2 hw) rfl (OwnC.pass (id := 4) (hh.get 4 _ rfl) ho1_3 hw) x87 e87) (yB (sv hs 61 rfl) (sv hs 64 rfl)))) ?_
    rintro g _ _ ⟨_, ⟨p88, _, c90, C91, p92, _, c94, C95, p96, _, c98, C99, p100, _, c102, C103, rfl, rfl, rfl, o91, rfl, o95, rfl, o99, rfl, o103⟩, rfl⟩
    exact ⟨⟨[p88, p92, p96, p100], [c90, c94, c98, c102], [C91, C95, C99, C103]⟩, ⟨o91, o95, o99, o103⟩, .inr rfl, rfl⟩
   refine le rfl rfl (fun g hΦ s h hs hh => (stpU_store (id := 7) (cs' := [.slice ((g 4).A 0) ((x87.1.t.b).length) ((g 4).C 0), .slice ((g 4).A 1) ((x87.1.t.f).length) ((g 4).C 1), .slice ((g 4).A 2) ((x87.1.c.l).length) ((g 4).C 2), .int .i64 x87.1.c.h, .int .i64 x87.1.g.c, .int .i64 x87.1.g.n, .int .i64 x87.1.g.r, .slice ((g 4).A 3) ((x87.1.g.o).length) ((g 4).C 3), .int .i64 x87.1.s]) ts34 (sv hs 5 rfl) (sv hs 66 rfl) (hh.get 7 _ rfl) rfl rfl rfl rfl)) ?_
   rintro g _ _ rfl
   exact ⟨⟨[], [], []⟩, trivial, .inl rfl, rfl⟩
  intro g hΦ
  refine kw_gen (ι := Option Addr × Res × Option Addr × Option Addr × Option Addr × Option Addr × Nat × Nat × Nat × Nat × Res × Res × Res × Res) (((g 2).A 0), ((g 2).R 0), ((g 4).A 0), ((g 4).A 1), ((g 4).A 2), ((g 4).A 3), ((g 4).C 0), ((g 4).C 1), ((g 4).C 2), ((g 4).C 3), ((g 4).R 0), ((g 4).R 1), ((g 4).R 2), ((g 4).R 3)) (fun | (p84, C85, p88, p92, p96, p100, c90, c94, c98, c102, C91, C95, C99, C103) => OwnC (α := Int) 3 p84 2 ([200, 201]) C85 ∧ OwnC 3 p88 c90 x87.1.t.b C91 ∧ OwnC 58 p92 c94 x87.1.t.f C95 ∧ OwnC 41 p96 c98 x87.1.c.l C99 ∧ OwnC 118 p100 c102 x87.1.g.o C103) (fun | (p84, C85, p88, p92, p96, p100, c90, c94, c98, c102, C91, C95, C99, C103) => [(3, .pointer (some ⟨b1, 0, none⟩)), (4, .pointer (some ⟨b2, 0, none⟩)), (5, .pointer (some ⟨b3, 0, none⟩)), (6, .bool x87.2)]) (fun | (p84, C85, p88, p92, p96, p100, c90, c94, c98, c102, C91, C95, C99, C103) => [(0, [(m0, .cells #[.slice p0_0_0 ((a0_0).length) c0_0_0, .int .i64 x86.2] 124 (0, 0))]), (1, C1_0), (2, C1_1), (3, C1_2), (4, C1_3), (5, [(b1, .cells #[.slice p1_0 ((a1.t.b).length) c1_0, .slice p1_1 ((a1.t.f).length) c1_1, .slice p1_2 ((a1.c.l).length) c1_2, .int .i64 a1.c.h, .int .i64 a1.g.c, .int .i64 a1.g.n, .int .i64 a1.g.r, .slice p1_3 ((a1.g.o).length) c1_3, .int .i64 a1.s] 34 (0, 0))]), (6, [(b2, .cells #[.slice none 0 0, .slice none 0 0, .slice none 0 0, .int .i64 0, .int .i64 0, .int .i64 0, .int .i64 0, .slice none 0 0, .int .i64 0] 34 (0, 0))]), (7, [(b3, .cells #[.slice p88 ((x87.1.t.b).length) c90, .slice p92 ((x87.1.t.f).length) c94, .slice p96 ((x87.1.c.l).length) c98, .int .i64 x87.1.c.h, .int .i64 x87.1.g.c, .int .i64 x87.1.g.n, .int .i64 x87.1.g.r, .slice p100 ((x87.1.g.o).length) c102, .int .i64 x87.1.s] 34 (0, 0))]), (57, C91), (58, C95), (59, C99), (60, C103)]) ⟨(hΦ 2 (by decide)), (hΦ 4 (by decide)).1, (hΦ 4 (by decide)).2.1, (hΦ 4 (by decide)).2.2.1, (hΦ 4 (by decide)).2.2.2⟩ ⟨rfl, rfl, rfl, rfl, trivial⟩ ⟨rfl, rfl, rfl, rfl, rfl, rfl, rfl, rfl, rfl, rfl, rfl, rfl, trivial⟩ ?_
  rintro ⟨p84, C85, p88, p92, p96, p100, c90, c94, c98, c102, C91, C95, C99, C103⟩ ⟨o85, o91, o95, o99, o103⟩
  dsimp only
  refine kw_bl_normal (kw_nx (cw_seq (sr (oM rfl (oK rfl (nn (cw_cond rfl (fun h104 => ?_) (fun h104 => ?_))))))))
  ·have H0 := cond_t H0 h104
   refine sr (oB9 5 ts34 rfl (oC9 6 ts34 rfl rfl (nn (cw_ret (kw_nx_ret (kw_addNil 61 (kw_addNil 62 (kw_addNil 63 (kw_addNil 64 ?_)))))))))
   obtain rfl := sI H0
   exact kr Tryz.results121 (rC9 6 ts34 rfl rfl) [0, 61, 62, 63, 64, 1, 2, 3, 4] ⟨_, _, _, _, _, _, _, _, _, _, _, _, _, _, _, _, rfl, rfl, rfl, ho1_0, rfl, ho1_1, rfl, ho1_2, rfl, ho1_3⟩
  have H0 := cond_f H0 h104
  refine cw_skip (kw_nx (sr (oB9 7 ts34 rfl (oC9 6 ts34 rfl rfl (nn (cw_ret (kw_addNil 65 (kw_addNil 66 (kw_addNil 67 (kw_addNil 68 ?_))))))))))
  obtain rfl := sI H0
  exact kr Tryz.results121 (rC9 6 ts34 rfl rfl) [0, 65, 66, 67, 68, 57, 58, 59, 60] ⟨_, _, _, _, _, _, _, _, _, _, _, _, _, _, _, _, rfl, rfl, rfl, o91, rfl, o95, rfl, o99, rfl, o103⟩
 have H0 := cond_f H0 h83
 refine sr (oQ rfl (oS rfl (nn (cw_cond rfl (fun h105 => ?_) (fun h105 => ?_)))))
 ·have H0 := cond_t H0 h105
  obtain ⟨x106, e106, H0⟩ := bS H0
  obtain ⟨x107, e107, H0⟩ := bS H0
  obtain ⟨x108, e108, H0⟩ := bS H0
  obtain ⟨x109, e109, H0⟩ := bS H0
  refine rdq g_mixed [0, 3, 5] [0, 1, 2, 3, 4, 5, 7] { dst := dS [72, 73, 74, 75, 76, 77, 78, 71, 79, 80, 0, 7], pre := gA [] [[], [], [1], [], [1, 2, 3], rn 1 4, rn 0 6, rn 0 7, rn 0 8, rn 0 8, rn 0 9, rn 0 11], ids := gA [] [[], [], [0], [], [0], [], [71, 72, 73, 74], [], [], [], [7]], rs := rL [[(3, 0)], [(0, 0)], [(72, 2)], [(0, 0)], [(74, 4)], [(73, 3), (75, 5)], [(71, 1), (76, 6)], [(77, 7)], [(70, 8)], [(70, 8)], [(5, 0), (78, 9)], [(79, 10)]], rh := rL [[(5, 0)], [], [(0, 0)], [], [(0, 3)], [], [(1, 0), (2, 0), (3, 0), (4, 0)], [], [], [], [(7, 0)]], V := fun i g => gA undef [.agg #[.slice p1_0 ((a1.t.b).length) c1_0, .slice p1_1 ((a1.t.f).length) c1_1, .slice p1_2 ((a1.c.l).length) c1_2, .int .i64 a1.c.h, .int .i64 a1.g.c, .int .i64 a1.g.n, .int .i64 a1.g.r, .slice p1_3 ((a1.g.o).length) c1_3, .int .i64 a1.s], .pointer (some ⟨m0, 0, none⟩), .int .i64 x106.1, .pointer (some ⟨m0, 0, none⟩), .int .i64 x107.1, .agg #[.int .i64 x108.s, .int .i64 x108.p], .tuple #[.agg #[.slice ((g 6).A 0) ((x109.1.t.b).length) ((g 6).C 0), .slice ((g 6).A 1) ((x109.1.t.f).length) ((g 6).C 1), .slice ((g 6).A 2) ((x109.1.c.l).length) ((g 6).C 2), .int .i64 x109.1.c.h, .int .i64 x109.1.g.c, .int .i64 x109.1.g.n, .int .i64 x109.1.g.r, .slice ((g 6).A 3) ((x109.1.g.o).length) ((g 6).C 3), .int .i64 x109.1.s], .bool x109.2], .tuple #[.agg #[.slice ((g 6).A 0) ((x109.1.t.b).length) ((g 6).C 0), .slice ((g 6).A 1) ((x109.1.t.f).length) ((g 6).C 1), .slice ((g 6).A 2) ((x109.1.c.l).length) ((g 6).C 2), .int .i64 x109.1.c.h, .int .i64 x109.1.g.c, .int .i64 x109.1.g.n, .int .i64 x109.1.g.r, .slice ((g 6).A 3) ((x109.1.g.o).length) ((g 6).C 3), .int .i64 x109.1.s], .bool x109.2], .agg #[.slice ((g 6).A 0) ((x109.1.t.b).length) ((g 6).C 0), .slice ((g 6).A 1) ((x109.1.t.f).length) ((g 6).C 1), .slice ((g 6).A 2) ((x109.1.c.l).length) ((g 6).C 2), .int .i64 x109.1.c.h, .int .i64 x109.1.g.c, .int .i64 x109.1.g.n, .int .i64 x109.1.g.r, .slice ((g 6).A 3) ((x109.1.g.o).length) ((g 6).C 3), .int .i64 x109.1.s], .bool x109.2, undef, .bool x109.2] i, U := fun i g => gA [] [[], [], [(0, [(m0, .cells #[.slice p0_0_0 ((a0_0).length) c0_0_0, .int .i64 x106.2] 124 (0, 0))])], [], [(0, [(m0, .cells #[.slice p0_0_0 ((a0_0).length) c0_0_0, .int .i64 x107.2] 124 (0, 0))])], [], [(71, ((g 6).R 0)), (72, ((g 6).R 1)), (73, ((g 6).R 2)), (74, ((g 6).R 3))], [], [], [], [(7, [(b3, .cells #[.slice ((g 6).A 0) ((x109.1.t.b).length) ((g 6).C 0), .slice ((g 6).A 1) ((x109.1.t.f).length) ((g 6).C 1), .slice ((g 6).A 2) ((x109.1.c.l).length) ((g 6).C 2), .int .i64 x109.1.c.h, .int .i64 x109.1.g.c, .int .i64 x109.1.g.n, .int .i64 x109.1.g.r, .slice ((g 6).A 3) ((x109.1.g.o).length) ((g 6).C 3), .int .i64 x109.1.s] 34 (0, 0))])]] i, Φ := fun i x => match i with | 6 => OwnC 3 (x.A 0) (x.C 0) x109.1.t.b (x.R 0) ∧ OwnC 58 (x.A 1) (x.C 1) x109.1.t.f (x.R 1) ∧ OwnC 41 (x.A 2) (x.C 2) x109.1.c.l (x.R 2) ∧ OwnC 118 (x.A 3) (x.C 3) x109.1.g.o (x.R 3) | _ => True } ?_ ?_
  ·refine ⟨lc rfl rfl fun hs hh => stp_loadN (us := [_, _, _, _, _, _, _, _, _]) ts34 (sv hs 3 rfl) (Cells.box (id := 5) (hh.get 5 _ rfl) 9 rfl), lM, ?_, lM, ?_, ?_, ?_, lM, lT, lT, ?_, lS, trivial⟩
   ·refine le rfl rfl (fun g hΦ s h hs hh => (stpU_callM (fun i => bif Nat.beq i 0 then 0 else 69 + i) cf66 (fun w hw hb => c_s_l12Rd_pick fl w m0 a0_0 x4.2 3 rfl (RO.passM hr0_0_0 hw hb) (hw.pass (js := [0]) ⟨0, [], rfl, (hh.get 0 _ rfl), trivial⟩ (by decide)) x106 e106) (yB (sv hs 72 rfl) rfl) ⟨(hh.get 0 _ rfl), (fun _ _ hp => by obtain ⟨_, rfl⟩ := hp; exact ⟨_, rfl⟩), trivial⟩)) ?_
    rintro g _ _ ⟨_, ⟨rfl, rfl⟩, rfl⟩
    exact ⟨⟨[], [], []⟩, trivial, .inr rfl, rfl⟩
   ·refine le rfl rfl (fun g hΦ s h hs hh => (stpU_callM (fun i => bif Nat.beq i 0 then 0 else 70 + i) cf126 (fun w hw hb => c_s_l6Page fl w m0 a0_0 x106.2 rfl (RO.passM hr0_0_0 hw hb) (hw.pass (js := [0]) ⟨0, [], rfl, (hh.get 0 _ rfl), trivial⟩ (by decide)) x107 e107) (yA (sv hs 74 rfl)) ⟨(hh.get 0 _ rfl), (fun _ _ hp => by obtain ⟨_, rfl⟩ := hp; exact ⟨_, rfl⟩), trivial⟩)) ?_
    rintro g _ _ ⟨_, ⟨rfl, rfl⟩, rfl⟩
    exact ⟨⟨[], [], []⟩, trivial, .inr rfl, rfl⟩
   ·refine le rfl rfl (fun g hΦ s h hs hh => (stpU_call (fun i => 71 + i) cf65 (fun w hw => c_s_KeyFor fl w x106.1 x107.1 x108 e108) (yB (sv hs 73 rfl) (sv hs 75 rfl)))) ?_
    rintro g _ _ ⟨_, ⟨rfl, rfl⟩, rfl⟩
    exact ⟨⟨[], [], []⟩, trivial, .inr rfl, rfl⟩
   ·refine le rfl rfl (fun g hΦ s h hs hh => (stpU_call (fun i => 71 + i) cf153 (fun w hw => c_s_TakePage fl w a1 x108 rfl (OwnC.pass (id := 1) (hh.get 1 _ rfl) ho1_0 hw) rfl (OwnC.pass (id := 2) (hh.get 2 _ rfl) ho1_1 hw) rfl (OwnC.pass (id := 3) (hh.get 3 _ rfl) ho1_2 hw) rfl (OwnC.pass (id := 4) (hh.get 4 _ rfl) ho1_3 hw) x109 e109) (yB (sv hs 71 rfl) (sv hs 76 rfl)))) ?_
    rintro g _ _ ⟨_, ⟨p110, _, c112, C113, p114, _, c116, C117, p118, _, c120, C121, p122, _, c124, C125, rfl, rfl, rfl, o113, rfl, o117, rfl, o121, rfl, o125⟩, rfl⟩
    exact ⟨⟨[p110, p114, p118, p122], [c112, c116, c120, c124], [C113, C117, C121, C125]⟩, ⟨o113, o117, o121, o125⟩, .inr rfl, rfl⟩
   refine le rfl rfl (fun g hΦ s h hs hh => (stpU_store (id := 7) (cs' := [.slice ((g 6).A 0) ((x109.1.t.b).length) ((g 6).C 0), .slice ((g 6).A 1) ((x109.1.t.f).length) ((g 6).C 1), .slice ((g 6).A 2) ((x109.1.c.l).length) ((g 6).C 2), .int .i64 x109.1.c.h, .int .i64 x109.1.g.c, .int .i64 x109.1.g.n, .int .i64 x109.1.g.r, .slice ((g 6).A 3) ((x109.1.g.o).length) ((g 6).C 3), .int .i64 x109.1.s]) ts34 (sv hs 5 rfl) (sv hs 78 rfl) (hh.get 7 _ rfl) rfl rfl rfl rfl)) ?_
   rintro g _ _ rfl
   exact ⟨⟨[], [], []⟩, trivial, .inl rfl, rfl⟩
  intro g hΦ
  refine kw_gen (ι := Option Addr × Option Addr × Option Addr × Option Addr × Nat × Nat × Nat × Nat × Res × Res × Res × Res) (((g 6).A 0), ((g 6).A 1), ((g 6).A 2), ((g 6).A 3), ((g 6).C 0), ((g 6).C 1), ((g 6).C 2), ((g 6).C 3), ((g 6).R 0), ((g 6).R 1), ((g 6).R 2), ((g 6).R 3)) (fun | (p110, p114, p118, p122, c112, c116, c120, c124, C113, C117, C121, C125) => OwnC 3 p110 c112 x109.1.t.b C113 ∧ OwnC 58 p114 c116 x109.1.t.f C117 ∧ OwnC 41 p118 c120 x109.1.c.l C121 ∧ OwnC 118 p122 c124 x109.1.g.o C125) (fun | (p110, p114, p118, p122, c112, c116, c120, c124, C113, C117, C121, C125) => [(3, .pointer (some ⟨b1, 0, none⟩)), (4, .pointer (some ⟨b2, 0, none⟩)), (5, .pointer (some ⟨b3, 0, none⟩)), (6, .bool x109.2)]) (fun | (p110, p114, p118, p122, c112, c116, c120, c124, C113, C117, C121, C125) => [(0, [(m0, .cells #[.slice p0_0_0 ((a0_0).length) c0_0_0, .int .i64 x107.2] 124 (0, 0))]), (1, C1_0), (2, C1_1), (3, C1_2), (4, C1_3), (5, [(b1, .cells #[.slice p1_0 ((a1.t.b).length) c1_0, .slice p1_1 ((a1.t.f).length) c1_1, .slice p1_2 ((a1.c.l).length) c1_2, .int .i64 a1.c.h, .int .i64 a1.g.c, .int .i64 a1.g.n, .int .i64 a1.g.r, .slice p1_3 ((a1.g.o).length) c1_3, .int .i64 a1.s] 34 (0, 0))]), (6, [(b2, .cells #[.slice none 0 0, .slice none 0 0, .slice none 0 0, .int .i64 0, .int .i64 0, .int .i64 0, .int .i64 0, .slice none 0 0, .int .i64 0] 34 (0, 0))]), (7, [(b3, .cells #[.slice p110 ((x109.1.t.b).length) c112, .slice p114 ((x109.1.t.f).length) c116, .slice p118 ((x109.1.c.l).length) c120, .int .i64 x109.1.c.h, .int .i64 x109.1.g.c, .int .i64 x109.1.g.n, .int .i64 x109.1.g.r, .slice p122 ((x109.1.g.o).length) c124, .int .i64 x109.1.s] 34 (0, 0))]), (71, C113), (72, C117), (73, C121), (74, C125)]) ⟨(hΦ 6 (by decide)).1, (hΦ 6 (by decide)).2.1, (hΦ 6 (by decide)).2.2.1, (hΦ 6 (by decide)).2.2.2⟩ ⟨rfl, rfl, rfl, rfl, trivial⟩ ⟨rfl, rfl, rfl, rfl, rfl, rfl, rfl, rfl, rfl, rfl, rfl, rfl, trivial⟩ ?_
  rintro ⟨p110, p114, p118, p122, c112, c116, c120, c124, C113, C117, C121, C125⟩ ⟨o113, o117, o121, o125⟩
  dsimp only
  refine kw_bl_normal (kw_nx (cw_seq (sr (oM rfl (oK rfl (nn (cw_cond rfl (fun h126 => ?_) (fun h126 => ?_))))))))
  ·have H0 := cond_t H0 h126
   refine sr (oB9 5 ts34 rfl (oC9 6 ts34 rfl rfl (nn (cw_ret (kw_nx_ret (kw_addNil 75 (kw_addNil 76 (kw_addNil 77 (kw_addNil 78 ?_)))))))))
   obtain rfl := sI H0
   exact kr Tryz.results121 (rC9 6 ts34 rfl rfl) [0, 75, 76, 77, 78, 1, 2, 3, 4] ⟨_, _, _, _, _, _, _, _, _, _, _, _, _, _, _, _, rfl, rfl, rfl, ho1_0, rfl, ho1_1, rfl, ho1_2, rfl, ho1_3⟩
  have H0 := cond_f H0 h126
  refine cw_skip (kw_nx (sr (oB9 7 ts34 rfl (oC9 6 ts34 rfl rfl (nn (cw_ret (kw_addNil 79 (kw_addNil 80 (kw_addNil 81 (kw_addNil 82 ?_))))))))))
  obtain rfl := sI H0
  exact kr Tryz.results121 (rC9 6 ts34 rfl rfl) [0, 79, 80, 81, 82, 71, 72, 73, 74] ⟨_, _, _, _, _, _, _, _, _, _, _, _, _, _, _, _, rfl, rfl, rfl, o113, rfl, o117, rfl, o121, rfl, o125⟩
 have H0 := cond_f H0 h105
 refine cw_skip (kw_bl_normal (kw_nx (cw_seq (sr (oM rfl (oK rfl (nn (cw_cond rfl (fun h127 => ?_) (fun h127 => ?_)))))))))
 ·have H0 := cond_t H0 h127
  refine sr (oB9 5 ts34 rfl (oC9 6 ts34 rfl rfl (nn (cw_ret (kw_nx_ret (kw_addNil 83 (kw_addNil 84 (kw_addNil 85 (kw_addNil 86 ?_)))))))))
  obtain rfl := sI H0
  exact kr Tryz.results121 (rC9 6 ts34 rfl rfl) [0, 83, 84, 85, 86, 1, 2, 3, 4] ⟨_, _, _, _, _, _, _, _, _, _, _, _, _, _, _, _, rfl, rfl, rfl, ho1_0, rfl, ho1_1, rfl, ho1_2, rfl, ho1_3⟩
 have H0 := cond_f H0 h127
 refine cw_skip (kw_nx (sr (oB9 7 ts34 rfl (oC9 6 ts34 rfl rfl (nn (cw_ret (kw_addNil 87 (kw_addNil 88 (kw_addNil 89 (kw_addNil 90 ?_))))))))))
 obtain rfl := sI H0
 exact kr Tryz.results121 (rC9 6 ts34 rfl rfl) [0, 87, 88, 89, 90, 1, 2, 3, 4] ⟨_, _, _, _, _, _, _, _, _, _, _, _, _, _, _, _, rfl, rfl, rfl, ho1_0, rfl, ho1_1, rfl, ho1_2, rfl, ho1_3⟩
end Go.Proofs.YtkohlcjdagckhaaGreatDoor
