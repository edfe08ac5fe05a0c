/- The walks: functions of the program return what their pure functions say. Printed by a program (gen.py). -/
import Derived.Test.YtkohlcjdagckhaaGreatDoorGp
import Derived.Test.YtkohlcjdagckhaaGreatDoorGt
import Derived.Test.YtkohlcjdagckhaaGreatDoorMan
import Derived.Test.YtkohlcjdagckhaaGreatDoorMap
import Derived.Test.YtkohlcjdagckhaaGreatDoorCpy
import Derived.Test.YtkohlcjdagckhaaGreatDoorE8
import Derived.Test.YtkohlcjdagckhaaGreatDoorGwaa
import Derived.Test.YtkohlcjdagckhaaGreatDoorGwab
import Derived.Test.YtkohlcjdagckhaaGreatDoorGwac
import Derived.Test.YtkohlcjdagckhaaGreatDoorGwad
import Derived.Test.YtkohlcjdagckhaaGreatDoorGwae
import Derived.Test.YtkohlcjdagckhaaGreatDoorGws
set_option linter.unusedSimpArgs false
set_option linter.unusedVariables false
set_option linter.unusedSectionVars false
namespace Go.Proofs.YtkohlcjdagckhaaGreatDoor
open Go.RowKit
set_option maxHeartbeats 4000000
set_option maxRecDepth 20000
variable {p0_0 p0_1 p0_2 p0_3 p0_4 p1_0 p1_1 p1_2 p1_3 p1_4 : Option Addr} {n0_0 n0_1 n0_2 n0_3 n0_4 n1_0 n1_1 n1_2 n1_3 n1_4 : Nat} {c0_0 c0_1 c0_2 c0_3 c0_4 c1_0 c1_1 c1_2 c1_3 c1_4 : Nat}
theorem c_s_DrawNewMemory (fl : Nat) (w : World) (a0 : (List UInt8)) (hn0_0 : n0_0 = (a0).length) (hr0_0 : RO w (hkeys []) (RdL p0_0 c0_0 a0)) (r : Mc) (H0 : s_DrawNewMemory fl a0 = some r) :
  Ct Tryz.prog 39 [.slice p0_0 n0_0 c0_0] w [] (fun rv h' => ∃ (x0 : Option Addr) (y0 z0 : Nat) (C0 : Res) (x1 : Option Addr) (y1 z1 : Nat) (C1 : Res) (x2 : Option Addr) (y2 z2 : Nat) (C2 : Res) (x3 : Option Addr) (y3 z3 : Nat) (C3 : Res), rv = .agg #[.slice x0 y0 z0, .slice x1 y1 z1, .slice x2 y2 z2, .int .i64 r.c.h, .int .i64 r.g.c, .int .i64 r.g.n, .int .i64 r.g.r, .slice x3 y3 z3, .int .i64 r.s] ∧ h' = [(0, C0), (1, C1), (2, C2), (3, C3)] ∧ y0 = (r.t.b).length ∧ OwnC 3 x0 z0 r.t.b C0 ∧ y1 = (r.t.f).length ∧ OwnC 58 x1 z1 r.t.f C1 ∧ y2 = (r.c.l).length ∧ OwnC 41 x2 z2 r.c.l C2 ∧ y3 = (r.g.o).length ∧ OwnC 118 x3 z3 r.g.o C3) := by
 subst hn0_0
 unfold s_DrawNewMemory at H0
 refine ct_of_cw Tryz.func39 rfl Tryz.ntmps39 rfl (Sat.refl _ _) ?_
 refine sr (oE (stpU_alloc 0 tz34 rfl) rfl ?_)
 rintro _ _ ⟨b1, rfl, rfl⟩
 obtain ⟨x2, e2, H0⟩ := bS H0
 refine nn (sr (oM rfl (oE (stpU_call (fun i => 1 + i) cf45 (fun w hw => c_s_l6Case fl w a0 rfl (RO.pass hr0_0 hw) x2 e2) (yA rfl)) rfl ?_)))
 rintro _ _ ⟨_, ⟨p3, _, c5, C6, p7, _, c9, C10, p11, _, c13, C14, p15, _, c17, C18, rfl, rfl, rfl, o6, rfl, o10, rfl, o14, rfl, o18⟩, rfl⟩
 refine oC9 0 ts34 rfl rfl (nn (cw_ret ?_))
 obtain rfl := sI H0
 exact kr Tryz.results39 (rC9 0 ts34 rfl rfl) [1, 2, 3, 4] ⟨_, _, _, _, _, _, _, _, _, _, _, _, _, _, _, _, rfl, rfl, rfl, o6, rfl, o10, rfl, o14, rfl, o18⟩

theorem c_i_NewMemory (fl : Nat) (w : World) (a0 : Mc) (hn0_0 : n0_0 = (a0.t.b).length) (hr0_0 : RO w (hkeys []) (RdL p0_0 c0_0 a0.t.b)) (hn0_1 : n0_1 = (a0.t.f).length) (hr0_1 : RO w (hkeys []) (RdL p0_1 c0_1 a0.t.f)) (hn0_2 : n0_2 = (a0.c.l).length) (hr0_2 : RO w (hkeys []) (RdL p0_2 c0_2 a0.c.l)) (hn0_3 : n0_3 = (a0.g.o).length) (hr0_3 : RO w (hkeys []) (RdL p0_3 c0_3 a0.g.o)) (hg : RO w (hkeys []) (fun w' => w'.rangeAt 0 0 [.bool false, .int .i64 0, .int .i64 0, .int .i64 0, .int .i64 (-1)])) (r : Mm × Bool) (H0 : i_NewMemory fl a0 = some r) :
  Ct Tryz.prog 40 [.agg #[.slice p0_0 n0_0 c0_0, .slice p0_1 n0_1 c0_1, .slice p0_2 n0_2 c0_2, .int .i64 a0.c.h, .int .i64 a0.g.c, .int .i64 a0.g.n, .int .i64 a0.g.r, .slice p0_3 n0_3 c0_3, .int .i64 a0.s]] w [] (fun rv h' => ∃ (x0 : Option Addr) (y0 z0 : Nat) (C0 : Res) (x1 : Option Addr) (y1 z1 : Nat) (C1 : Res) (x2 : Option Addr) (y2 z2 : Nat) (C2 : Res) (x3 : Option Addr) (y3 z3 : Nat) (C3 : Res) (x4 : Option Addr) (y4 z4 : Nat) (C4 : Res), rv = .tuple #[.agg #[.slice x0 y0 z0, .slice x1 y1 z1, .slice x2 y2 z2, .int .i64 r.1.m.c.h, .int .i64 r.1.m.g.c, .int .i64 r.1.m.g.n, .int .i64 r.1.m.g.r, .slice x3 y3 z3, .int .i64 r.1.m.s, .slice x4 y4 z4, .int .i64 r.1.h], .bool r.2] ∧ h' = [(0, C0), (1, C1), (2, C2), (3, C3), (4, C4)] ∧ y0 = (r.1.m.t.b).length ∧ OwnC 3 x0 z0 r.1.m.t.b C0 ∧ y1 = (r.1.m.t.f).length ∧ OwnC 58 x1 z1 r.1.m.t.f C1 ∧ y2 = (r.1.m.c.l).length ∧ OwnC 41 x2 z2 r.1.m.c.l C2 ∧ y3 = (r.1.m.g.o).length ∧ OwnC 118 x3 z3 r.1.m.g.o C3 ∧ y4 = (r.1.k).length ∧ OwnC 4 x4 z4 r.1.k C4) := by
 subst hn0_0 hn0_1 hn0_2 hn0_3
 unfold i_NewMemory at H0
 refine ct_of_cw Tryz.func40 rfl Tryz.ntmps40 rfl (Sat.refl _ _) ?_
 refine sr (oE (stpU_box 0 rfl rfl) rfl ?_)
 rintro _ _ ⟨b1, rfl, rfl⟩
 refine oE (stpU_alloc 1 tz69 rfl) rfl ?_
 rintro _ _ ⟨b2, rfl, rfl⟩
 obtain ⟨x3, e3, H0⟩ := bS H0
 refine oS rfl (nn (cw_seq (sr (oB9 0 ts34 rfl (oE (stpU_call (fun i => 2 + i) cf19 (fun w hw => c_i_MachineValid fl w a0 rfl (RO.pass hr0_0 hw) rfl (RO.pass hr0_1 hw) rfl (RO.pass hr0_2 hw) rfl (RO.pass hr0_3 hw) (RO.pass hg hw) x3 e3) (yA rfl)) rfl ?_)))))
 rintro _ _ ⟨_, ⟨rfl, rfl⟩, rfl⟩
 refine oK rfl (nn (cw_cond rfl (fun h4 => ?_) (fun h4 => ?_)))
 ·have H0 := cond_t H0 h4
  refine sr (oD (stp_build (cs := #[.slice none 0 0, .slice none 0 0, .slice none 0 0, .int .i64 0, .int .i64 0, .int .i64 0, .int .i64 0, .slice none 0 0, .int .i64 0, .slice none 0 0, .int .i64 0]) sevp_nil bt69_21) rfl (oC11 1 ts69 rfl rfl (oS rfl (nn (cw_ret (kw_nx_ret (kw_addNil 2 (kw_addNil 3 (kw_addNil 4 (kw_addNil 5 (kw_addNil 6 ?_)))))))))))
  obtain rfl := sI H0
  exact kr Tryz.results40 (.cons (.cellN (us := [_, _, _, _, _, _, _, _, _, _, _]) ts69 rfl (Cells.box (id := 1) rfl 11 rfl)) (rT rfl)) [2, 3, 4, 5, 6] ⟨_, _, _, _, _, _, _, _, _, _, _, _, _, _, _, _, _, _, _, _, rfl, rfl, rfl, (OwnC.nil _ _), rfl, (OwnC.nil _ _), rfl, (OwnC.nil _ _), rfl, (OwnC.nil _ _), rfl, (OwnC.nil _ _)⟩
 have H0 := cond_f H0 h4
 obtain ⟨x5, e5, H0⟩ := bS H0
 obtain ⟨x22, e22, H0⟩ := bS H0
 refine cw_skip (kw_nx (cw_seq (rdq g_mixed [1, 2] [0, 1] { dst := dS [9, 10, 11, 12, 13, 14, 15, 16, 0, 4], pre := gA [] [[], [0], [], [2], [2, 3], [2, 3, 4], rn 2 4, rn 0 7, rn 0 8, rn 0 9], ids := gA [] [[], [7, 8, 9, 10], [], [], [], [], [11], [], [1]], rs := rL [[(1, 0)], [(8, 1)], [(1, 0)], [(10, 3)], [(11, 4)], [(12, 5)], [(13, 6)], [(9, 2), (14, 7)], [(2, 0), (15, 8)], []], rh := rL [[(0, 0)], [], [], [], [(0, 0)], [], [], [], [(1, 0)]], V := fun i g => gA undef [.agg #[.slice p0_0 ((a0.t.b).length) c0_0, .slice p0_1 ((a0.t.f).length) c0_1, .slice p0_2 ((a0.c.l).length) c0_2, .int .i64 a0.c.h, .int .i64 a0.g.c, .int .i64 a0.g.n, .int .i64 a0.g.r, .slice p0_3 ((a0.g.o).length) c0_3, .int .i64 a0.s], .agg #[.slice ((g 1).A 0) ((x5.t.b).length) ((g 1).C 0), .slice ((g 1).A 1) ((x5.t.f).length) ((g 1).C 1), .slice ((g 1).A 2) ((x5.c.l).length) ((g 1).C 2), .int .i64 x5.c.h, .int .i64 x5.g.c, .int .i64 x5.g.n, .int .i64 x5.g.r, .slice ((g 1).A 3) ((x5.g.o).length) ((g 1).C 3), .int .i64 x5.s], .pointer (some ⟨b1, 0, none⟩), .pointer (some ⟨b1, 1, none⟩), .slice p0_1 ((a0.t.f).length) c0_1, .int .i64 ((a0.t.f).length : Int), .slice ((g 6).A 0) x22 x22, .agg #[.slice ((g 1).A 0) ((x5.t.b).length) ((g 1).C 0), .slice ((g 1).A 1) ((x5.t.f).length) ((g 1).C 1), .slice ((g 1).A 2) ((x5.c.l).length) ((g 1).C 2), .int .i64 x5.c.h, .int .i64 x5.g.c, .int .i64 x5.g.n, .int .i64 x5.g.r, .slice ((g 1).A 3) ((x5.g.o).length) ((g 1).C 3), .int .i64 x5.s, .slice ((g 6).A 0) x22 x22, .int .i64 0], undef, .bool true] i, U := fun i g => gA [] [[], [(7, ((g 1).R 0)), (8, ((g 1).R 1)), (9, ((g 1).R 2)), (10, ((g 1).R 3))], [], [], [], [], [(11, ((g 6).R 0))], [], [(1, [(b2, .cells #[.slice ((g 1).A 0) ((x5.t.b).length) ((g 1).C 0), .slice ((g 1).A 1) ((x5.t.f).length) ((g 1).C 1), .slice ((g 1).A 2) ((x5.c.l).length) ((g 1).C 2), .int .i64 x5.c.h, .int .i64 x5.g.c, .int .i64 x5.g.n, .int .i64 x5.g.r, .slice ((g 1).A 3) ((x5.g.o).length) ((g 1).C 3), .int .i64 x5.s, .slice ((g 6).A 0) x22 x22, .int .i64 0] 69 (0, 0))])]] i, Φ := fun i x => match i with | 1 => OwnC 3 (x.A 0) (x.C 0) x5.t.b (x.R 0) ∧ OwnC 58 (x.A 1) (x.C 1) x5.t.f (x.R 1) ∧ OwnC 41 (x.A 2) (x.C 2) x5.c.l (x.R 2) ∧ OwnC 118 (x.A 3) (x.C 3) x5.g.o (x.R 3) | 6 => OwnC (α := Bool) 4 (x.A 0) x22 (List.replicate x22 false) (x.R 0) | _ => True } ?_ ?_)))
 ·refine ⟨lc rfl rfl fun hs hh => stp_loadN (us := [_, _, _, _, _, _, _, _, _]) ts34 (sv hs 1 rfl) (Cells.box (id := 0) (hh.get 0 _ rfl) 9 rfl), ?_, lc rfl rfl fun hs hh => stp_fieldAddr (j := 0) Tryz.underlying34 rfl ts26 rfl (sv hs 1 rfl) rfl, lc rfl rfl fun hs hh => stp_fieldAddr (j := 1) Tryz.underlying26 rfl ts24 rfl (sv hs 10 rfl) rfl, lc rfl rfl fun hs hh => stp_load1 ts24 (sv hs 11 rfl) (Cells.box (id := 0) (hh.get 0 _ rfl) 1 rfl), lc rfl rfl fun hs hh => stp_len Tryz.underlying24 (sv hs 12 rfl), ?_, ld rfl rfl fun g hΦ s h hs hh => stp_build (cs := #[.slice ((g 1).A 0) ((x5.t.b).length) ((g 1).C 0), .slice ((g 1).A 1) ((x5.t.f).length) ((g 1).C 1), .slice ((g 1).A 2) ((x5.c.l).length) ((g 1).C 2), .int .i64 x5.c.h, .int .i64 x5.g.c, .int .i64 x5.g.n, .int .i64 x5.g.r, .slice ((g 1).A 3) ((x5.g.o).length) ((g 1).C 3), .int .i64 x5.s, .slice ((g 6).A 0) x22 x22, .int .i64 0]) (sevp_cons (sv hs 9 rfl) (sevp_cons (sv hs 14 rfl) (sevp_cons rfl sevp_nil))) bt69_22, ?_, lc rfl rfl fun hs hh => stp_assign rfl, trivial⟩
  ·refine le rfl rfl (fun g hΦ s h hs hh => (stpU_call (fun i => 7 + i) cf49 (fun w hw => c_i_Machine_clone fl w a0 rfl (RO.pass hr0_0 hw) rfl (RO.pass hr0_1 hw) rfl (RO.pass hr0_2 hw) rfl (RO.pass hr0_3 hw) x5 e5) (yA (sv hs 8 rfl)))) ?_
   rintro g _ _ ⟨_, ⟨p6, _, c8, C9, p10, _, c12, C13, p14, _, c16, C17, p18, _, c20, C21, rfl, rfl, rfl, o9, rfl, o13, rfl, o17, rfl, o21⟩, rfl⟩
   exact ⟨⟨[p6, p10, p14, p18], [c8, c12, c16, c20], [C9, C13, C17, C21]⟩, ⟨o9, o13, o17, o21⟩, .inr rfl, rfl⟩
  ·refine le rfl rfl (fun g hΦ s h hs hh => (stpU_make sl67 rfl 11 (sv hs 13 rfl) (sv hs 13 rfl) e22)) ?_
   rintro g _ _ ⟨p23, C24, rfl, rfl, o24⟩
   exact ⟨⟨[p23], [], [C24]⟩, o24, .inr rfl, rfl⟩
  refine le rfl rfl (fun g hΦ s h hs hh => (stpU_store (id := 1) (cs' := [.slice ((g 1).A 0) ((x5.t.b).length) ((g 1).C 0), .slice ((g 1).A 1) ((x5.t.f).length) ((g 1).C 1), .slice ((g 1).A 2) ((x5.c.l).length) ((g 1).C 2), .int .i64 x5.c.h, .int .i64 x5.g.c, .int .i64 x5.g.n, .int .i64 x5.g.r, .slice ((g 1).A 3) ((x5.g.o).length) ((g 1).C 3), .int .i64 x5.s, .slice ((g 6).A 0) x22 x22, .int .i64 0]) ts69 (sv hs 2 rfl) (sv hs 15 rfl) (hh.get 1 _ rfl) rfl rfl rfl rfl)) ?_
  rintro g _ _ rfl
  exact ⟨⟨[], [], []⟩, trivial, .inl rfl, rfl⟩
 intro g hΦ
 refine kw_gen (ι := Option Addr × Option Addr × Option Addr × Option Addr × Nat × Nat × Nat × Nat × Res × Res × Res × Res × Option Addr × Res) (((g 1).A 0), ((g 1).A 1), ((g 1).A 2), ((g 1).A 3), ((g 1).C 0), ((g 1).C 1), ((g 1).C 2), ((g 1).C 3), ((g 1).R 0), ((g 1).R 1), ((g 1).R 2), ((g 1).R 3), ((g 6).A 0), ((g 6).R 0)) (fun | (p6, p10, p14, p18, c8, c12, c16, c20, C9, C13, C17, C21, p23, C24) => OwnC 3 p6 c8 x5.t.b C9 ∧ OwnC 58 p10 c12 x5.t.f C13 ∧ OwnC 41 p14 c16 x5.c.l C17 ∧ OwnC 118 p18 c20 x5.g.o C21 ∧ OwnC (α := Bool) 4 p23 x22 (List.replicate x22 false) C24) (fun | (p6, p10, p14, p18, c8, c12, c16, c20, C9, C13, C17, C21, p23, C24) => [(2, .pointer (some ⟨b2, 0, none⟩)), (3, .bool true)]) (fun | (p6, p10, p14, p18, c8, c12, c16, c20, C9, C13, C17, C21, p23, C24) => [(1, [(b2, .cells #[.slice p6 ((x5.t.b).length) c8, .slice p10 ((x5.t.f).length) c12, .slice p14 ((x5.c.l).length) c16, .int .i64 x5.c.h, .int .i64 x5.g.c, .int .i64 x5.g.n, .int .i64 x5.g.r, .slice p18 ((x5.g.o).length) c20, .int .i64 x5.s, .slice p23 x22 x22, .int .i64 0] 69 (0, 0))]), (7, C9), (8, C13), (9, C17), (10, C21), (11, C24)]) ⟨(hΦ 1 (by decide)).1, (hΦ 1 (by decide)).2.1, (hΦ 1 (by decide)).2.2.1, (hΦ 1 (by decide)).2.2.2, (hΦ 6 (by decide))⟩ ⟨rfl, rfl, trivial⟩ ⟨rfl, rfl, rfl, rfl, rfl, rfl, trivial⟩ ?_
 rintro ⟨p6, p10, p14, p18, c8, c12, c16, c20, C9, C13, C17, C21, p23, C24⟩ ⟨o9, o13, o17, o21, o24⟩
 dsimp only
 refine kw_nx (cw_ret ?_)
 obtain rfl := sI H0
 exact kr Tryz.results40 (.cons (.cellN (us := [_, _, _, _, _, _, _, _, _, _, _]) ts69 rfl (Cells.box (id := 1) rfl 11 rfl)) (rT rfl)) [7, 8, 9, 10, 11] ⟨_, _, _, _, _, _, _, _, _, _, _, _, _, _, _, _, _, _, _, _, rfl, rfl, rfl, o9, rfl, o13, rfl, o17, rfl, o21, (by simp), o24⟩

theorem c_s_NewMemory (fl : Nat) (w : World) (a0 : Mc) (hn0_0 : n0_0 = (a0.t.b).length) (hr0_0 : RO w (hkeys []) (RdL p0_0 c0_0 a0.t.b)) (hn0_1 : n0_1 = (a0.t.f).length) (hr0_1 : RO w (hkeys []) (RdL p0_1 c0_1 a0.t.f)) (hn0_2 : n0_2 = (a0.c.l).length) (hr0_2 : RO w (hkeys []) (RdL p0_2 c0_2 a0.c.l)) (hn0_3 : n0_3 = (a0.g.o).length) (hr0_3 : RO w (hkeys []) (RdL p0_3 c0_3 a0.g.o)) (r : Mm × Bool) (H0 : s_NewMemory fl a0 = some r) :
  Ct Tryz.prog 41 [.agg #[.slice p0_0 n0_0 c0_0, .slice p0_1 n0_1 c0_1, .slice p0_2 n0_2 c0_2, .int .i64 a0.c.h, .int .i64 a0.g.c, .int .i64 a0.g.n, .int .i64 a0.g.r, .slice p0_3 n0_3 c0_3, .int .i64 a0.s]] w [] (fun rv h' => ∃ (x0 : Option Addr) (y0 z0 : Nat) (C0 : Res) (x1 : Option Addr) (y1 z1 : Nat) (C1 : Res) (x2 : Option Addr) (y2 z2 : Nat) (C2 : Res) (x3 : Option Addr) (y3 z3 : Nat) (C3 : Res) (x4 : Option Addr) (y4 z4 : Nat) (C4 : Res), rv = .tuple #[.agg #[.slice x0 y0 z0, .slice x1 y1 z1, .slice x2 y2 z2, .int .i64 r.1.m.c.h, .int .i64 r.1.m.g.c, .int .i64 r.1.m.g.n, .int .i64 r.1.m.g.r, .slice x3 y3 z3, .int .i64 r.1.m.s, .slice x4 y4 z4, .int .i64 r.1.h], .bool r.2] ∧ h' = [(0, C0), (1, C1), (2, C2), (3, C3), (4, C4)] ∧ y0 = (r.1.m.t.b).length ∧ OwnC 3 x0 z0 r.1.m.t.b C0 ∧ y1 = (r.1.m.t.f).length ∧ OwnC 58 x1 z1 r.1.m.t.f C1 ∧ y2 = (r.1.m.c.l).length ∧ OwnC 41 x2 z2 r.1.m.c.l C2 ∧ y3 = (r.1.m.g.o).length ∧ OwnC 118 x3 z3 r.1.m.g.o C3 ∧ y4 = (r.1.k).length ∧ OwnC 4 x4 z4 r.1.k C4) := by
 subst hn0_0 hn0_1 hn0_2 hn0_3
 unfold s_NewMemory at H0
 refine ct_of_cw Tryz.func41 rfl Tryz.ntmps41 rfl (Sat.refl _ _) ?_
 refine sr (oE (stpU_box 0 rfl rfl) rfl ?_)
 rintro _ _ ⟨b1, rfl, rfl⟩
 refine oE (stpU_alloc 1 tz69 rfl) rfl ?_
 rintro _ _ ⟨b2, rfl, rfl⟩
 obtain ⟨x3, e3, H0⟩ := bS H0
 refine oS rfl (nn (cw_seq (sr (oB9 0 ts34 rfl (oE (stpU_call (fun i => 2 + i) cf51 (fun w hw => c_s_MachineValid fl w a0 rfl (RO.pass hr0_0 hw) rfl (RO.pass hr0_1 hw) rfl (RO.pass hr0_2 hw) rfl (RO.pass hr0_3 hw) x3 e3) (yA rfl)) rfl ?_)))))
 rintro _ _ ⟨_, ⟨rfl, rfl⟩, rfl⟩
 refine oK rfl (nn (cw_cond rfl (fun h4 => ?_) (fun h4 => ?_)))
 ·have H0 := cond_t H0 h4
  refine sr (oD (stp_build (cs := #[.slice none 0 0, .slice none 0 0, .slice none 0 0, .int .i64 0, .int .i64 0, .int .i64 0, .int .i64 0, .slice none 0 0, .int .i64 0, .slice none 0 0, .int .i64 0]) sevp_nil bt69_21) rfl (oC11 1 ts69 rfl rfl (oS rfl (nn (cw_ret (kw_nx_ret (kw_addNil 2 (kw_addNil 3 (kw_addNil 4 (kw_addNil 5 (kw_addNil 6 ?_)))))))))))
  obtain rfl := sI H0
  exact kr Tryz.results41 (.cons (.cellN (us := [_, _, _, _, _, _, _, _, _, _, _]) ts69 rfl (Cells.box (id := 1) rfl 11 rfl)) (rT rfl)) [2, 3, 4, 5, 6] ⟨_, _, _, _, _, _, _, _, _, _, _, _, _, _, _, _, _, _, _, _, rfl, rfl, rfl, (OwnC.nil _ _), rfl, (OwnC.nil _ _), rfl, (OwnC.nil _ _), rfl, (OwnC.nil _ _), rfl, (OwnC.nil _ _)⟩
 have H0 := cond_f H0 h4
 obtain ⟨x5, e5, H0⟩ := bS H0
 obtain ⟨x22, e22, H0⟩ := bS H0
 refine cw_skip (kw_nx (cw_seq (rdq g_mixed [1, 2] [0, 1] { dst := dS [9, 10, 11, 12, 13, 14, 15, 16, 0, 4], pre := gA [] [[], [0], [], [2], [2, 3], [2, 3, 4], rn 2 4, rn 0 7, rn 0 8, rn 0 9], ids := gA [] [[], [7, 8, 9, 10], [], [], [], [], [11], [], [1]], rs := rL [[(1, 0)], [(8, 1)], [(1, 0)], [(10, 3)], [(11, 4)], [(12, 5)], [(13, 6)], [(9, 2), (14, 7)], [(2, 0), (15, 8)], []], rh := rL [[(0, 0)], [], [], [], [(0, 0)], [], [], [], [(1, 0)]], V := fun i g => gA undef [.agg #[.slice p0_0 ((a0.t.b).length) c0_0, .slice p0_1 ((a0.t.f).length) c0_1, .slice p0_2 ((a0.c.l).length) c0_2, .int .i64 a0.c.h, .int .i64 a0.g.c, .int .i64 a0.g.n, .int .i64 a0.g.r, .slice p0_3 ((a0.g.o).length) c0_3, .int .i64 a0.s], .agg #[.slice ((g 1).A 0) ((x5.t.b).length) ((g 1).C 0), .slice ((g 1).A 1) ((x5.t.f).length) ((g 1).C 1), .slice ((g 1).A 2) ((x5.c.l).length) ((g 1).C 2), .int .i64 x5.c.h, .int .i64 x5.g.c, .int .i64 x5.g.n, .int .i64 x5.g.r, .slice ((g 1).A 3) ((x5.g.o).length) ((g 1).C 3), .int .i64 x5.s], .pointer (some ⟨b1, 0, none⟩), .pointer (some ⟨b1, 1, none⟩), .slice p0_1 ((a0.t.f).length) c0_1, .int .i64 ((a0.t.f).length : Int), .slice ((g 6).A 0) x22 x22, .agg #[.slice ((g 1).A 0) ((x5.t.b).length) ((g 1).C 0), .slice ((g 1).A 1) ((x5.t.f).length) ((g 1).C 1), .slice ((g 1).A 2) ((x5.c.l).length) ((g 1).C 2), .int .i64 x5.c.h, .int .i64 x5.g.c, .int .i64 x5.g.n, .int .i64 x5.g.r, .slice ((g 1).A 3) ((x5.g.o).length) ((g 1).C 3), .int .i64 x5.s, .slice ((g 6).A 0) x22 x22, .int .i64 0], undef, .bool true] i, U := fun i g => gA [] [[], [(7, ((g 1).R 0)), (8, ((g 1).R 1)), (9, ((g 1).R 2)), (10, ((g 1).R 3))], [], [], [], [], [(11, ((g 6).R 0))], [], [(1, [(b2, .cells #[.slice ((g 1).A 0) ((x5.t.b).length) ((g 1).C 0), .slice ((g 1).A 1) ((x5.t.f).length) ((g 1).C 1), .slice ((g 1).A 2) ((x5.c.l).length) ((g 1).C 2), .int .i64 x5.c.h, .int .i64 x5.g.c, .int .i64 x5.g.n, .int .i64 x5.g.r, .slice ((g 1).A 3) ((x5.g.o).length) ((g 1).C 3), .int .i64 x5.s, .slice ((g 6).A 0) x22 x22, .int .i64 0] 69 (0, 0))])]] i, Φ := fun i x => match i with | 1 => OwnC 3 (x.A 0) (x.C 0) x5.t.b (x.R 0) ∧ OwnC 58 (x.A 1) (x.C 1) x5.t.f (x.R 1) ∧ OwnC 41 (x.A 2) (x.C 2) x5.c.l (x.R 2) ∧ OwnC 118 (x.A 3) (x.C 3) x5.g.o (x.R 3) | 6 => OwnC (α := Bool) 4 (x.A 0) x22 (List.replicate x22 false) (x.R 0) | _ => True } ?_ ?_)))
 ·refine ⟨lc rfl rfl fun hs hh => stp_loadN (us := [_, _, _, _, _, _, _, _, _]) ts34 (sv hs 1 rfl) (Cells.box (id := 0) (hh.get 0 _ rfl) 9 rfl), ?_, lc rfl rfl fun hs hh => stp_fieldAddr (j := 0) Tryz.underlying34 rfl ts26 rfl (sv hs 1 rfl) rfl, lc rfl rfl fun hs hh => stp_fieldAddr (j := 1) Tryz.underlying26 rfl ts24 rfl (sv hs 10 rfl) rfl, lc rfl rfl fun hs hh => stp_load1 ts24 (sv hs 11 rfl) (Cells.box (id := 0) (hh.get 0 _ rfl) 1 rfl), lc rfl rfl fun hs hh => stp_len Tryz.underlying24 (sv hs 12 rfl), ?_, ld rfl rfl fun g hΦ s h hs hh => stp_build (cs := #[.slice ((g 1).A 0) ((x5.t.b).length) ((g 1).C 0), .slice ((g 1).A 1) ((x5.t.f).length) ((g 1).C 1), .slice ((g 1).A 2) ((x5.c.l).length) ((g 1).C 2), .int .i64 x5.c.h, .int .i64 x5.g.c, .int .i64 x5.g.n, .int .i64 x5.g.r, .slice ((g 1).A 3) ((x5.g.o).length) ((g 1).C 3), .int .i64 x5.s, .slice ((g 6).A 0) x22 x22, .int .i64 0]) (sevp_cons (sv hs 9 rfl) (sevp_cons (sv hs 14 rfl) sevp_nil)) bt69_23, ?_, lc rfl rfl fun hs hh => stp_assign rfl, trivial⟩
  ·refine le rfl rfl (fun g hΦ s h hs hh => (stpU_call (fun i => 7 + i) cf52 (fun w hw => c_s_l6Copy fl w a0 rfl (RO.pass hr0_0 hw) rfl (RO.pass hr0_1 hw) rfl (RO.pass hr0_2 hw) rfl (RO.pass hr0_3 hw) x5 e5) (yA (sv hs 8 rfl)))) ?_
   rintro g _ _ ⟨_, ⟨p6, _, c8, C9, p10, _, c12, C13, p14, _, c16, C17, p18, _, c20, C21, rfl, rfl, rfl, o9, rfl, o13, rfl, o17, rfl, o21⟩, rfl⟩
   exact ⟨⟨[p6, p10, p14, p18], [c8, c12, c16, c20], [C9, C13, C17, C21]⟩, ⟨o9, o13, o17, o21⟩, .inr rfl, rfl⟩
  ·refine le rfl rfl (fun g hΦ s h hs hh => (stpU_make sl67 rfl 11 (sv hs 13 rfl) (sv hs 13 rfl) e22)) ?_
   rintro g _ _ ⟨p23, C24, rfl, rfl, o24⟩
   exact ⟨⟨[p23], [], [C24]⟩, o24, .inr rfl, rfl⟩
  refine le rfl rfl (fun g hΦ s h hs hh => (stpU_store (id := 1) (cs' := [.slice ((g 1).A 0) ((x5.t.b).length) ((g 1).C 0), .slice ((g 1).A 1) ((x5.t.f).length) ((g 1).C 1), .slice ((g 1).A 2) ((x5.c.l).length) ((g 1).C 2), .int .i64 x5.c.h, .int .i64 x5.g.c, .int .i64 x5.g.n, .int .i64 x5.g.r, .slice ((g 1).A 3) ((x5.g.o).length) ((g 1).C 3), .int .i64 x5.s, .slice ((g 6).A 0) x22 x22, .int .i64 0]) ts69 (sv hs 2 rfl) (sv hs 15 rfl) (hh.get 1 _ rfl) rfl rfl rfl rfl)) ?_
  rintro g _ _ rfl
  exact ⟨⟨[], [], []⟩, trivial, .inl rfl, rfl⟩
 intro g hΦ
 refine kw_gen (ι := Option Addr × Option Addr × Option Addr × Option Addr × Nat × Nat × Nat × Nat × Res × Res × Res × Res × Option Addr × Res) (((g 1).A 0), ((g 1).A 1), ((g 1).A 2), ((g 1).A 3), ((g 1).C 0), ((g 1).C 1), ((g 1).C 2), ((g 1).C 3), ((g 1).R 0), ((g 1).R 1), ((g 1).R 2), ((g 1).R 3), ((g 6).A 0), ((g 6).R 0)) (fun | (p6, p10, p14, p18, c8, c12, c16, c20, C9, C13, C17, C21, p23, C24) => OwnC 3 p6 c8 x5.t.b C9 ∧ OwnC 58 p10 c12 x5.t.f C13 ∧ OwnC 41 p14 c16 x5.c.l C17 ∧ OwnC 118 p18 c20 x5.g.o C21 ∧ OwnC (α := Bool) 4 p23 x22 (List.replicate x22 false) C24) (fun | (p6, p10, p14, p18, c8, c12, c16, c20, C9, C13, C17, C21, p23, C24) => [(2, .pointer (some ⟨b2, 0, none⟩)), (3, .bool true)]) (fun | (p6, p10, p14, p18, c8, c12, c16, c20, C9, C13, C17, C21, p23, C24) => [(1, [(b2, .cells #[.slice p6 ((x5.t.b).length) c8, .slice p10 ((x5.t.f).length) c12, .slice p14 ((x5.c.l).length) c16, .int .i64 x5.c.h, .int .i64 x5.g.c, .int .i64 x5.g.n, .int .i64 x5.g.r, .slice p18 ((x5.g.o).length) c20, .int .i64 x5.s, .slice p23 x22 x22, .int .i64 0] 69 (0, 0))]), (7, C9), (8, C13), (9, C17), (10, C21), (11, C24)]) ⟨(hΦ 1 (by decide)).1, (hΦ 1 (by decide)).2.1, (hΦ 1 (by decide)).2.2.1, (hΦ 1 (by decide)).2.2.2, (hΦ 6 (by decide))⟩ ⟨rfl, rfl, trivial⟩ ⟨rfl, rfl, rfl, rfl, rfl, rfl, trivial⟩ ?_
 rintro ⟨p6, p10, p14, p18, c8, c12, c16, c20, C9, C13, C17, C21, p23, C24⟩ ⟨o9, o13, o17, o21, o24⟩
 dsimp only
 refine kw_nx (cw_ret ?_)
 obtain rfl := sI H0
 exact kr Tryz.results41 (.cons (.cellN (us := [_, _, _, _, _, _, _, _, _, _, _]) ts69 rfl (Cells.box (id := 1) rfl 11 rfl)) (rT rfl)) [7, 8, 9, 10, 11] ⟨_, _, _, _, _, _, _, _, _, _, _, _, _, _, _, _, _, _, _, _, rfl, rfl, rfl, o9, rfl, o13, rfl, o17, rfl, o21, (by simp), o24⟩

theorem c_slices_Equal_Bool (fl : Nat) (w : World) (a0 : (List Bool)) (a1 : (List Bool)) (hn0_0 : n0_0 = (a0).length) (hr0_0 : RO w (hkeys []) (RdL p0_0 c0_0 a0)) (hn1_0 : n1_0 = (a1).length) (hr1_0 : RO w (hkeys []) (RdL p1_0 c1_0 a1)) (r : Bool) (H0 : slices_Equal_Bool fl a0 a1 = some r) :
  Ct Tryz.prog 94 [.slice p0_0 n0_0 c0_0, .slice p1_0 n1_0 c1_0] w [] (fun rv h' => rv = .bool r ∧ h' = []) := by
 subst hn0_0 hn1_0
 unfold slices_Equal_Bool at H0
 refine ct_of_cw Tryz.func94 rfl Tryz.ntmps94 rfl (Sat.refl _ _) ?_
 refine sr (oS rfl (nn (cw_seq (sr (oM rfl (oD (stp_len Tryz.underlying67 rfl) rfl (oM rfl (oD (stp_len Tryz.underlying67 rfl) rfl (oU rfl (nn (cw_cond rfl (fun h1 => ?_) (fun h1 => ?_))))))))))))
 ·have H0 := cond_t H0 h1
  refine sr (oS rfl (nn (cw_ret (kw_nx_ret ?_))))
  obtain rfl := sI H0
  exact kr Tryz.results94 (rT rfl) [] ⟨rfl, rfl⟩
 have H0 := cond_f H0 h1
 obtain ⟨o0_0, eo0_0, H0⟩ := bS H0
 refine cw_skip (kw_nx (cw_seq (sr (oM rfl (oD (stp_len Tryz.underlying67 rfl) rfl (oM rfl (nn (cw_join (ι := Int) (fun | v2 => o0_0 = .out v2) (fun | v2 => [(0, .slice p0_0 ((a0).length) c0_0), (1, .slice p1_0 ((a1).length) c1_0), (12, .int .i64 ((a0).length : Int)), (13, .int .i64 v2)]) (fun | v2 => []) ?_ ?_))))))))
 ·refine cw_block (cw_loopS (ι := Nat × Int) (js := []) (fun x => x.1) (fun | (fuel, v2) => slices_Equal_Bool_L0 fl a0 a1 fuel v2 = some o0_0) (fun | (_, v2) => [(0, .slice p0_0 ((a0).length) c0_0), (1, .slice p1_0 ((a1).length) c1_0), (12, .int .i64 ((a0).length : Int)), (13, .int .i64 v2)]) (fun | (_, v2) => []) (fl, 0) eo0_0 ⟨rfl, rfl, rfl, rfl, trivial⟩ trivial (by decide) ?_)
  rintro ⟨fuel, v2⟩ H1
  have H1 : slices_Equal_Bool_L0 fl a0 a1 fuel v2 = some o0_0 := H1
  rcases fuel with _ | fuel
  ·rw [slices_Equal_Bool_L0.eq_1] at H1; cases H1
  rw [slices_Equal_Bool_L0.eq_2] at H1
  dsimp only
  refine sr (oW rfl (nn (cw_seq (cw_cond rfl (fun h3 => ?_) (fun h3 => ?_)))))
  ·have H1 := cond_t H1 h3
   obtain ⟨x4, e4, H1⟩ := bS H1
   obtain ⟨x5, e5, H1⟩ := bS H1
   refine cw_skip (kw_nx (cw_seq (cw_block (sr (oM rfl (oS rfl (nn (cw_seq (rdq g_mixed [0, 1, 5] [] { dst := dS [17, 18, 19, 20, 21, 22, 23, 24, 25], pre := gA [] [[], [], [0, 1], [0, 1, 2], [], [], [4, 5], [4, 5, 6], rn 0 8], ids := fun _ => [], rs := rL [[(0, 0)], [(5, 0)], [(16, 1), (17, 2)], [(18, 3)], [(1, 0)], [(5, 0)], [(20, 5), (21, 6)], [(22, 7)], [(19, 4), (23, 8)]], rh := fun _ => [], V := fun i g => gA undef [.slice p0_0 ((a0).length) c0_0, .int .i64 v2, .pointer (some ⟨eB p0_0, eO p0_0 + Int.toNat v2 * Enc.sz Bool + 0, none⟩), .bool x4, .slice p1_0 ((a1).length) c1_0, .int .i64 v2, .pointer (some ⟨eB p1_0, eO p1_0 + Int.toNat v2 * Enc.sz Bool + 0, none⟩), .bool x5, .bool (x4 != x5)] i, U := fun _ _ => [], Φ := fun _ _ => True } ?_ ?_)))))))))
   ·exact ⟨lM, lM, lc rfl rfl fun hs hh => stp_indexAddr Tryz.underlying67 ts4 (by decide) (sv hs 16 rfl) rfl (sv hs 17 rfl) (Rdb.ro hr0_0) e4, lc rfl rfl fun hs hh => stp_load1 ts4 (sv hs 18 rfl) (Cells.el (Rdb.ro hr0_0) (by decide) e4 0 1 rfl), lM, lM, lc rfl rfl fun hs hh => stp_indexAddr Tryz.underlying67 ts4 (by decide) (sv hs 20 rfl) rfl (sv hs 21 rfl) (Rdb.ro hr1_0) e5, lc rfl rfl fun hs hh => stp_load1 ts4 (sv hs 22 rfl) (Cells.el (Rdb.ro hr1_0) (by decide) e5 0 1 rfl), lc rfl rfl fun hs hh => stp_neqB Tryz.underlying4 (sv hs 19 rfl) (sv hs 23 rfl), trivial⟩
   intro g hΦ
   refine KW.sub (s' := [(0, .slice p0_0 ((a0).length) c0_0), (1, .slice p1_0 ((a1).length) c1_0), (12, .int .i64 ((a0).length : Int)), (13, .int .i64 v2), (24, .bool (x4 != x5))]) (h' := []) ?_ ⟨rfl, rfl, rfl, rfl, rfl, trivial⟩ trivial
   refine kw_nx (cw_cond rfl (fun h6 => ?_) (fun h6 => ?_))
   ·have H1 := cond_t H1 h6
    refine sr (oS rfl (nn (cw_ret (kw_bl_ret (kw_nx_ret (kw_lq_ret (kw_bl_ret (kw_join_ret (kw_nx_ret ?_)))))))))
    obtain rfl := sI H1
    obtain rfl := sI H0
    exact kr Tryz.results94 (rT rfl) [] ⟨rfl, rfl⟩
   have H1 := cond_f H1 h6
   obtain ⟨x7, e7, H1⟩ := bS H1
   exact cw_skip (kw_bl_normal (kw_nx (cw_region (oP e7 rfl (oM rfl (ow_nil (kw_lqS (js := []) (fuel, x7) H1 (Nat.lt_succ_self _) ⟨rfl, rfl, rfl, rfl, trivial⟩ trivial (by decide))))))))
  have H1 := cond_f H1 h3
  refine cw_exit (kw_nx_exit (kw_lq_exit (kw_bl ?_)))
  obtain rfl := sI H1
  exact kw_joinS (js := []) v2 rfl ⟨rfl, rfl, rfl, rfl, trivial⟩ trivial (by decide)
 rintro v2 rfl
 dsimp only
 refine kw_nx (sr (oS rfl (nn (cw_ret ?_))))
 obtain rfl := sI H0
 exact kr Tryz.results94 (rT rfl) [] ⟨rfl, rfl⟩

theorem c_i_MemorySame (fl : Nat) (w : World) (a0 : Mm) (a1 : Mm) (hn0_0 : n0_0 = (a0.m.t.b).length) (hr0_0 : RO w (hkeys []) (RdL p0_0 c0_0 a0.m.t.b)) (hn0_1 : n0_1 = (a0.m.t.f).length) (hr0_1 : RO w (hkeys []) (RdL p0_1 c0_1 a0.m.t.f)) (hn0_2 : n0_2 = (a0.m.c.l).length) (hr0_2 : RO w (hkeys []) (RdL p0_2 c0_2 a0.m.c.l)) (hn0_3 : n0_3 = (a0.m.g.o).length) (hr0_3 : RO w (hkeys []) (RdL p0_3 c0_3 a0.m.g.o)) (hn0_4 : n0_4 = (a0.k).length) (hr0_4 : RO w (hkeys []) (RdL p0_4 c0_4 a0.k)) (hn1_0 : n1_0 = (a1.m.t.b).length) (hr1_0 : RO w (hkeys []) (RdL p1_0 c1_0 a1.m.t.b)) (hn1_1 : n1_1 = (a1.m.t.f).length) (hr1_1 : RO w (hkeys []) (RdL p1_1 c1_1 a1.m.t.f)) (hn1_2 : n1_2 = (a1.m.c.l).length) (hr1_2 : RO w (hkeys []) (RdL p1_2 c1_2 a1.m.c.l)) (hn1_3 : n1_3 = (a1.m.g.o).length) (hr1_3 : RO w (hkeys []) (RdL p1_3 c1_3 a1.m.g.o)) (hn1_4 : n1_4 = (a1.k).length) (hr1_4 : RO w (hkeys []) (RdL p1_4 c1_4 a1.k)) (r : Bool) (H0 : i_MemorySame fl a0 a1 = some r) :
  Ct Tryz.prog 42 [.agg #[.slice p0_0 n0_0 c0_0, .slice p0_1 n0_1 c0_1, .slice p0_2 n0_2 c0_2, .int .i64 a0.m.c.h, .int .i64 a0.m.g.c, .int .i64 a0.m.g.n, .int .i64 a0.m.g.r, .slice p0_3 n0_3 c0_3, .int .i64 a0.m.s, .slice p0_4 n0_4 c0_4, .int .i64 a0.h], .agg #[.slice p1_0 n1_0 c1_0, .slice p1_1 n1_1 c1_1, .slice p1_2 n1_2 c1_2, .int .i64 a1.m.c.h, .int .i64 a1.m.g.c, .int .i64 a1.m.g.n, .int .i64 a1.m.g.r, .slice p1_3 n1_3 c1_3, .int .i64 a1.m.s, .slice p1_4 n1_4 c1_4, .int .i64 a1.h]] w [] (fun rv h' => rv = .bool r ∧ h' = []) := by
 subst hn0_0 hn0_1 hn0_2 hn0_3 hn0_4 hn1_0 hn1_1 hn1_2 hn1_3 hn1_4
 unfold i_MemorySame at H0
 refine ct_of_cw Tryz.func42 rfl Tryz.ntmps42 rfl (Sat.refl _ _) ?_
 refine sr (oE (stpU_box 0 rfl rfl) rfl ?_)
 rintro _ _ ⟨b1, rfl, rfl⟩
 refine oE (stpU_box 1 rfl rfl) rfl ?_
 rintro _ _ ⟨b2, rfl, rfl⟩
 obtain ⟨x3, e3, H0⟩ := bS H0
 refine oS rfl (nn (sr (oA 0 Tryz.underlying69 rfl ts34 rfl (oB9 0 ts34 rfl (oA 0 Tryz.underlying69 rfl ts34 rfl (oB9 1 ts34 rfl (oE (stpU_call (fun i => 2 + i) cf18 (fun w hw => c_i_MachineSame fl w a0.m a1.m rfl (RO.pass hr0_0 hw) rfl (RO.pass hr0_1 hw) rfl (RO.pass hr0_2 hw) rfl (RO.pass hr0_3 hw) rfl (RO.pass hr1_0 hw) rfl (RO.pass hr1_1 hw) rfl (RO.pass hr1_2 hw) rfl (RO.pass hr1_3 hw) x3 e3) (yB rfl rfl)) rfl ?_)))))))
 rintro _ _ ⟨_, ⟨rfl, rfl⟩, rfl⟩
 obtain ⟨y4, ey4, H0⟩ := bS H0
 refine oM rfl (ow_cutY 6 16 y4 ?_ ?_)
 ·rcases Bool.eq_false_or_eq_true x3 with hy4 | hy4
  ·have ey4 := cond_t ey4 hy4
   obtain ⟨x5, e5, ey4⟩ := bS ey4
   refine oG rfl hy4 (fA 9 Tryz.underlying69 rfl ts67 rfl rfl rfl) rfl (oG rfl hy4 (lB 0 ts67 rfl rfl rfl) rfl (oG rfl hy4 (fA 9 Tryz.underlying69 rfl ts67 rfl rfl rfl) rfl (oG rfl hy4 (lB 1 ts67 rfl rfl rfl) rfl (ow_eff (.some rfl hy4) (stpU_call (fun i => 2 + i) cf94 (fun w hw => c_slices_Equal_Bool fl w a0.k a1.k rfl (RO.pass hr0_4 hw) rfl (RO.pass hr1_4 hw) x5 e5) (yB rfl rfl)) rfl ?_))))
   rintro _ _ ⟨_, ⟨rfl, rfl⟩, rfl⟩
   refine oD (stp_pick_t rfl hy4 rfl) rfl ?_
   obtain rfl := sI ey4
   exact ow_nil (jy 6 0)
  have ey4 := cond_f ey4 hy4
  refine oO rfl hy4 rfl (oO rfl hy4 rfl (oO rfl hy4 rfl (oO rfl hy4 rfl (oO rfl hy4 rfl (oD (stp_pick_f rfl hy4 rfl) rfl ?_)))))
  obtain rfl := sI ey4
  exact ow_nil (jy 6 0)
 obtain ⟨y6, ey6, H0⟩ := bS H0
 refine oM rfl (ow_cutY 6 23 y6 ?_ ?_)
 ·rcases Bool.eq_false_or_eq_true y4 with hy6 | hy6
  ·have ey6 := cond_t ey6 hy6
   refine oG rfl hy6 (fA 10 Tryz.underlying69 rfl ts3 rfl rfl rfl) rfl (oG rfl hy6 (lB 0 ts3 rfl rfl rfl) rfl (oG rfl hy6 (fA 10 Tryz.underlying69 rfl ts3 rfl rfl rfl) rfl (oG rfl hy6 (lB 1 ts3 rfl rfl rfl) rfl (oG rfl hy6 (stp_eql rfl rfl) rfl (oD (stp_pick_t rfl hy6 rfl) rfl ?_)))))
   obtain rfl := sI ey6
   exact ow_nil (jy 6 0)
  have ey6 := cond_f ey6 hy6
  refine oO rfl hy6 rfl (oO rfl hy6 rfl (oO rfl hy6 rfl (oO rfl hy6 rfl (oO rfl hy6 rfl (oD (stp_pick_f rfl hy6 rfl) rfl ?_)))))
  obtain rfl := sI ey6
  exact ow_nil (jy 6 0)
 refine oS rfl (nn (cw_ret ?_))
 obtain rfl := sI H0
 exact kr Tryz.results42 (rT rfl) [] ⟨rfl, rfl⟩

theorem c_i_MemoryValid (fl : Nat) (w : World) (a0 : Mm) (hn0_0 : n0_0 = (a0.m.t.b).length) (hr0_0 : RO w (hkeys []) (RdL p0_0 c0_0 a0.m.t.b)) (hn0_1 : n0_1 = (a0.m.t.f).length) (hr0_1 : RO w (hkeys []) (RdL p0_1 c0_1 a0.m.t.f)) (hn0_2 : n0_2 = (a0.m.c.l).length) (hr0_2 : RO w (hkeys []) (RdL p0_2 c0_2 a0.m.c.l)) (hn0_3 : n0_3 = (a0.m.g.o).length) (hr0_3 : RO w (hkeys []) (RdL p0_3 c0_3 a0.m.g.o)) (hn0_4 : n0_4 = (a0.k).length) (hr0_4 : RO w (hkeys []) (RdL p0_4 c0_4 a0.k)) (hg : RO w (hkeys []) (fun w' => w'.rangeAt 0 0 [.bool false, .int .i64 0, .int .i64 0, .int .i64 0, .int .i64 (-1)])) (r : Bool) (H0 : i_MemoryValid fl a0 = some r) :
  Ct Tryz.prog 44 [.agg #[.slice p0_0 n0_0 c0_0, .slice p0_1 n0_1 c0_1, .slice p0_2 n0_2 c0_2, .int .i64 a0.m.c.h, .int .i64 a0.m.g.c, .int .i64 a0.m.g.n, .int .i64 a0.m.g.r, .slice p0_3 n0_3 c0_3, .int .i64 a0.m.s, .slice p0_4 n0_4 c0_4, .int .i64 a0.h]] w [] (fun rv h' => rv = .bool r ∧ h' = []) := by
 subst hn0_0 hn0_1 hn0_2 hn0_3 hn0_4
 unfold i_MemoryValid at H0
 refine ct_of_cw Tryz.func44 rfl Tryz.ntmps44 rfl (Sat.refl _ _) ?_
 refine sr (oE (stpU_box 0 rfl rfl) rfl ?_)
 rintro _ _ ⟨b1, rfl, rfl⟩
 obtain ⟨x2, e2, H0⟩ := bS H0
 refine oS rfl (nn (sr (oA 0 Tryz.underlying69 rfl ts34 rfl (oA 0 Tryz.underlying34 rfl ts26 rfl (oA 1 Tryz.underlying26 rfl ts24 rfl (oL 0 ts24 rfl (oS rfl (nn (cw_seq (sr (oA 0 Tryz.underlying69 rfl ts34 rfl (oB9 0 ts34 rfl (oE (stpU_call (fun i => 1 + i) cf19 (fun w hw => c_i_MachineValid fl w a0.m rfl (RO.pass hr0_0 hw) rfl (RO.pass hr0_1 hw) rfl (RO.pass hr0_2 hw) rfl (RO.pass hr0_3 hw) (RO.pass hg hw) x2 e2) (yA rfl)) rfl ?_)))))))))))))
 rintro _ _ ⟨_, ⟨rfl, rfl⟩, rfl⟩
 obtain ⟨y3, ey3, H0⟩ := bS H0
 refine oK rfl (oM rfl (ow_cutY 7 21 y3 ?_ ?_))
 ·rcases Bool.eq_false_or_eq_true (!x2) with hy3 | hy3
  ·have ey3 := cond_t ey3 hy3
   refine oO rfl hy3 rfl (oO rfl hy3 rfl (oO rfl hy3 rfl (oO rfl hy3 rfl (oO rfl hy3 rfl (oO rfl hy3 rfl (oD (stp_pick_t rfl hy3 rfl) rfl ?_))))))
   obtain rfl := sI ey3
   exact ow_nil (jy 7 0)
  have ey3 := cond_f ey3 hy3
  refine oG rfl hy3 (fA 9 Tryz.underlying69 rfl ts67 rfl rfl rfl) rfl (oG rfl hy3 (lB 0 ts67 rfl rfl rfl) rfl (oG rfl hy3 (stp_len Tryz.underlying67 rfl) rfl (oG rfl hy3 (mv rfl) rfl (oG rfl hy3 (stp_len Tryz.underlying24 rfl) rfl (oG rfl hy3 (stp_neq rfl rfl) rfl (oD (stp_pick_f rfl hy3 rfl) rfl ?_))))))
  obtain rfl := sI ey3
  exact ow_nil (jy 7 0)
 obtain ⟨y4, ey4, H0⟩ := bS H0
 refine oM rfl (ow_cutY 7 29 y4 ?_ ?_)
 ·rcases Bool.eq_false_or_eq_true y3 with hy4 | hy4
  ·have ey4 := cond_t ey4 hy4
   refine oO rfl hy4 rfl (oO rfl hy4 rfl (oO rfl hy4 rfl (oO rfl hy4 rfl (oO rfl hy4 rfl (oO rfl hy4 rfl (oD (stp_pick_t rfl hy4 rfl) rfl ?_))))))
   obtain rfl := sI ey4
   exact ow_nil (jy 7 0)
  have ey4 := cond_f ey4 hy4
  obtain ⟨x5, e5, ey4⟩ := bS ey4
  refine oG rfl hy4 (fA 10 Tryz.underlying69 rfl ts3 rfl rfl rfl) rfl (oG rfl hy4 (lB 0 ts3 rfl rfl rfl) rfl (oG rfl hy4 (mv rfl) rfl (oG rfl hy4 (stp_len Tryz.underlying24 rfl) rfl (ow_eff (.some rfl hy4) (stpU_call (fun i => 1 + i) cf79 (fun w hw => c_i_within fl w a0.h ((a0.m.t.f).length : Int) x5 e5) (yB rfl rfl)) rfl ?_))))
  rintro _ _ ⟨_, ⟨rfl, rfl⟩, rfl⟩
  refine oG rfl hy4 (stp_not rfl) rfl (oD (stp_pick_f rfl hy4 rfl) rfl ?_)
  obtain rfl := sI ey4
  exact ow_nil (jy 7 0)
 refine ow_nil (kw_nx (cw_cond rfl (fun h6 => ?_) (fun h6 => ?_)))
 ·have H0 := cond_t H0 h6
  refine sr (oS rfl (nn (cw_ret (kw_nx_ret ?_))))
  obtain rfl := sI H0
  exact kr Tryz.results44 (rT rfl) [] ⟨rfl, rfl⟩
 have H0 := cond_f H0 h6
 obtain ⟨o0_0, eo0_0, H0⟩ := bS H0
 refine cw_skip (kw_nx (cw_seq (sr (oA 9 Tryz.underlying69 rfl ts67 rfl (oL 0 ts67 rfl (oD (stp_len Tryz.underlying67 rfl) rfl (oM rfl (nn (cw_join (ι := Int) (fun | v7 => o0_0 = .out v7) (fun | v7 => [(3, .slice p0_1 ((a0.m.t.f).length) c0_1), (31, .slice p0_4 ((a0.k).length) c0_4), (32, .int .i64 ((a0.k).length : Int)), (33, .int .i64 v7)]) (fun | v7 => []) ?_ ?_)))))))))
 ·refine cw_block (cw_loopS (ι := Nat × Int) (js := []) (fun x => x.1) (fun | (fuel, v7) => i_MemoryValid_L0 fl a0 fuel v7 = some o0_0) (fun | (_, v7) => [(3, .slice p0_1 ((a0.m.t.f).length) c0_1), (31, .slice p0_4 ((a0.k).length) c0_4), (32, .int .i64 ((a0.k).length : Int)), (33, .int .i64 v7)]) (fun | (_, v7) => []) (fl, 0) eo0_0 ⟨rfl, rfl, rfl, rfl, trivial⟩ trivial (by decide) ?_)
  rintro ⟨fuel, v7⟩ H1
  have H1 : i_MemoryValid_L0 fl a0 fuel v7 = some o0_0 := H1
  rcases fuel with _ | fuel
  ·rw [i_MemoryValid_L0.eq_1] at H1; cases H1
  rw [i_MemoryValid_L0.eq_2] at H1
  dsimp only
  refine sr (oW rfl (nn (cw_seq (cw_cond rfl (fun h8 => ?_) (fun h8 => ?_)))))
  ·have H1 := cond_t H1 h8
   obtain ⟨x9, e9, H1⟩ := bS H1
   refine cw_skip (kw_nx (cw_seq (cw_block (sr (oM rfl (oD (stp_indexAddr Tryz.underlying67 ts4 (by decide) rfl rfl rfl (Rdb.ro hr0_4) e9) rfl (oD (stp_load1 ts4 rfl (Cells.el (Rdb.ro hr0_4) (by decide) e9 0 1 rfl)) rfl (oS rfl (oS rfl (nn (sr (oM rfl (oM rfl ?_)))))))))))))
   obtain ⟨y10, ey10, H1⟩ := bS H1
   refine ow_cutY 7 46 y10 ?_ ?_
   ·rcases Bool.eq_false_or_eq_true x9 with hy10 | hy10
    ·have ey10 := cond_t ey10 hy10
     obtain ⟨x11, e11, ey10⟩ := bS ey10
     refine oG rfl hy10 (mv rfl) rfl (oG rfl hy10 (mv rfl) rfl (oG rfl hy10 (stp_indexAddr Tryz.underlying24 ts58 (by decide) rfl rfl rfl (Rdb.ro hr0_1) e11) rfl (oG rfl hy10 (fA 0 Tryz.underlying58 rfl ts4 rfl rfl rfl) rfl (oG rfl hy10 (stp_load1 ts4 rfl (Cells.el (Rdb.ro hr0_1) (by decide) e11 0 1 rfl)) rfl (oG rfl hy10 (stp_not rfl) rfl (oD (stp_pick_t rfl hy10 rfl) rfl ?_))))))
     obtain rfl := sI ey10
     exact ow_nil (jy 7 0)
    have ey10 := cond_f ey10 hy10
    refine oO rfl hy10 rfl (oO rfl hy10 rfl (oO rfl hy10 rfl (oO rfl hy10 rfl (oO rfl hy10 rfl (oO rfl hy10 rfl (oD (stp_pick_f rfl hy10 rfl) rfl ?_))))))
    obtain rfl := sI ey10
    exact ow_nil (jy 7 0)
   refine ow_nil (kw_nx (cw_cond rfl (fun h12 => ?_) (fun h12 => ?_)))
   ·have H1 := cond_t H1 h12
    refine sr (oS rfl (nn (cw_ret (kw_bl_ret (kw_nx_ret (kw_lq_ret (kw_bl_ret (kw_join_ret (kw_nx_ret ?_)))))))))
    obtain rfl := sI H1
    obtain rfl := sI H0
    exact kr Tryz.results44 (rT rfl) [] ⟨rfl, rfl⟩
   have H1 := cond_f H1 h12
   obtain ⟨x13, e13, H1⟩ := bS H1
   exact cw_skip (kw_bl_normal (kw_nx (cw_region (oP e13 rfl (oM rfl (ow_nil (kw_lqS (js := []) (fuel, x13) H1 (Nat.lt_succ_self _) ⟨rfl, rfl, rfl, rfl, trivial⟩ trivial (by decide))))))))
  have H1 := cond_f H1 h8
  refine cw_exit (kw_nx_exit (kw_lq_exit (kw_bl ?_)))
  obtain rfl := sI H1
  exact kw_joinS (js := []) v7 rfl ⟨rfl, rfl, rfl, rfl, trivial⟩ trivial (by decide)
 rintro v7 rfl
 dsimp only
 refine kw_nx (sr (oS rfl (nn (cw_ret ?_))))
 obtain rfl := sI H0
 exact kr Tryz.results44 (rT rfl) [] ⟨rfl, rfl⟩

theorem c_slices_Clone_Bool (fl : Nat) (w : World) (a0 : (List Bool)) (hn0_0 : n0_0 = (a0).length) (hr0_0 : RO w (hkeys []) (RdL p0_0 c0_0 a0)) (r : (List Bool)) (H0 : slices_Clone_Bool fl a0 = some r) :
  Ct Tryz.prog 140 [.slice p0_0 n0_0 c0_0] w [] (fun rv h' => ∃ (x0 : Option Addr) (y0 z0 : Nat) (C0 : Res), rv = .slice x0 y0 z0 ∧ h' = [(0, C0)] ∧ y0 = (r).length ∧ OwnC 4 x0 z0 r C0) := by
 subst hn0_0
 unfold slices_Clone_Bool at H0
 refine ct_of_cw Tryz.func140 rfl Tryz.ntmps140 rfl (Sat.refl _ _) ?_
 refine sr (oS rfl (nn (cw_seq (sr (oM rfl (oD (stp_eqlNil Tryz.underlying67 rfl) rfl (nn (cw_cond rfl (fun h1 => ?_) (fun h1 => ?_)))))))))
 ·have := True.intro
  obtain rfl : p0_0 = none := by simpa using h1
  obtain rfl : a0 = [] := nil_of_none hr0_0
  obtain rfl : r = [] := (cnt_some H0).1
  exact sr (oS rfl (nn (cw_ret (kw_nx_ret (kw_addNil 0 (kw_ret Tryz.results140 (rT rfl) [(0, [])] [0] ⟨0, [], rfl, rfl, trivial⟩ (by decide) ⟨none, 0, 0, [], rfl, rfl, rfl, (OwnC.nil _ _)⟩))))))
 have := True.intro
 refine cw_skip (kw_nx (sr (oE (stpU_lit0 sl67 1) rfl ?_)))
 rintro _ _ ⟨p2, C3, rfl, rfl, o3⟩
 refine oM rfl ?_
 have e4 : cnt (([] : List Bool) ++ a0) = some r := H0
 refine oE (stpU_append sl67 rfl (id := 1) rfl (by simp) rfl rfl rfl o3 (Rdb.ro hr0_0) e4) rfl ?_
 rintro _ _ ⟨p5, c6, C7, rfl, rfl, o7⟩
 exact oS rfl (nn (cw_ret (kw_ret Tryz.results140 (rT rfl) [(0, C7)] [1] ⟨1, [], rfl, rfl, trivial⟩ (by decide) ⟨p5, ((r).length), c6, C7, rfl, rfl, rfl, o7⟩)))

theorem c_i_Memory_clone (fl : Nat) (w : World) (a0 : Mm) (hn0_0 : n0_0 = (a0.m.t.b).length) (hr0_0 : RO w (hkeys []) (RdL p0_0 c0_0 a0.m.t.b)) (hn0_1 : n0_1 = (a0.m.t.f).length) (hr0_1 : RO w (hkeys []) (RdL p0_1 c0_1 a0.m.t.f)) (hn0_2 : n0_2 = (a0.m.c.l).length) (hr0_2 : RO w (hkeys []) (RdL p0_2 c0_2 a0.m.c.l)) (hn0_3 : n0_3 = (a0.m.g.o).length) (hr0_3 : RO w (hkeys []) (RdL p0_3 c0_3 a0.m.g.o)) (hn0_4 : n0_4 = (a0.k).length) (hr0_4 : RO w (hkeys []) (RdL p0_4 c0_4 a0.k)) (r : Mm) (H0 : i_Memory_clone fl a0 = some r) :
  Ct Tryz.prog 95 [.agg #[.slice p0_0 n0_0 c0_0, .slice p0_1 n0_1 c0_1, .slice p0_2 n0_2 c0_2, .int .i64 a0.m.c.h, .int .i64 a0.m.g.c, .int .i64 a0.m.g.n, .int .i64 a0.m.g.r, .slice p0_3 n0_3 c0_3, .int .i64 a0.m.s, .slice p0_4 n0_4 c0_4, .int .i64 a0.h]] w [] (fun rv h' => ∃ (x0 : Option Addr) (y0 z0 : Nat) (C0 : Res) (x1 : Option Addr) (y1 z1 : Nat) (C1 : Res) (x2 : Option Addr) (y2 z2 : Nat) (C2 : Res) (x3 : Option Addr) (y3 z3 : Nat) (C3 : Res) (x4 : Option Addr) (y4 z4 : Nat) (C4 : Res), rv = .agg #[.slice x0 y0 z0, .slice x1 y1 z1, .slice x2 y2 z2, .int .i64 r.m.c.h, .int .i64 r.m.g.c, .int .i64 r.m.g.n, .int .i64 r.m.g.r, .slice x3 y3 z3, .int .i64 r.m.s, .slice x4 y4 z4, .int .i64 r.h] ∧ h' = [(0, C0), (1, C1), (2, C2), (3, C3), (4, C4)] ∧ y0 = (r.m.t.b).length ∧ OwnC 3 x0 z0 r.m.t.b C0 ∧ y1 = (r.m.t.f).length ∧ OwnC 58 x1 z1 r.m.t.f C1 ∧ y2 = (r.m.c.l).length ∧ OwnC 41 x2 z2 r.m.c.l C2 ∧ y3 = (r.m.g.o).length ∧ OwnC 118 x3 z3 r.m.g.o C3 ∧ y4 = (r.k).length ∧ OwnC 4 x4 z4 r.k C4) := by
 subst hn0_0 hn0_1 hn0_2 hn0_3 hn0_4
 unfold i_Memory_clone at H0
 refine ct_of_cw Tryz.func95 rfl Tryz.ntmps95 rfl (Sat.refl _ _) ?_
 refine sr (oE (stpU_box 0 rfl rfl) rfl ?_)
 rintro _ _ ⟨b1, rfl, rfl⟩
 refine oE (stpU_alloc 1 tz69 rfl) rfl ?_
 rintro _ _ ⟨b2, rfl, rfl⟩
 obtain ⟨x3, e3, H0⟩ := bS H0
 refine nn (sr (oA 0 Tryz.underlying69 rfl ts34 rfl (oB9 0 ts34 rfl (oE (stpU_call (fun i => 2 + i) cf49 (fun w hw => c_i_Machine_clone fl w a0.m rfl (RO.pass hr0_0 hw) rfl (RO.pass hr0_1 hw) rfl (RO.pass hr0_2 hw) rfl (RO.pass hr0_3 hw) x3 e3) (yA rfl)) rfl ?_))))
 rintro _ _ ⟨_, ⟨p4, _, c6, C7, p8, _, c10, C11, p12, _, c14, C15, p16, _, c18, C19, rfl, rfl, rfl, o7, rfl, o11, rfl, o15, rfl, o19⟩, rfl⟩
 obtain ⟨x20, e20, H0⟩ := bS H0
 refine oA 0 Tryz.underlying69 rfl ts34 rfl (oC11 0 ts34 rfl rfl (nn (sr (oA 9 Tryz.underlying69 rfl ts67 rfl (oL 0 ts67 rfl (oE (stpU_call (fun i => 6 + i) cf140 (fun w hw => c_slices_Clone_Bool fl w a0.k rfl (RO.pass hr0_4 hw) x20 e20) (yA rfl)) rfl ?_))))))
 rintro _ _ ⟨_, ⟨p21, _, c23, C24, rfl, rfl, rfl, o24⟩, rfl⟩
 refine oE (stpU_call (fun i => i) cf139 (fun w hw => c_clip139 w p21 ((x20).length) c23 (OwnC.len o24).1) (yA rfl)) rfl ?_
 rintro _ _ ⟨_, ⟨rfl, rfl⟩, rfl⟩
 refine oA 9 Tryz.underlying69 rfl ts67 rfl (oC11 0 ts67 rfl rfl (nn (sr (oB11 0 ts69 rfl (oC11 1 ts69 rfl rfl (nn (cw_ret ?_)))))))
 obtain rfl := sI H0
 exact kr Tryz.results95 (rC11 1 ts69 rfl rfl) [2, 3, 4, 5, 6] ⟨_, _, _, _, _, _, _, _, _, _, _, _, _, _, _, _, _, _, _, _, rfl, rfl, rfl, o7, rfl, o11, rfl, o15, rfl, o19, rfl, (OwnC.clip o24)⟩

theorem c_i_ClearMarks (fl : Nat) (w : World) (a0 : Mm) (hn0_0 : n0_0 = (a0.m.t.b).length) (hr0_0 : RO w (hkeys []) (RdL p0_0 c0_0 a0.m.t.b)) (hn0_1 : n0_1 = (a0.m.t.f).length) (hr0_1 : RO w (hkeys []) (RdL p0_1 c0_1 a0.m.t.f)) (hn0_2 : n0_2 = (a0.m.c.l).length) (hr0_2 : RO w (hkeys []) (RdL p0_2 c0_2 a0.m.c.l)) (hn0_3 : n0_3 = (a0.m.g.o).length) (hr0_3 : RO w (hkeys []) (RdL p0_3 c0_3 a0.m.g.o)) (hn0_4 : n0_4 = (a0.k).length) (hr0_4 : RO w (hkeys []) (RdL p0_4 c0_4 a0.k)) (hg : RO w (hkeys []) (fun w' => w'.rangeAt 0 0 [.bool false, .int .i64 0, .int .i64 0, .int .i64 0, .int .i64 (-1)])) (r : Mm × Bool) (H0 : i_ClearMarks fl a0 = some r) :
  Ct Tryz.prog 43 [.agg #[.slice p0_0 n0_0 c0_0, .slice p0_1 n0_1 c0_1, .slice p0_2 n0_2 c0_2, .int .i64 a0.m.c.h, .int .i64 a0.m.g.c, .int .i64 a0.m.g.n, .int .i64 a0.m.g.r, .slice p0_3 n0_3 c0_3, .int .i64 a0.m.s, .slice p0_4 n0_4 c0_4, .int .i64 a0.h]] w [] (fun rv h' => ∃ (x0 : Option Addr) (y0 z0 : Nat) (C0 : Res) (x1 : Option Addr) (y1 z1 : Nat) (C1 : Res) (x2 : Option Addr) (y2 z2 : Nat) (C2 : Res) (x3 : Option Addr) (y3 z3 : Nat) (C3 : Res) (x4 : Option Addr) (y4 z4 : Nat) (C4 : Res), rv = .tuple #[.agg #[.slice x0 y0 z0, .slice x1 y1 z1, .slice x2 y2 z2, .int .i64 r.1.m.c.h, .int .i64 r.1.m.g.c, .int .i64 r.1.m.g.n, .int .i64 r.1.m.g.r, .slice x3 y3 z3, .int .i64 r.1.m.s, .slice x4 y4 z4, .int .i64 r.1.h], .bool r.2] ∧ h' = [(0, C0), (1, C1), (2, C2), (3, C3), (4, C4)] ∧ y0 = (r.1.m.t.b).length ∧ OwnC 3 x0 z0 r.1.m.t.b C0 ∧ y1 = (r.1.m.t.f).length ∧ OwnC 58 x1 z1 r.1.m.t.f C1 ∧ y2 = (r.1.m.c.l).length ∧ OwnC 41 x2 z2 r.1.m.c.l C2 ∧ y3 = (r.1.m.g.o).length ∧ OwnC 118 x3 z3 r.1.m.g.o C3 ∧ y4 = (r.1.k).length ∧ OwnC 4 x4 z4 r.1.k C4) := by
 subst hn0_0 hn0_1 hn0_2 hn0_3 hn0_4
 unfold i_ClearMarks at H0
 refine ct_of_cw Tryz.func43 rfl Tryz.ntmps43 rfl (Sat.refl _ _) ?_
 refine sr (oE (stpU_box 0 rfl rfl) rfl ?_)
 rintro _ _ ⟨b1, rfl, rfl⟩
 refine oE (stpU_alloc 1 tz69 rfl) rfl ?_
 rintro _ _ ⟨b2, rfl, rfl⟩
 obtain ⟨x3, e3, H0⟩ := bS H0
 refine oS rfl (nn (cw_seq (sr (oB11 0 ts69 rfl (oE (stpU_call (fun i => 2 + i) cf44 (fun w hw => c_i_MemoryValid fl w a0 rfl (RO.pass hr0_0 hw) rfl (RO.pass hr0_1 hw) rfl (RO.pass hr0_2 hw) rfl (RO.pass hr0_3 hw) rfl (RO.pass hr0_4 hw) (RO.pass hg hw) x3 e3) (yA rfl)) rfl ?_)))))
 rintro _ _ ⟨_, ⟨rfl, rfl⟩, rfl⟩
 refine oK rfl (nn (cw_cond rfl (fun h4 => ?_) (fun h4 => ?_)))
 ·have H0 := cond_t H0 h4
  refine sr (oD (stp_build (cs := #[.slice none 0 0, .slice none 0 0, .slice none 0 0, .int .i64 0, .int .i64 0, .int .i64 0, .int .i64 0, .slice none 0 0, .int .i64 0, .slice none 0 0, .int .i64 0]) sevp_nil bt69_21) rfl (oC11 1 ts69 rfl rfl (oS rfl (nn (cw_ret (kw_nx_ret (kw_addNil 2 (kw_addNil 3 (kw_addNil 4 (kw_addNil 5 (kw_addNil 6 ?_)))))))))))
  obtain rfl := sI H0
  exact kr Tryz.results43 (.cons (.cellN (us := [_, _, _, _, _, _, _, _, _, _, _]) ts69 rfl (Cells.box (id := 1) rfl 11 rfl)) (rT rfl)) [2, 3, 4, 5, 6] ⟨_, _, _, _, _, _, _, _, _, _, _, _, _, _, _, _, _, _, _, _, rfl, rfl, rfl, (OwnC.nil _ _), rfl, (OwnC.nil _ _), rfl, (OwnC.nil _ _), rfl, (OwnC.nil _ _), rfl, (OwnC.nil _ _)⟩
 have H0 := cond_f H0 h4
 obtain ⟨x5, e5, H0⟩ := bS H0
 refine cw_skip (kw_nx (sr (oB11 0 ts69 rfl (oE (stpU_call (fun i => 7 + i) cf95 (fun w hw => c_i_Memory_clone fl w a0 rfl (RO.pass hr0_0 hw) rfl (RO.pass hr0_1 hw) rfl (RO.pass hr0_2 hw) rfl (RO.pass hr0_3 hw) rfl (RO.pass hr0_4 hw) x5 e5) (yA rfl)) rfl ?_))))
 rintro _ _ ⟨_, ⟨p6, _, c8, C9, p10, _, c12, C13, p14, _, c16, C17, p18, _, c20, C21, p22, _, c24, C25, rfl, rfl, rfl, o9, rfl, o13, rfl, o17, rfl, o21, rfl, o25⟩, rfl⟩
 refine oE (stpU_alloc 12 tz69 rfl) rfl ?_
 rintro _ _ ⟨b26, rfl, rfl⟩
 refine oC11 12 ts69 rfl rfl (nn (sr (oA 9 Tryz.underlying69 rfl ts67 rfl (oL 12 ts67 rfl (oF (stpU_clear (id := 11) sl67 rfl rfl rfl o25) ?_)))))
 rintro _ _ ⟨C27, rfl, rfl, o27⟩
 refine nn (sr (oB11 12 ts69 rfl (oC11 1 ts69 rfl rfl (oS rfl (nn (cw_ret ?_))))))
 obtain rfl := sI H0
 exact kr Tryz.results43 (.cons (.cellN (us := [_, _, _, _, _, _, _, _, _, _, _]) ts69 rfl (Cells.box (id := 1) rfl 11 rfl)) (rT rfl)) [7, 8, 9, 10, 11] ⟨_, _, _, _, _, _, _, _, _, _, _, _, _, _, _, _, _, _, _, _, rfl, rfl, rfl, o9, rfl, o13, rfl, o17, rfl, o21, (by simp), o27⟩

theorem c_l_FnNewMemory (fl : Nat) (w : World) (a0 : (List UInt8)) (hn0_0 : n0_0 = (a0).length) (hr0_0 : RO w (hkeys []) (RdL p0_0 c0_0 a0)) (hg : RO w (hkeys []) (fun w' => w'.rangeAt 0 0 [.bool false, .int .i64 0, .int .i64 0, .int .i64 0, .int .i64 (-1)])) (r : Bool) (H0 : l_FnNewMemory fl a0 = some r) :
  Ct Tryz.prog 14 [.slice p0_0 n0_0 c0_0] w [] (fun rv h' => rv = .bool r ∧ h' = []) := by
 subst hn0_0
 unfold l_FnNewMemory at H0
 refine ct_of_cw Tryz.func14 rfl Tryz.ntmps14 rfl (Sat.refl _ _) ?_
 refine sr (oS rfl (nn (cw_seq (sr (oM rfl (oD (stp_len Tryz.underlying22 rfl) rfl (oJ rfl (nn (cw_cond rfl (fun h1 => ?_) (fun h1 => ?_))))))))))
 ·have H0 := cond_t H0 h1
  refine sr (oS rfl (nn (cw_ret (kw_nx_ret ?_))))
  obtain rfl := sI H0
  exact kr Tryz.results14 (rT rfl) [] ⟨rfl, rfl⟩
 have H0 := cond_f H0 h1
 obtain ⟨x2, e2, H0⟩ := bS H0
 refine cw_skip (kw_nx (sr (oM rfl (oE (stpU_call (fun i => 0 + i) cf39 (fun w hw => c_s_DrawNewMemory fl w a0 rfl (RO.pass hr0_0 hw) x2 e2) (yA rfl)) rfl ?_))))
 rintro _ _ ⟨_, ⟨p3, _, c5, C6, p7, _, c9, C10, p11, _, c13, C14, p15, _, c17, C18, rfl, rfl, rfl, o6, rfl, o10, rfl, o14, rfl, o18⟩, rfl⟩
 refine oE (stpU_alloc 4 tz34 rfl) rfl ?_
 rintro _ _ ⟨b19, rfl, rfl⟩
 obtain ⟨x20, e20, H0⟩ := bS H0
 refine oC9 4 ts34 rfl rfl (nn (sr (oB9 4 ts34 rfl (oE (stpU_call (fun i => 5 + i) cf40 (fun w hw => c_i_NewMemory fl w x2 rfl (OwnC.pass (id := 0) rfl o6 hw) rfl (OwnC.pass (id := 1) rfl o10 hw) rfl (OwnC.pass (id := 2) rfl o14 hw) rfl (OwnC.pass (id := 3) rfl o18 hw) (RO.pass hg hw) x20 e20) (yA rfl)) rfl ?_))))
 rintro _ _ ⟨_, ⟨p21, _, c23, C24, p25, _, c27, C28, p29, _, c31, C32, p33, _, c35, C36, p37, _, c39, C40, rfl, rfl, rfl, o24, rfl, o28, rfl, o32, rfl, o36, rfl, o40⟩, rfl⟩
 refine oM rfl (oT rfl (oT rfl (oE (stpU_alloc 10 tz69 rfl) rfl ?_)))
 rintro _ _ ⟨b41, rfl, rfl⟩
 obtain ⟨x42, e42, H0⟩ := bS H0
 refine oC11 10 ts69 rfl rfl (oS rfl (nn (sr (oB9 4 ts34 rfl (oE (stpU_call (fun i => 11 + i) cf41 (fun w hw => c_s_NewMemory fl w x2 rfl (OwnC.pass (id := 0) rfl o6 hw) rfl (OwnC.pass (id := 1) rfl o10 hw) rfl (OwnC.pass (id := 2) rfl o14 hw) rfl (OwnC.pass (id := 3) rfl o18 hw) x42 e42) (yA rfl)) rfl ?_)))))
 rintro _ _ ⟨_, ⟨p43, _, c45, C46, p47, _, c49, C50, p51, _, c53, C54, p55, _, c57, C58, p59, _, c61, C62, rfl, rfl, rfl, o46, rfl, o50, rfl, o54, rfl, o58, rfl, o62⟩, rfl⟩
 refine oM rfl (oT rfl (oT rfl (oE (stpU_alloc 16 tz69 rfl) rfl ?_)))
 rintro _ _ ⟨b63, rfl, rfl⟩
 obtain ⟨x64, e64, H0⟩ := bS H0
 refine oC11 16 ts69 rfl rfl (oS rfl (nn (cw_seq (sr (oB11 10 ts69 rfl (oB11 16 ts69 rfl (oE (stpU_call (fun i => 17 + i) cf42 (fun w hw => c_i_MemorySame fl w x20.1 x42.1 rfl (OwnC.pass (id := 5) rfl o24 hw) rfl (OwnC.pass (id := 6) rfl o28 hw) rfl (OwnC.pass (id := 7) rfl o32 hw) rfl (OwnC.pass (id := 8) rfl o36 hw) rfl (OwnC.pass (id := 9) rfl o40 hw) rfl (OwnC.pass (id := 11) rfl o46 hw) rfl (OwnC.pass (id := 12) rfl o50 hw) rfl (OwnC.pass (id := 13) rfl o54 hw) rfl (OwnC.pass (id := 14) rfl o58 hw) rfl (OwnC.pass (id := 15) rfl o62 hw) x64 e64) (yB rfl rfl)) rfl ?_)))))))
 rintro _ _ ⟨_, ⟨rfl, rfl⟩, rfl⟩
 obtain ⟨y65, ey65, H0⟩ := bS H0
 refine oK rfl (oM rfl (ow_cutY 4 33 y65 ?_ ?_))
 ·rcases Bool.eq_false_or_eq_true (!x64) with hy65 | hy65
  ·have ey65 := cond_t ey65 hy65
   refine oO rfl hy65 rfl (oO rfl hy65 rfl (oO rfl hy65 rfl (oD (stp_pick_t rfl hy65 rfl) rfl ?_)))
   obtain rfl := sI ey65
   exact ow_nil (jy 4 0)
  have ey65 := cond_f ey65 hy65
  refine oG rfl hy65 (mv rfl) rfl (oG rfl hy65 (mv rfl) rfl (oG rfl hy65 (stp_neqB Tryz.underlying4 rfl rfl) rfl (oD (stp_pick_f rfl hy65 rfl) rfl ?_)))
  obtain rfl := sI ey65
  exact ow_nil (jy 4 0)
 obtain ⟨y66, ey66, H0⟩ := bS H0
 refine oM rfl (ow_cutY 5 39 y66 ?_ ?_)
 ·rcases Bool.eq_false_or_eq_true y65 with hy66 | hy66
  ·have ey66 := cond_t ey66 hy66
   refine oO rfl hy66 rfl (oO rfl hy66 rfl (oO rfl hy66 rfl (oO rfl hy66 rfl (oD (stp_pick_t rfl hy66 rfl) rfl ?_))))
   obtain rfl := sI ey66
   exact ow_nil (jy 5 0)
  have ey66 := cond_f ey66 hy66
  obtain ⟨x67, e67, ey66⟩ := bS ey66
  refine oG rfl hy66 (mv rfl) rfl (oG rfl hy66 (stp_loadN (us := [_, _, _, _, _, _, _, _, _]) ts34 rfl (Cells.box (id := 4) rfl 9 rfl)) rfl (ow_eff (.some rfl hy66) (stpU_call (fun i => 17 + i) cf19 (fun w hw => c_i_MachineValid fl w x2 rfl (OwnC.pass (id := 0) rfl o6 hw) rfl (OwnC.pass (id := 1) rfl o10 hw) rfl (OwnC.pass (id := 2) rfl o14 hw) rfl (OwnC.pass (id := 3) rfl o18 hw) (RO.pass hg hw) x67 e67) (yA rfl)) rfl ?_))
  rintro _ _ ⟨_, ⟨rfl, rfl⟩, rfl⟩
  refine oG rfl hy66 (stp_neqB Tryz.underlying4 rfl rfl) rfl (oD (stp_pick_f rfl hy66 rfl) rfl ?_)
  obtain rfl := sI ey66
  exact ow_nil (jy 5 0)
 obtain ⟨y68, ey68, H0⟩ := bS H0
 refine oM rfl (ow_cutY 3 43 y68 ?_ ?_)
 ·rcases Bool.eq_false_or_eq_true y66 with hy68 | hy68
  ·have ey68 := cond_t ey68 hy68
   refine oO rfl hy68 rfl (oO rfl hy68 rfl (oD (stp_pick_t rfl hy68 rfl) rfl ?_))
   obtain rfl := sI ey68
   exact ow_nil (jy 3 0)
  have ey68 := cond_f ey68 hy68
  refine oG rfl hy68 (mv rfl) rfl (oG rfl hy68 (stp_not rfl) rfl (oD (stp_pick_f rfl hy68 rfl) rfl ?_))
  obtain rfl := sI ey68
  exact ow_nil (jy 3 0)
 refine ow_nil (kw_nx (cw_cond rfl (fun h69 => ?_) (fun h69 => ?_)))
 ·have H0 := cond_t H0 h69
  refine sr (oB11 10 ts69 rfl (oB11 16 ts69 rfl (oE (stpU_call (fun i => 17 + i) cf42 (fun w hw => c_i_MemorySame fl w x20.1 x42.1 rfl (OwnC.pass (id := 5) rfl o24 hw) rfl (OwnC.pass (id := 6) rfl o28 hw) rfl (OwnC.pass (id := 7) rfl o32 hw) rfl (OwnC.pass (id := 8) rfl o36 hw) rfl (OwnC.pass (id := 9) rfl o40 hw) rfl (OwnC.pass (id := 11) rfl o46 hw) rfl (OwnC.pass (id := 12) rfl o50 hw) rfl (OwnC.pass (id := 13) rfl o54 hw) rfl (OwnC.pass (id := 14) rfl o58 hw) rfl (OwnC.pass (id := 15) rfl o62 hw) x64 e64) (yB rfl rfl)) rfl ?_)))
  rintro _ _ ⟨_, ⟨rfl, rfl⟩, rfl⟩
  obtain ⟨y70, ey70, H0⟩ := bS H0
  refine oM rfl (ow_cutY 4 51 y70 ?_ ?_)
  ·rcases Bool.eq_false_or_eq_true x64 with hy70 | hy70
   ·have ey70 := cond_t ey70 hy70
    refine oG rfl hy70 (mv rfl) rfl (oG rfl hy70 (mv rfl) rfl (oG rfl hy70 (stp_eqlB Tryz.underlying4 rfl rfl) rfl (oD (stp_pick_t rfl hy70 rfl) rfl ?_)))
    obtain rfl := sI ey70
    exact ow_nil (jy 4 0)
   have ey70 := cond_f ey70 hy70
   refine oO rfl hy70 rfl (oO rfl hy70 rfl (oO rfl hy70 rfl (oD (stp_pick_f rfl hy70 rfl) rfl ?_)))
   obtain rfl := sI ey70
   exact ow_nil (jy 4 0)
  obtain ⟨y71, ey71, H0⟩ := bS H0
  refine oM rfl (ow_cutY 5 57 y71 ?_ ?_)
  ·rcases Bool.eq_false_or_eq_true y70 with hy71 | hy71
   ·have ey71 := cond_t ey71 hy71
    obtain ⟨x72, e72, ey71⟩ := bS ey71
    refine oG rfl hy71 (mv rfl) rfl (oG rfl hy71 (stp_loadN (us := [_, _, _, _, _, _, _, _, _]) ts34 rfl (Cells.box (id := 4) rfl 9 rfl)) rfl (ow_eff (.some rfl hy71) (stpU_call (fun i => 17 + i) cf19 (fun w hw => c_i_MachineValid fl w x2 rfl (OwnC.pass (id := 0) rfl o6 hw) rfl (OwnC.pass (id := 1) rfl o10 hw) rfl (OwnC.pass (id := 2) rfl o14 hw) rfl (OwnC.pass (id := 3) rfl o18 hw) (RO.pass hg hw) x72 e72) (yA rfl)) rfl ?_))
    rintro _ _ ⟨_, ⟨rfl, rfl⟩, rfl⟩
    refine oG rfl hy71 (stp_eqlB Tryz.underlying4 rfl rfl) rfl (oD (stp_pick_t rfl hy71 rfl) rfl ?_)
    obtain rfl := sI ey71
    exact ow_nil (jy 5 0)
   have ey71 := cond_f ey71 hy71
   refine oO rfl hy71 rfl (oO rfl hy71 rfl (oO rfl hy71 rfl (oO rfl hy71 rfl (oD (stp_pick_f rfl hy71 rfl) rfl ?_))))
   obtain rfl := sI ey71
   exact ow_nil (jy 5 0)
  refine oS rfl (nn (cw_ret (kw_nx_ret ?_)))
  obtain rfl := sI H0
  exact kr Tryz.results14 (rT rfl) [] ⟨rfl, rfl⟩
 have H0 := cond_f H0 h69
 obtain ⟨x73, e73, H0⟩ := bS H0
 refine cw_skip (kw_nx (sr (oB11 10 ts69 rfl (oE (stpU_call (fun i => 17 + i) cf43 (fun w hw => c_i_ClearMarks fl w x20.1 rfl (OwnC.pass (id := 5) rfl o24 hw) rfl (OwnC.pass (id := 6) rfl o28 hw) rfl (OwnC.pass (id := 7) rfl o32 hw) rfl (OwnC.pass (id := 8) rfl o36 hw) rfl (OwnC.pass (id := 9) rfl o40 hw) (RO.pass hg hw) x73 e73) (yA rfl)) rfl ?_))))
 rintro _ _ ⟨_, ⟨p74, _, c76, C77, p78, _, c80, C81, p82, _, c84, C85, p86, _, c88, C89, p90, _, c92, C93, rfl, rfl, rfl, o77, rfl, o81, rfl, o85, rfl, o89, rfl, o93⟩, rfl⟩
 refine oM rfl (oT rfl (oT rfl (oE (stpU_alloc 22 tz69 rfl) rfl ?_)))
 rintro _ _ ⟨b94, rfl, rfl⟩
 obtain ⟨x95, e95, H0⟩ := bS H0
 refine oC11 22 ts69 rfl rfl (oS rfl (nn (sr (oB11 10 ts69 rfl (oE (stpU_call (fun i => 23 + i) cf44 (fun w hw => c_i_MemoryValid fl w x20.1 rfl (OwnC.pass (id := 5) rfl o24 hw) rfl (OwnC.pass (id := 6) rfl o28 hw) rfl (OwnC.pass (id := 7) rfl o32 hw) rfl (OwnC.pass (id := 8) rfl o36 hw) rfl (OwnC.pass (id := 9) rfl o40 hw) (RO.pass hg hw) x95 e95) (yA rfl)) rfl ?_)))))
 rintro _ _ ⟨_, ⟨rfl, rfl⟩, rfl⟩
 obtain ⟨y96, ey96, H0⟩ := bS H0
 refine oM rfl (ow_cutY 5 70 y96 ?_ ?_)
 ·rcases Bool.eq_false_or_eq_true x95 with hy96 | hy96
  ·have ey96 := cond_t ey96 hy96
   obtain ⟨x97, e97, ey96⟩ := bS ey96
   refine oG rfl hy96 (fA 0 Tryz.underlying69 rfl ts34 rfl rfl rfl) rfl (oG rfl hy96 (stp_loadN (us := [_, _, _, _, _, _, _, _, _]) ts34 rfl (Cells.box (id := 10) rfl 9 rfl)) rfl (oG rfl hy96 (stp_loadN (us := [_, _, _, _, _, _, _, _, _]) ts34 rfl (Cells.box (id := 4) rfl 9 rfl)) rfl (ow_eff (.some rfl hy96) (stpU_call (fun i => 23 + i) cf18 (fun w hw => c_i_MachineSame fl w x20.1.m x2 rfl (OwnC.pass (id := 5) rfl o24 hw) rfl (OwnC.pass (id := 6) rfl o28 hw) rfl (OwnC.pass (id := 7) rfl o32 hw) rfl (OwnC.pass (id := 8) rfl o36 hw) rfl (OwnC.pass (id := 0) rfl o6 hw) rfl (OwnC.pass (id := 1) rfl o10 hw) rfl (OwnC.pass (id := 2) rfl o14 hw) rfl (OwnC.pass (id := 3) rfl o18 hw) x97 e97) (yB rfl rfl)) rfl ?_)))
   rintro _ _ ⟨_, ⟨rfl, rfl⟩, rfl⟩
   refine oD (stp_pick_t rfl hy96 rfl) rfl ?_
   obtain rfl := sI ey96
   exact ow_nil (jy 5 0)
  have ey96 := cond_f ey96 hy96
  refine oO rfl hy96 rfl (oO rfl hy96 rfl (oO rfl hy96 rfl (oO rfl hy96 rfl (oD (stp_pick_f rfl hy96 rfl) rfl ?_))))
  obtain rfl := sI ey96
  exact ow_nil (jy 5 0)
 obtain ⟨y98, ey98, H0⟩ := bS H0
 refine oM rfl (ow_cutY 4 75 y98 ?_ ?_)
 ·rcases Bool.eq_false_or_eq_true y96 with hy98 | hy98
  ·have ey98 := cond_t ey98 hy98
   refine oG rfl hy98 (fA 10 Tryz.underlying69 rfl ts3 rfl rfl rfl) rfl (oG rfl hy98 (lB 10 ts3 rfl rfl rfl) rfl (oG rfl hy98 (stp_eql rfl rfl) rfl (oD (stp_pick_t rfl hy98 rfl) rfl ?_)))
   obtain rfl := sI ey98
   exact ow_nil (jy 4 0)
  have ey98 := cond_f ey98 hy98
  refine oO rfl hy98 rfl (oO rfl hy98 rfl (oO rfl hy98 rfl (oD (stp_pick_f rfl hy98 rfl) rfl ?_)))
  obtain rfl := sI ey98
  exact ow_nil (jy 4 0)
 obtain ⟨y99, ey99, H0⟩ := bS H0
 refine oM rfl (ow_cutY 2 78 y99 ?_ ?_)
 ·rcases Bool.eq_false_or_eq_true y98 with hy99 | hy99
  ·have ey99 := cond_t ey99 hy99
   refine oG rfl hy99 (mv rfl) rfl (oD (stp_pick_t rfl hy99 rfl) rfl ?_)
   obtain rfl := sI ey99
   exact ow_nil (jy 2 0)
  have ey99 := cond_f ey99 hy99
  refine oO rfl hy99 rfl (oD (stp_pick_f rfl hy99 rfl) rfl ?_)
  obtain rfl := sI ey99
  exact ow_nil (jy 2 0)
 obtain ⟨y100, ey100, H0⟩ := bS H0
 refine oM rfl (ow_cutY 4 83 y100 ?_ ?_)
 ·rcases Bool.eq_false_or_eq_true y99 with hy100 | hy100
  ·have ey100 := cond_t ey100 hy100
   obtain ⟨x101, e101, ey100⟩ := bS ey100
   refine oG rfl hy100 (stp_loadN (us := [_, _, _, _, _, _, _, _, _, _, _]) ts69 rfl (Cells.box (id := 22) rfl 11 rfl)) rfl (oG rfl hy100 (stp_loadN (us := [_, _, _, _, _, _, _, _, _, _, _]) ts69 rfl (Cells.box (id := 10) rfl 11 rfl)) rfl (ow_eff (.some rfl hy100) (stpU_call (fun i => 23 + i) cf42 (fun w hw => c_i_MemorySame fl w x73.1 x20.1 rfl (OwnC.pass (id := 17) rfl o77 hw) rfl (OwnC.pass (id := 18) rfl o81 hw) rfl (OwnC.pass (id := 19) rfl o85 hw) rfl (OwnC.pass (id := 20) rfl o89 hw) rfl (OwnC.pass (id := 21) rfl o93 hw) rfl (OwnC.pass (id := 5) rfl o24 hw) rfl (OwnC.pass (id := 6) rfl o28 hw) rfl (OwnC.pass (id := 7) rfl o32 hw) rfl (OwnC.pass (id := 8) rfl o36 hw) rfl (OwnC.pass (id := 9) rfl o40 hw) x101 e101) (yB rfl rfl)) rfl ?_))
   rintro _ _ ⟨_, ⟨rfl, rfl⟩, rfl⟩
   refine oD (stp_pick_t rfl hy100 rfl) rfl ?_
   obtain rfl := sI ey100
   exact ow_nil (jy 4 0)
  have ey100 := cond_f ey100 hy100
  refine oO rfl hy100 rfl (oO rfl hy100 rfl (oO rfl hy100 rfl (oD (stp_pick_f rfl hy100 rfl) rfl ?_)))
  obtain rfl := sI ey100
  exact ow_nil (jy 4 0)
 refine oS rfl (nn (cw_ret ?_))
 obtain rfl := sI H0
 exact kr Tryz.results14 (rT rfl) [] ⟨rfl, rfl⟩
end Go.Proofs.YtkohlcjdagckhaaGreatDoor
