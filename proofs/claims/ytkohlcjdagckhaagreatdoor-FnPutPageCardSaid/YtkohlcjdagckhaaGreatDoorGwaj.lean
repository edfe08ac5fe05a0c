/- The walks: functions of the program return what their pure functions say. Printed by a program (gen.py). -/
import Derived.Test.YtkohlcjdagckhaaGreatDoorGp
import Derived.Test.YtkohlcjdagckhaaGreatDoorGt
import Derived.Test.YtkohlcjdagckhaaGreatDoorMan
import Derived.Test.YtkohlcjdagckhaaGreatDoorMap
import Derived.Test.YtkohlcjdagckhaaGreatDoorCpy
import Derived.Test.YtkohlcjdagckhaaGreatDoorE8
import Derived.Test.YtkohlcjdagckhaaGreatDoorGwaa
import Derived.Test.YtkohlcjdagckhaaGreatDoorGwac
import Derived.Test.YtkohlcjdagckhaaGreatDoorGwak
import Derived.Test.YtkohlcjdagckhaaGreatDoorGwal
import Derived.Test.YtkohlcjdagckhaaGreatDoorGws
set_option linter.unusedSimpArgs false
set_option linter.unusedVariables false
set_option linter.unusedSectionVars false
namespace Go.Proofs.YtkohlcjdagckhaaGreatDoor
open Go.RowKit
set_option maxHeartbeats 4000000
set_option maxRecDepth 20000
variable {p0_0 p0_1 p0_2 p0_3 : Option Addr} {n0_0 n0_1 n0_2 n0_3 : Nat} {c0_0 c0_1 c0_2 c0_3 : Nat} {C0_0 C0_1 : Res}
theorem c_s_DrawPutPage (fl : Nat) (w : World) (a0 : (List UInt8)) (hn0_0 : n0_0 = (a0).length) (hr0_0 : RO w (hkeys []) (RdL p0_0 c0_0 a0)) (r : Mc × K × Int × Int) (H0 : s_DrawPutPage fl a0 = some r) :
  Ct Tryz.prog 22 [.slice p0_0 n0_0 c0_0] w [] (fun rv h' => ∃ (x0 : Option Addr) (y0 z0 : Nat) (C0 : Res) (x1 : Option Addr) (y1 z1 : Nat) (C1 : Res) (x2 : Option Addr) (y2 z2 : Nat) (C2 : Res) (x3 : Option Addr) (y3 z3 : Nat) (C3 : Res), rv = .tuple #[.agg #[.slice x0 y0 z0, .slice x1 y1 z1, .slice x2 y2 z2, .int .i64 r.1.c.h, .int .i64 r.1.g.c, .int .i64 r.1.g.n, .int .i64 r.1.g.r, .slice x3 y3 z3, .int .i64 r.1.s], .agg #[.int .i64 r.2.1.s, .int .i64 r.2.1.p], .int .i64 r.2.2.1, .int .i64 r.2.2.2] ∧ h' = [(0, C0), (1, C1), (2, C2), (3, C3)] ∧ y0 = (r.1.t.b).length ∧ OwnC 3 x0 z0 r.1.t.b C0 ∧ y1 = (r.1.t.f).length ∧ OwnC 58 x1 z1 r.1.t.f C1 ∧ y2 = (r.1.c.l).length ∧ OwnC 41 x2 z2 r.1.c.l C2 ∧ y3 = (r.1.g.o).length ∧ OwnC 118 x3 z3 r.1.g.o C3) := by
 subst hn0_0
 unfold s_DrawPutPage at H0
 refine ct_of_cw Tryz.func22 rfl Tryz.ntmps22 rfl (Sat.refl _ _) ?_
 refine sr (oE (stpU_alloc 0 tz34 rfl) rfl ?_)
 rintro _ _ ⟨b1, rfl, rfl⟩
 refine oE (stpU_alloc 1 tz47 rfl) rfl ?_
 rintro _ _ ⟨b2, rfl, rfl⟩
 refine oS rfl (oS rfl (nn (sr (oM rfl (oE (stpU_call (fun i => 2 + i) cf46 (fun w hw => c_open46 w a0 p0_0 ((a0).length) c0_0 rfl (RO.cap hr0_0).1) (yA rfl)) rfl ?_)))))
 rintro _ _ ⟨_, ⟨b3, rfl, rfl⟩, rfl⟩
 obtain ⟨x4, e4, H0⟩ := bS H0
 refine oS rfl (nn (sr (oM rfl (oM rfl (oE (stpU_callM (fun i => bif Nat.beq i 0 then 2 else 3 + i) cf64 (fun w hw hb => c_s_l6Draw fl w b3 (a0.take 2000) 0 rfl (RO.passM (RO.takeN 2000 hr0_0) hw hb) (hw.pass (js := [2]) ⟨2, [], rfl, rfl, trivial⟩ (by decide)) x4 e4) (yA rfl) ⟨rfl, (fun _ _ hp => by obtain ⟨_, _, _, _, _, _, _, _, _, _, _, _, _, _, _, _, _, rfl, _⟩ := hp; exact ⟨_, rfl⟩), trivial⟩) rfl ?_)))))
 rintro _ _ ⟨_, ⟨p5, _, c7, C8, p9, _, c11, C12, p13, _, c15, C16, p17, _, c19, C20, rfl, rfl, rfl, o8, rfl, o12, rfl, o16, rfl, o20⟩, rfl⟩
 obtain ⟨x21, e21, H0⟩ := bS H0
 refine oE (stpU_callM (fun i => bif Nat.beq i 0 then 2 else 8 + i) cf63 (fun w hw hb => c_s_l6Wrong fl w b3 (a0.take 2000) x4.2 x4.1 rfl (RO.passM (RO.takeN 2000 hr0_0) hw hb) rfl (OwnC.passM (id := 4) rfl o8 hw hb ⟨rfl, trivial⟩) rfl (OwnC.passM (id := 5) rfl o12 hw hb ⟨rfl, trivial⟩) rfl (OwnC.passM (id := 6) rfl o16 hw hb ⟨rfl, trivial⟩) rfl (OwnC.passM (id := 7) rfl o20 hw hb ⟨rfl, trivial⟩) (hw.pass (js := [2]) ⟨2, [], rfl, rfl, trivial⟩ (by decide)) x21 e21) (yB rfl rfl) ⟨rfl, (fun _ _ hp => by obtain ⟨_, _, _, _, _, _, _, _, _, _, _, _, _, _, _, _, _, rfl, _⟩ := hp; exact ⟨_, rfl⟩), trivial⟩) rfl ?_
 rintro _ _ ⟨_, ⟨p22, _, c24, C25, p26, _, c28, C29, p30, _, c32, C33, p34, _, c36, C37, rfl, rfl, rfl, o25, rfl, o29, rfl, o33, rfl, o37⟩, rfl⟩
 refine oE (stpU_alloc 13 tz34 rfl) rfl ?_
 rintro _ _ ⟨b38, rfl, rfl⟩
 obtain ⟨x39, e39, H0⟩ := bS H0
 refine oC9 13 ts34 rfl rfl (nn (sr (oM rfl (oE (stpU_callM (fun i => bif Nat.beq i 0 then 2 else 14 + i) cf66 (fun w hw hb => c_s_l12Rd_pick fl w b3 (a0.take 2000) x21.2 4 rfl (RO.passM (RO.takeN 2000 hr0_0) hw hb) (hw.pass (js := [2]) ⟨2, [], rfl, rfl, trivial⟩ (by decide)) x39 e39) (yB rfl rfl) ⟨rfl, (fun _ _ hp => by obtain ⟨_, rfl⟩ := hp; exact ⟨_, rfl⟩), trivial⟩) rfl ?_))))
 rintro _ _ ⟨_, ⟨rfl, rfl⟩, rfl⟩
 refine oM rfl (oE (stpU_lit (sz := 1) (l := [6, 7, 1, 202, 2]) [.int .i64 6, .int .i64 7, .int .i64 1, .int .i64 202, .int .i64 2] sl23 15 (sevp_cons rfl (sevp_cons rfl (sevp_cons rfl (sevp_cons rfl (sevp_cons rfl sevp_nil))))) rfl rfl rfl rfl rfl rfl rfl rfl rfl) rfl ?_)
 rintro _ _ ⟨p40, C41, rfl, rfl, o41⟩
 obtain ⟨x42, e42, H0⟩ := bS H0
 refine oE (stpU_callM (fun i => bif Nat.beq i 0 then 2 else 16 + i) cf47 (fun w hw hb => c_s_l12Rd_num fl w b3 (a0.take 2000) x39.2 ([6, 7, 1, 202, 2]) rfl (RO.passM (RO.takeN 2000 hr0_0) hw hb) (by simp) (OwnC.passM (id := 15) rfl o41 hw hb ⟨rfl, trivial⟩) (hw.pass (js := [2]) ⟨2, [], rfl, rfl, trivial⟩ (by decide)) x42 e42) (yB rfl rfl) ⟨rfl, (fun _ _ hp => by obtain ⟨_, rfl⟩ := hp; exact ⟨_, rfl⟩), trivial⟩) rfl ?_
 rintro _ _ ⟨_, ⟨rfl, rfl⟩, rfl⟩
 obtain ⟨x43, e43, H0⟩ := bS H0
 refine oE (stpU_call (fun i => 17 + i) cf65 (fun w hw => c_s_KeyFor fl w x39.1 x42.1 x43 e43) (yB rfl rfl)) rfl ?_
 rintro _ _ ⟨_, ⟨rfl, rfl⟩, rfl⟩
 refine oE (stpU_alloc 17 tz47 rfl) rfl ?_
 rintro _ _ ⟨b44, rfl, rfl⟩
 obtain ⟨x45, e45, H0⟩ := bS H0
 refine oC2 17 ts47 rfl rfl (nn (cw_seq (sr (oM rfl (oE (stpU_callM (fun i => bif Nat.beq i 0 then 2 else 18 + i) cf66 (fun w hw hb => c_s_l12Rd_pick fl w b3 (a0.take 2000) x42.2 16 rfl (RO.passM (RO.takeN 2000 hr0_0) hw hb) (hw.pass (js := [2]) ⟨2, [], rfl, rfl, trivial⟩ (by decide)) x45 e45) (yB rfl rfl) ⟨rfl, (fun _ _ hp => by obtain ⟨_, rfl⟩ := hp; exact ⟨_, rfl⟩), trivial⟩) rfl ?_)))))
 rintro _ _ ⟨_, ⟨rfl, rfl⟩, rfl⟩
 refine oQ rfl (nn (cw_cond rfl (fun h46 => ?_) (fun h46 => ?_)))
 ·have H0 := cond_t H0 h46
  obtain ⟨x49, e49, H0⟩ := bS H0
  obtain ⟨x52, e52, H0⟩ := bS H0
  refine cw_region (oD (stp_build (cs := #[.int .i64 1, .int .i64 200]) (sevp_cons rfl (sevp_cons rfl sevp_nil)) bt47_13) rfl (oC2 17 ts47 rfl rfl (nn (cw_seq (rdq g_mixed [2, 3, 6, 7, 8] [0, 1, 2, 13, 17] { dst := dS [26, 27, 28, 29, 30, 31, 32, 33, 0, 0, 5, 6], pre := gA [] [[], [], [], [], [2, 3], [], [], rn 2 5, [0, 2, 3, 4, 5, 6, 7], rn 0 9, rn 0 10, rn 0 11], ids := gA [] [[], [], [], [19], [2], [], [21], [2], [0], [1]], rs := rL [[(7, 0)], [(8, 0)], [(6, 0)], [], [(27, 3), (28, 4)], [(6, 0)], [], [(30, 6), (31, 7)], [(2, 0), (25, 1)], [(3, 0), (26, 2)], [(29, 5)], [(32, 8)]], rh := rL [[(13, 0)], [(17, 0)], [], [], [(2, 0), (19, 4)], [], [], [(2, 5), (21, 7)], [(0, 0)], [(1, 0)]], V := fun i g => gA undef [.agg #[.slice p22 ((x21.1.t.b).length) c24, .slice p26 ((x21.1.t.f).length) c28, .slice p30 ((x21.1.c.l).length) c32, .int .i64 x21.1.c.h, .int .i64 x21.1.g.c, .int .i64 x21.1.g.n, .int .i64 x21.1.g.r, .slice p34 ((x21.1.g.o).length) c36, .int .i64 x21.1.s], .agg #[.int .i64 1, .int .i64 200], .pointer (some ⟨b3, 0, none⟩), .slice ((g 3).A 0) 7 7, .int .i64 x49.1, .pointer (some ⟨b3, 0, none⟩), .slice ((g 6).A 0) 4 4, .int .i64 x52.1, undef, undef, .int .i64 x49.1, .int .i64 x52.1] i, U := fun i g => gA [] [[], [], [], [(19, ((g 3).R 0))], [(2, [(b3, .cells #[.slice p0_0 (((a0.take 2000)).length) c0_0, .int .i64 x49.2] 124 (0, 0))])], [], [(21, ((g 6).R 0))], [(2, [(b3, .cells #[.slice p0_0 (((a0.take 2000)).length) c0_0, .int .i64 x52.2] 124 (0, 0))])], [(0, [(b1, .cells #[.slice p22 ((x21.1.t.b).length) c24, .slice p26 ((x21.1.t.f).length) c28, .slice p30 ((x21.1.c.l).length) c32, .int .i64 x21.1.c.h, .int .i64 x21.1.g.c, .int .i64 x21.1.g.n, .int .i64 x21.1.g.r, .slice p34 ((x21.1.g.o).length) c36, .int .i64 x21.1.s] 34 (0, 0))])], [(1, [(b2, .cells #[.int .i64 1, .int .i64 200] 47 (0, 0))])]] i, Φ := fun i x => match i with | 3 => OwnC (α := Int) 3 (x.A 0) 7 ([0, 1, 2, 3, 4, 5, 16]) (x.R 0) | 6 => OwnC (α := Int) 3 (x.A 0) 4 ([3, 1, 7, 8]) (x.R 0) | _ => True } ?_ ?_)))))
  ·refine ⟨lc rfl rfl fun hs hh => stp_loadN (us := [_, _, _, _, _, _, _, _, _]) ts34 (sv hs 7 rfl) (Cells.box (id := 13) (hh.get 13 _ rfl) 9 rfl), lc rfl rfl fun hs hh => stp_loadN (us := [_, _]) ts47 (sv hs 8 rfl) (Cells.box (id := 17) (hh.get 17 _ rfl) 2 rfl), lM, ?_, ?_, lM, ?_, ?_, ?_, ?_, lS, lS, trivial⟩
   ·refine le rfl rfl (fun g hΦ s h hs hh => (stpU_lit (sz := 1) (l := [0, 1, 2, 3, 4, 5, 16]) [.int .i64 0, .int .i64 1, .int .i64 2, .int .i64 3, .int .i64 4, .int .i64 5, .int .i64 16] sl23 19 (sevp_cons rfl (sevp_cons rfl (sevp_cons rfl (sevp_cons rfl (sevp_cons rfl (sevp_cons rfl (sevp_cons rfl sevp_nil))))))) rfl rfl rfl rfl rfl rfl rfl rfl rfl)) ?_
    rintro g _ _ ⟨p47, C48, rfl, rfl, o48⟩
    exact ⟨⟨[p47], [], [C48]⟩, o48, .inr rfl, rfl⟩
   ·refine le rfl rfl (fun g hΦ s h hs hh => (stpU_callM (fun i => bif Nat.beq i 0 then 2 else 20 + i) cf47 (fun w hw hb => c_s_l12Rd_num fl w b3 (a0.take 2000) x45.2 ([0, 1, 2, 3, 4, 5, 16]) rfl (RO.passM (RO.takeN 2000 hr0_0) hw hb) (by simp) (OwnC.passM (id := 19) (hh.get 19 _ rfl) (hΦ 3 rfl) hw hb ⟨rfl, trivial⟩) (hw.pass (js := [2]) ⟨2, [], rfl, (hh.get 2 _ rfl), trivial⟩ (by decide)) x49 e49) (yB (sv hs 27 rfl) (sv hs 28 rfl)) ⟨(hh.get 2 _ rfl), (fun _ _ hp => by obtain ⟨_, rfl⟩ := hp; exact ⟨_, rfl⟩), trivial⟩)) ?_
    rintro g _ _ ⟨_, ⟨rfl, rfl⟩, rfl⟩
    exact ⟨⟨[], [], []⟩, trivial, .inr rfl, rfl⟩
   ·refine le rfl rfl (fun g hΦ s h hs hh => (stpU_lit (sz := 1) (l := [3, 1, 7, 8]) [.int .i64 3, .int .i64 1, .int .i64 7, .int .i64 8] sl23 21 (sevp_cons rfl (sevp_cons rfl (sevp_cons rfl (sevp_cons rfl sevp_nil)))) rfl rfl rfl rfl rfl rfl rfl rfl rfl)) ?_
    rintro g _ _ ⟨p50, C51, rfl, rfl, o51⟩
    exact ⟨⟨[p50], [], [C51]⟩, o51, .inr rfl, rfl⟩
   ·refine le rfl rfl (fun g hΦ s h hs hh => (stpU_callM (fun i => bif Nat.beq i 0 then 2 else 22 + i) cf47 (fun w hw hb => c_s_l12Rd_num fl w b3 (a0.take 2000) x49.2 ([3, 1, 7, 8]) rfl (RO.passM (RO.takeN 2000 hr0_0) hw hb) (by simp) (OwnC.passM (id := 21) (hh.get 21 _ rfl) (hΦ 6 rfl) hw hb ⟨rfl, trivial⟩) (hw.pass (js := [2]) ⟨2, [], rfl, (hh.get 2 _ rfl), trivial⟩ (by decide)) x52 e52) (yB (sv hs 30 rfl) (sv hs 31 rfl)) ⟨(hh.get 2 _ rfl), (fun _ _ hp => by obtain ⟨_, rfl⟩ := hp; exact ⟨_, rfl⟩), trivial⟩)) ?_
    rintro g _ _ ⟨_, ⟨rfl, rfl⟩, rfl⟩
    exact ⟨⟨[], [], []⟩, trivial, .inr rfl, rfl⟩
   ·refine le rfl rfl (fun g hΦ s h hs hh => (stpU_store (id := 0) (cs' := [.slice p22 ((x21.1.t.b).length) c24, .slice p26 ((x21.1.t.f).length) c28, .slice p30 ((x21.1.c.l).length) c32, .int .i64 x21.1.c.h, .int .i64 x21.1.g.c, .int .i64 x21.1.g.n, .int .i64 x21.1.g.r, .slice p34 ((x21.1.g.o).length) c36, .int .i64 x21.1.s]) ts34 (sv hs 2 rfl) (sv hs 25 rfl) (hh.get 0 _ rfl) rfl rfl rfl rfl)) ?_
    rintro g _ _ rfl
    exact ⟨⟨[], [], []⟩, trivial, .inl rfl, rfl⟩
   refine le rfl rfl (fun g hΦ s h hs hh => (stpU_store (id := 1) (cs' := [.int .i64 1, .int .i64 200]) ts47 (sv hs 3 rfl) (sv hs 26 rfl) (hh.get 1 _ rfl) rfl rfl rfl rfl)) ?_
   rintro g _ _ rfl
   exact ⟨⟨[], [], []⟩, trivial, .inl rfl, rfl⟩
  intro g hΦ
  refine kw_gen (ι := Option Addr × Res × Option Addr × Res) (((g 3).A 0), ((g 3).R 0), ((g 6).A 0), ((g 6).R 0)) (fun | (p47, C48, p50, C51) => OwnC (α := Int) 3 p47 7 ([0, 1, 2, 3, 4, 5, 16]) C48 ∧ OwnC (α := Int) 3 p50 4 ([3, 1, 7, 8]) C51) (fun | (p47, C48, p50, C51) => [(2, .pointer (some ⟨b1, 0, none⟩)), (3, .pointer (some ⟨b2, 0, none⟩)), (4, .int .i64 x49.1), (5, .int .i64 x52.1)]) (fun | (p47, C48, p50, C51) => [(0, [(b1, .cells #[.slice p22 ((x21.1.t.b).length) c24, .slice p26 ((x21.1.t.f).length) c28, .slice p30 ((x21.1.c.l).length) c32, .int .i64 x21.1.c.h, .int .i64 x21.1.g.c, .int .i64 x21.1.g.n, .int .i64 x21.1.g.r, .slice p34 ((x21.1.g.o).length) c36, .int .i64 x21.1.s] 34 (0, 0))]), (1, [(b2, .cells #[.int .i64 1, .int .i64 200] 47 (0, 0))]), (9, C25), (10, C29), (11, C33), (12, C37)]) ⟨(hΦ 3 (by decide)), (hΦ 6 (by decide))⟩ ⟨rfl, rfl, rfl, rfl, trivial⟩ ⟨rfl, rfl, rfl, rfl, rfl, rfl, trivial⟩ ?_
  rintro ⟨p47, C48, p50, C51⟩ ⟨o48, o51⟩
  dsimp only
  refine kw_nx (cw_ret ?_)
  obtain rfl := sI H0
  exact kr Tryz.results22 (.cons (.cellN (us := [_, _, _, _, _, _, _, _, _]) ts34 rfl (Cells.box (id := 0) rfl 9 rfl)) (.cons (.cellN (us := [_, _]) ts47 rfl (Cells.box (id := 1) rfl 2 rfl)) (.cons (.tmp rfl) (rT rfl)))) [9, 10, 11, 12] ⟨_, _, _, _, _, _, _, _, _, _, _, _, _, _, _, _, rfl, rfl, rfl, o25, rfl, o29, rfl, o33, rfl, o37⟩
 have H0 := cond_f H0 h46
 obtain ⟨x55, e55, H0⟩ := bS H0
 obtain ⟨x58, e58, H0⟩ := bS H0
 refine cw_skip (kw_nx (cw_seq (rdq g_mixed [2, 3, 6, 7, 8] [0, 1, 2, 13, 17] { dst := dS [26, 27, 28, 29, 30, 31, 32, 33, 0, 0, 5, 6], pre := gA [] [[], [], [], [], [2, 3], [], [], rn 2 5, [0, 2, 3, 4, 5, 6, 7], rn 0 9, rn 0 10, rn 0 11], ids := gA [] [[], [], [], [23], [2], [], [25], [2], [0], [1]], rs := rL [[(7, 0)], [(8, 0)], [(6, 0)], [], [(27, 3), (28, 4)], [(6, 0)], [], [(30, 6), (31, 7)], [(2, 0), (25, 1)], [(3, 0), (26, 2)], [(29, 5)], [(32, 8)]], rh := rL [[(13, 0)], [(17, 0)], [], [], [(2, 0), (23, 4)], [], [], [(2, 5), (25, 7)], [(0, 0)], [(1, 0)]], V := fun i g => gA undef [.agg #[.slice p22 ((x21.1.t.b).length) c24, .slice p26 ((x21.1.t.f).length) c28, .slice p30 ((x21.1.c.l).length) c32, .int .i64 x21.1.c.h, .int .i64 x21.1.g.c, .int .i64 x21.1.g.n, .int .i64 x21.1.g.r, .slice p34 ((x21.1.g.o).length) c36, .int .i64 x21.1.s], .agg #[.int .i64 x43.s, .int .i64 x43.p], .pointer (some ⟨b3, 0, none⟩), .slice ((g 3).A 0) 7 7, .int .i64 x55.1, .pointer (some ⟨b3, 0, none⟩), .slice ((g 6).A 0) 4 4, .int .i64 x58.1, undef, undef, .int .i64 x55.1, .int .i64 x58.1] i, U := fun i g => gA [] [[], [], [], [(23, ((g 3).R 0))], [(2, [(b3, .cells #[.slice p0_0 (((a0.take 2000)).length) c0_0, .int .i64 x55.2] 124 (0, 0))])], [], [(25, ((g 6).R 0))], [(2, [(b3, .cells #[.slice p0_0 (((a0.take 2000)).length) c0_0, .int .i64 x58.2] 124 (0, 0))])], [(0, [(b1, .cells #[.slice p22 ((x21.1.t.b).length) c24, .slice p26 ((x21.1.t.f).length) c28, .slice p30 ((x21.1.c.l).length) c32, .int .i64 x21.1.c.h, .int .i64 x21.1.g.c, .int .i64 x21.1.g.n, .int .i64 x21.1.g.r, .slice p34 ((x21.1.g.o).length) c36, .int .i64 x21.1.s] 34 (0, 0))])], [(1, [(b2, .cells #[.int .i64 x43.s, .int .i64 x43.p] 47 (0, 0))])]] i, Φ := fun i x => match i with | 3 => OwnC (α := Int) 3 (x.A 0) 7 ([0, 1, 2, 3, 4, 5, 16]) (x.R 0) | 6 => OwnC (α := Int) 3 (x.A 0) 4 ([3, 1, 7, 8]) (x.R 0) | _ => True } ?_ ?_)))
 ·refine ⟨lc rfl rfl fun hs hh => stp_loadN (us := [_, _, _, _, _, _, _, _, _]) ts34 (sv hs 7 rfl) (Cells.box (id := 13) (hh.get 13 _ rfl) 9 rfl), lc rfl rfl fun hs hh => stp_loadN (us := [_, _]) ts47 (sv hs 8 rfl) (Cells.box (id := 17) (hh.get 17 _ rfl) 2 rfl), lM, ?_, ?_, lM, ?_, ?_, ?_, ?_, lS, lS, trivial⟩
  ·refine le rfl rfl (fun g hΦ s h hs hh => (stpU_lit (sz := 1) (l := [0, 1, 2, 3, 4, 5, 16]) [.int .i64 0, .int .i64 1, .int .i64 2, .int .i64 3, .int .i64 4, .int .i64 5, .int .i64 16] sl23 23 (sevp_cons rfl (sevp_cons rfl (sevp_cons rfl (sevp_cons rfl (sevp_cons rfl (sevp_cons rfl (sevp_cons rfl sevp_nil))))))) rfl rfl rfl rfl rfl rfl rfl rfl rfl)) ?_
   rintro g _ _ ⟨p53, C54, rfl, rfl, o54⟩
   exact ⟨⟨[p53], [], [C54]⟩, o54, .inr rfl, rfl⟩
  ·refine le rfl rfl (fun g hΦ s h hs hh => (stpU_callM (fun i => bif Nat.beq i 0 then 2 else 24 + i) cf47 (fun w hw hb => c_s_l12Rd_num fl w b3 (a0.take 2000) x45.2 ([0, 1, 2, 3, 4, 5, 16]) rfl (RO.passM (RO.takeN 2000 hr0_0) hw hb) (by simp) (OwnC.passM (id := 23) (hh.get 23 _ rfl) (hΦ 3 rfl) hw hb ⟨rfl, trivial⟩) (hw.pass (js := [2]) ⟨2, [], rfl, (hh.get 2 _ rfl), trivial⟩ (by decide)) x55 e55) (yB (sv hs 27 rfl) (sv hs 28 rfl)) ⟨(hh.get 2 _ rfl), (fun _ _ hp => by obtain ⟨_, rfl⟩ := hp; exact ⟨_, rfl⟩), trivial⟩)) ?_
   rintro g _ _ ⟨_, ⟨rfl, rfl⟩, rfl⟩
   exact ⟨⟨[], [], []⟩, trivial, .inr rfl, rfl⟩
  ·refine le rfl rfl (fun g hΦ s h hs hh => (stpU_lit (sz := 1) (l := [3, 1, 7, 8]) [.int .i64 3, .int .i64 1, .int .i64 7, .int .i64 8] sl23 25 (sevp_cons rfl (sevp_cons rfl (sevp_cons rfl (sevp_cons rfl sevp_nil)))) rfl rfl rfl rfl rfl rfl rfl rfl rfl)) ?_
   rintro g _ _ ⟨p56, C57, rfl, rfl, o57⟩
   exact ⟨⟨[p56], [], [C57]⟩, o57, .inr rfl, rfl⟩
  ·refine le rfl rfl (fun g hΦ s h hs hh => (stpU_callM (fun i => bif Nat.beq i 0 then 2 else 26 + i) cf47 (fun w hw hb => c_s_l12Rd_num fl w b3 (a0.take 2000) x55.2 ([3, 1, 7, 8]) rfl (RO.passM (RO.takeN 2000 hr0_0) hw hb) (by simp) (OwnC.passM (id := 25) (hh.get 25 _ rfl) (hΦ 6 rfl) hw hb ⟨rfl, trivial⟩) (hw.pass (js := [2]) ⟨2, [], rfl, (hh.get 2 _ rfl), trivial⟩ (by decide)) x58 e58) (yB (sv hs 30 rfl) (sv hs 31 rfl)) ⟨(hh.get 2 _ rfl), (fun _ _ hp => by obtain ⟨_, rfl⟩ := hp; exact ⟨_, rfl⟩), trivial⟩)) ?_
   rintro g _ _ ⟨_, ⟨rfl, rfl⟩, rfl⟩
   exact ⟨⟨[], [], []⟩, trivial, .inr rfl, rfl⟩
  ·refine le rfl rfl (fun g hΦ s h hs hh => (stpU_store (id := 0) (cs' := [.slice p22 ((x21.1.t.b).length) c24, .slice p26 ((x21.1.t.f).length) c28, .slice p30 ((x21.1.c.l).length) c32, .int .i64 x21.1.c.h, .int .i64 x21.1.g.c, .int .i64 x21.1.g.n, .int .i64 x21.1.g.r, .slice p34 ((x21.1.g.o).length) c36, .int .i64 x21.1.s]) ts34 (sv hs 2 rfl) (sv hs 25 rfl) (hh.get 0 _ rfl) rfl rfl rfl rfl)) ?_
   rintro g _ _ rfl
   exact ⟨⟨[], [], []⟩, trivial, .inl rfl, rfl⟩
  refine le rfl rfl (fun g hΦ s h hs hh => (stpU_store (id := 1) (cs' := [.int .i64 x43.s, .int .i64 x43.p]) ts47 (sv hs 3 rfl) (sv hs 26 rfl) (hh.get 1 _ rfl) rfl rfl rfl rfl)) ?_
  rintro g _ _ rfl
  exact ⟨⟨[], [], []⟩, trivial, .inl rfl, rfl⟩
 intro g hΦ
 refine kw_gen (ι := Option Addr × Res × Option Addr × Res) (((g 3).A 0), ((g 3).R 0), ((g 6).A 0), ((g 6).R 0)) (fun | (p53, C54, p56, C57) => OwnC (α := Int) 3 p53 7 ([0, 1, 2, 3, 4, 5, 16]) C54 ∧ OwnC (α := Int) 3 p56 4 ([3, 1, 7, 8]) C57) (fun | (p53, C54, p56, C57) => [(2, .pointer (some ⟨b1, 0, none⟩)), (3, .pointer (some ⟨b2, 0, none⟩)), (4, .int .i64 x55.1), (5, .int .i64 x58.1)]) (fun | (p53, C54, p56, C57) => [(0, [(b1, .cells #[.slice p22 ((x21.1.t.b).length) c24, .slice p26 ((x21.1.t.f).length) c28, .slice p30 ((x21.1.c.l).length) c32, .int .i64 x21.1.c.h, .int .i64 x21.1.g.c, .int .i64 x21.1.g.n, .int .i64 x21.1.g.r, .slice p34 ((x21.1.g.o).length) c36, .int .i64 x21.1.s] 34 (0, 0))]), (1, [(b2, .cells #[.int .i64 x43.s, .int .i64 x43.p] 47 (0, 0))]), (9, C25), (10, C29), (11, C33), (12, C37)]) ⟨(hΦ 3 (by decide)), (hΦ 6 (by decide))⟩ ⟨rfl, rfl, rfl, rfl, trivial⟩ ⟨rfl, rfl, rfl, rfl, rfl, rfl, trivial⟩ ?_
 rintro ⟨p53, C54, p56, C57⟩ ⟨o54, o57⟩
 dsimp only
 refine kw_nx (cw_ret ?_)
 obtain rfl := sI H0
 exact kr Tryz.results22 (.cons (.cellN (us := [_, _, _, _, _, _, _, _, _]) ts34 rfl (Cells.box (id := 0) rfl 9 rfl)) (.cons (.cellN (us := [_, _]) ts47 rfl (Cells.box (id := 1) rfl 2 rfl)) (.cons (.tmp rfl) (rT rfl)))) [9, 10, 11, 12] ⟨_, _, _, _, _, _, _, _, _, _, _, _, _, _, _, _, rfl, rfl, rfl, o25, rfl, o29, rfl, o33, rfl, o37⟩

theorem c_i_Table_link (fl : Nat) (w : World) (a0 : T) (a1 : K) (a2 : Int) (a3 : Int) (hn0_0 : n0_0 = (a0.b).length) (ho0_0 : OwnC 3 p0_0 c0_0 a0.b C0_0) (hn0_1 : n0_1 = (a0.f).length) (ho0_1 : OwnC 58 p0_1 c0_1 a0.f C0_1) (hM : Sat w (hkeys [(0, C0_0), (1, C0_1)]) w [(0, C0_0), (1, C0_1)]) (r : (List Int) × (List F)) (H0 : i_Table_link fl a0 a1 a2 a3 = some r) :
  Ct Tryz.prog 122 [.agg #[.slice p0_0 n0_0 c0_0, .slice p0_1 n0_1 c0_1], .agg #[.int .i64 a1.s, .int .i64 a1.p], .int .i64 a2, .int .i64 a3] w [(0, C0_0), (1, C0_1)] (fun rv h' => ∃ (D0 : Res) (D1 : Res), rv = .tuple #[] ∧ h' = [(0, D0), (1, D1)] ∧ n0_0 = (r.1).length ∧ OwnC 3 p0_0 c0_0 r.1 D0 ∧ n0_1 = (r.2).length ∧ OwnC 58 p0_1 c0_1 r.2 D1) := by
 subst hn0_0 hn0_1
 unfold i_Table_link at H0
 refine ct_of_cw Tryz.func122 rfl Tryz.ntmps122 rfl hM ?_
 refine sr (oE (stpU_box 2 rfl rfl) rfl ?_)
 rintro _ _ ⟨b1, rfl, rfl⟩
 refine oE (stpU_box 3 rfl rfl) rfl ?_
 rintro _ _ ⟨b2, rfl, rfl⟩
 obtain ⟨x3, e3, H0⟩ := bS H0
 refine nn (sr (oB2 3 ts47 rfl (oA 0 Tryz.underlying26 rfl ts23 rfl (oL 2 ts23 rfl (oD (stp_len Tryz.underlying23 rfl) rfl (oE (stpU_call (fun i => 4 + i) cf78 (fun w hw => c_i_hash fl w a1 ((a0.b).length : Int) x3 e3) (yB rfl rfl)) rfl ?_))))))
 rintro _ _ ⟨_, ⟨rfl, rfl⟩, rfl⟩
 obtain ⟨x4, e4, H0⟩ := bS H0
 obtain ⟨x5, e5, H0⟩ := bS H0
 refine oS rfl (nn (cw_seq (rdq g_mixed [2, 3, 4, 5, 8] [0, 1, 2, 3] { dst := dS [15, 16, 17, 18, 19, 20, 21, 22, 23, 24, 25, 26, 0], pre := gA [] [[], [0], [], [], [], [], [5], [], [5, 6, 7], rn 5 4, rn 3 7, rn 0 11, rn 0 12], ids := fun i => match i with | 12 => [1] | _ => [], rs := rL [[(4, 0)], [(14, 1)], [(2, 0)], [(5, 0)], [(3, 0)], [(4, 0)], [(19, 6)], [(8, 0)], [(20, 7), (21, 8)], [(22, 9)], [(17, 4), (18, 5), (23, 10)], [(15, 2), (16, 3)], [(25, 12), (24, 11)]], rh := rL [[], [(2, 0)], [], [(3, 0)], [], [], [(2, 0)], [], [(0, 0)], [(0, 0)], [], [(1, 0)], [(1, 0)]], V := fun i g => gA undef [.pointer (some ⟨b1, 1, none⟩), .slice p0_1 ((a0.f).length) c0_1, .int .i64 a2, .agg #[.int .i64 a1.s, .int .i64 a1.p], .int .i64 a3, .pointer (some ⟨b1, 0, none⟩), .slice p0_0 ((a0.b).length) c0_0, .int .i64 x3, .pointer (some ⟨eB p0_0, eO p0_0 + Int.toNat x3 * Enc.sz Int + 0, none⟩), .int .i64 x4, .agg #[.bool true, .int .i64 a1.s, .int .i64 a1.p, .int .i64 a3, .int .i64 x4], .pointer (some ⟨eB p0_1, eO p0_1 + Int.toNat a2 * Enc.sz F + 0, none⟩)] i, U := fun i g => match i with | 12 => [(1, ((g 12).R 0))] | _ => [], Φ := fun i x => match i with | 12 => OwnC (α := F) 58 p0_1 c0_1 (a0.f.set (Int.toNat a2) (⟨true, a1, a3, x4⟩ : F)) (x.R 0) | _ => True } ?_ ?_)))
 ·refine ⟨lc rfl rfl fun hs hh => stp_fieldAddr (j := 1) Tryz.underlying26 rfl ts24 rfl (sv hs 4 rfl) rfl, lc rfl rfl fun hs hh => stp_load1 ts24 (sv hs 14 rfl) (Cells.box (id := 2) (hh.get 2 _ rfl) 1 rfl), lM, lc rfl rfl fun hs hh => stp_loadN (us := [_, _]) ts47 (sv hs 5 rfl) (Cells.box (id := 3) (hh.get 3 _ rfl) 2 rfl), lM, lc rfl rfl fun hs hh => stp_fieldAddr (j := 0) Tryz.underlying26 rfl ts23 rfl (sv hs 4 rfl) rfl, lc rfl rfl fun hs hh => stp_load1 ts23 (sv hs 19 rfl) (Cells.box (id := 2) (hh.get 2 _ rfl) 1 rfl), lM, lc rfl rfl fun hs hh => stp_indexAddr Tryz.underlying23 ts3 (by decide) (sv hs 20 rfl) rfl (sv hs 21 rfl) (Rdb.own (id := 0) (hh.get 0 _ rfl) ho0_0) e4, lc rfl rfl fun hs hh => stp_load1 ts3 (sv hs 22 rfl) (Cells.el (Rdb.own (id := 0) (hh.get 0 _ rfl) ho0_0) (by decide) e4 0 1 rfl), lc rfl rfl fun hs hh => stp_build (cs := #[.bool true, .int .i64 a1.s, .int .i64 a1.p, .int .i64 a3, .int .i64 x4]) (sevp_cons rfl (sevp_cons (sv hs 17 rfl) (sevp_cons (sv hs 18 rfl) (sevp_cons (sv hs 23 rfl) sevp_nil)))) bt58_17, lc rfl rfl fun hs hh => stp_indexAddr Tryz.underlying24 ts58 (by decide) (sv hs 15 rfl) rfl (sv hs 16 rfl) (Rdb.own (id := 1) (hh.get 1 _ rfl) ho0_1) e5, ?_, trivial⟩
  refine le rfl rfl (fun g hΦ s h hs hh => (stpU_storeEl (id := 1) (i := 0) (⟨true, a1, a3, x4⟩ : F) (by decide) ts58 (sv hs 25 rfl) (sv hs 24 rfl) (hh.get 1 _ rfl) ho0_1 e5 rfl rfl rfl rfl)) ?_
  rintro g _ _ ⟨C6, rfl, o6⟩
  exact ⟨⟨[], [], [C6]⟩, o6, .inl rfl, rfl⟩
 intro g hΦ
 refine kw_gen (ι := Res) ((g 12).R 0) (fun | C6 => OwnC (α := F) 58 p0_1 c0_1 (a0.f.set (Int.toNat a2) (⟨true, a1, a3, x4⟩ : F)) C6) (fun | C6 => [(2, .int .i64 a2), (4, .pointer (some ⟨b1, 0, none⟩)), (8, .int .i64 x3)]) (fun | C6 => [(0, C0_0), (1, C6), (2, [(b1, .cells #[.slice p0_0 ((a0.b).length) c0_0, .slice p0_1 ((a0.f).length) c0_1] 26 (0, 0))])]) (hΦ 12 (by decide)) ⟨rfl, rfl, rfl, trivial⟩ ⟨rfl, rfl, rfl, trivial⟩ ?_
 rintro C6 o6
 have o6 : OwnC (α := F) 58 p0_1 c0_1 (a0.f.set (Int.toNat a2) (⟨true, a1, a3, x4⟩ : F)) C6 := o6
 dsimp only
 refine kw_nx (cw_region (oA 0 Tryz.underlying26 rfl ts23 rfl (oL 2 ts23 rfl (oM rfl (oM rfl (oD (stp_indexAddr Tryz.underlying23 ts3 (by decide) rfl rfl rfl (Rdb.own (id := 0) rfl ho0_0) e4) rfl (oF (stpU_storeEl (id := 0) (i := 0) a2 (by decide) ts3 rfl rfl rfl ho0_0 e4 rfl rfl rfl rfl) ?_)))))))
 rintro _ _ ⟨C7, rfl, o7⟩
 refine ow_nil ?_
 obtain rfl := sI H0
 exact ke Tryz.results122 .nil [0, 1] ⟨_, _, rfl, rfl, (by simp), o7, (by simp), o6⟩

theorem c_i_MapPage (fl : Nat) (w : World) (a0 : T) (a1 : K) (a2 : Int) (a3 : Int) (hn0_0 : n0_0 = (a0.b).length) (hr0_0 : RO w (hkeys []) (RdL p0_0 c0_0 a0.b)) (hn0_1 : n0_1 = (a0.f).length) (hr0_1 : RO w (hkeys []) (RdL p0_1 c0_1 a0.f)) (hg : RO w (hkeys []) (fun w' => w'.rangeAt 0 0 [.bool false, .int .i64 0, .int .i64 0, .int .i64 0, .int .i64 (-1)])) (r : T × Bool) (H0 : i_MapPage fl a0 a1 a2 a3 = some r) :
  Ct Tryz.prog 67 [.agg #[.slice p0_0 n0_0 c0_0, .slice p0_1 n0_1 c0_1], .agg #[.int .i64 a1.s, .int .i64 a1.p], .int .i64 a2, .int .i64 a3] w [] (fun rv h' => ∃ (x0 : Option Addr) (y0 z0 : Nat) (C0 : Res) (x1 : Option Addr) (y1 z1 : Nat) (C1 : Res), rv = .tuple #[.agg #[.slice x0 y0 z0, .slice x1 y1 z1], .bool r.2] ∧ h' = [(0, C0), (1, C1)] ∧ y0 = (r.1.b).length ∧ OwnC 3 x0 z0 r.1.b C0 ∧ y1 = (r.1.f).length ∧ OwnC 58 x1 z1 r.1.f C1) := by
 subst hn0_0 hn0_1
 unfold i_MapPage at H0
 refine ct_of_cw Tryz.func67 rfl Tryz.ntmps67 rfl (Sat.refl _ _) ?_
 refine sr (oE (stpU_box 0 rfl rfl) rfl ?_)
 rintro _ _ ⟨b1, rfl, rfl⟩
 refine oE (stpU_box 1 rfl rfl) rfl ?_
 rintro _ _ ⟨b2, rfl, rfl⟩
 refine oE (stpU_alloc 2 tz26 rfl) rfl ?_
 rintro _ _ ⟨b3, rfl, rfl⟩
 obtain ⟨x4, e4, H0⟩ := bS H0
 refine oS rfl (nn (cw_seq (sr (oB2 0 ts26 rfl (oE (stpU_call (fun i => 3 + i) cf54 (fun w hw => c_i_TableValid fl w a0 rfl (RO.pass hr0_0 hw) rfl (RO.pass hr0_1 hw) (RO.pass hg hw) x4 e4) (yA rfl)) rfl ?_)))))
 rintro _ _ ⟨_, ⟨rfl, rfl⟩, rfl⟩
 obtain ⟨y5, ey5, H0⟩ := bS H0
 refine oK rfl (oM rfl (ow_cutY 4 18 y5 ?_ ?_))
 ·rcases Bool.eq_false_or_eq_true (!x4) with hy5 | hy5
  ·have ey5 := cond_t ey5 hy5
   refine oO rfl hy5 rfl (oO rfl hy5 rfl (oO rfl hy5 rfl (oD (stp_pick_t rfl hy5 rfl) rfl ?_)))
   obtain rfl := sI ey5
   exact ow_nil (jy 4 0)
  have ey5 := cond_f ey5 hy5
  obtain ⟨x6, e6, ey5⟩ := bS ey5
  refine oG rfl hy5 (stp_loadN (us := [_, _]) ts47 rfl (Cells.box (id := 1) rfl 2 rfl)) rfl (ow_eff (.some rfl hy5) (stpU_call (fun i => 3 + i) cf76 (fun w hw => c_i_KeyValid fl w a1 x6 e6) (yA rfl)) rfl ?_)
  rintro _ _ ⟨_, ⟨rfl, rfl⟩, rfl⟩
  refine oG rfl hy5 (stp_not rfl) rfl (oD (stp_pick_f rfl hy5 rfl) rfl ?_)
  obtain rfl := sI ey5
  exact ow_nil (jy 4 0)
 obtain ⟨y7, ey7, H0⟩ := bS H0
 refine oM rfl (ow_cutY 5 24 y7 ?_ ?_)
 ·rcases Bool.eq_false_or_eq_true y5 with hy7 | hy7
  ·have ey7 := cond_t ey7 hy7
   refine oO rfl hy7 rfl (oO rfl hy7 rfl (oO rfl hy7 rfl (oO rfl hy7 rfl (oD (stp_pick_t rfl hy7 rfl) rfl ?_))))
   obtain rfl := sI ey7
   exact ow_nil (jy 5 0)
  have ey7 := cond_f ey7 hy7
  obtain ⟨x8, e8, ey7⟩ := bS ey7
  refine oG rfl hy7 (stp_loadN (us := [_, _]) ts26 rfl (Cells.box (id := 0) rfl 2 rfl)) rfl (oG rfl hy7 (stp_loadN (us := [_, _]) ts47 rfl (Cells.box (id := 1) rfl 2 rfl)) rfl (ow_eff (.some rfl hy7) (stpU_call (fun i => 3 + i) cf59 (fun w hw => c_i_Table_find fl w a0 a1 rfl (RO.pass hr0_0 hw) rfl (RO.pass hr0_1 hw) x8 e8) (yB rfl rfl)) rfl ?_))
  rintro _ _ ⟨_, ⟨rfl, rfl⟩, rfl⟩
  refine oG rfl hy7 (stp_geq rfl rfl) rfl (oD (stp_pick_f rfl hy7 rfl) rfl ?_)
  obtain rfl := sI ey7
  exact ow_nil (jy 5 0)
 obtain ⟨y9, ey9, H0⟩ := bS H0
 refine oM rfl (ow_cutY 7 32 y9 ?_ ?_)
 ·rcases Bool.eq_false_or_eq_true y7 with hy9 | hy9
  ·have ey9 := cond_t ey9 hy9
   refine oO rfl hy9 rfl (oO rfl hy9 rfl (oO rfl hy9 rfl (oO rfl hy9 rfl (oO rfl hy9 rfl (oO rfl hy9 rfl (oD (stp_pick_t rfl hy9 rfl) rfl ?_))))))
   obtain rfl := sI ey9
   exact ow_nil (jy 7 0)
  have ey9 := cond_f ey9 hy9
  obtain ⟨x10, e10, ey9⟩ := bS ey9
  refine oG rfl hy9 (mv rfl) rfl (oG rfl hy9 (fA 1 Tryz.underlying26 rfl ts24 rfl rfl rfl) rfl (oG rfl hy9 (lB 0 ts24 rfl rfl rfl) rfl (oG rfl hy9 (stp_len Tryz.underlying24 rfl) rfl (ow_eff (.some rfl hy9) (stpU_call (fun i => 3 + i) cf79 (fun w hw => c_i_within fl w a2 ((a0.f).length : Int) x10 e10) (yB rfl rfl)) rfl ?_))))
  rintro _ _ ⟨_, ⟨rfl, rfl⟩, rfl⟩
  refine oG rfl hy9 (stp_not rfl) rfl (oD (stp_pick_f rfl hy9 rfl) rfl ?_)
  obtain rfl := sI ey9
  exact ow_nil (jy 7 0)
 obtain ⟨y11, ey11, H0⟩ := bS H0
 refine oM rfl (ow_cutY 7 40 y11 ?_ ?_)
 ·rcases Bool.eq_false_or_eq_true y9 with hy11 | hy11
  ·have ey11 := cond_t ey11 hy11
   refine oO rfl hy11 rfl (oO rfl hy11 rfl (oO rfl hy11 rfl (oO rfl hy11 rfl (oO rfl hy11 rfl (oO rfl hy11 rfl (oD (stp_pick_t rfl hy11 rfl) rfl ?_))))))
   obtain rfl := sI ey11
   exact ow_nil (jy 7 0)
  have ey11 := cond_f ey11 hy11
  obtain ⟨x12, e12, ey11⟩ := bS ey11
  refine oG rfl hy11 (fA 1 Tryz.underlying26 rfl ts24 rfl rfl rfl) rfl (oG rfl hy11 (lB 0 ts24 rfl rfl rfl) rfl (oG rfl hy11 (mv rfl) rfl (oG rfl hy11 (stp_indexAddr Tryz.underlying24 ts58 (by decide) rfl rfl rfl (Rdb.ro hr0_1) e12) rfl (oG rfl hy11 (fA 0 Tryz.underlying58 rfl ts4 rfl rfl rfl) rfl (oG rfl hy11 (stp_load1 ts4 rfl (Cells.el (Rdb.ro hr0_1) (by decide) e12 0 1 rfl)) rfl (oD (stp_pick_f rfl hy11 rfl) rfl ?_))))))
  obtain rfl := sI ey11
  exact ow_nil (jy 7 0)
 obtain ⟨y13, ey13, H0⟩ := bS H0
 refine oM rfl (ow_cutY 4 45 y13 ?_ ?_)
 ·rcases Bool.eq_false_or_eq_true y11 with hy13 | hy13
  ·have ey13 := cond_t ey13 hy13
   refine oO rfl hy13 rfl (oO rfl hy13 rfl (oO rfl hy13 rfl (oD (stp_pick_t rfl hy13 rfl) rfl ?_)))
   obtain rfl := sI ey13
   exact ow_nil (jy 4 0)
  have ey13 := cond_f ey13 hy13
  obtain ⟨x14, e14, ey13⟩ := bS ey13
  refine oG rfl hy13 (mv rfl) rfl (ow_eff (.some rfl hy13) (stpU_call (fun i => 3 + i) cf80 (fun w hw => c_i_RightsValid fl w a3 x14 e14) (yA rfl)) rfl ?_)
  rintro _ _ ⟨_, ⟨rfl, rfl⟩, rfl⟩
  refine oG rfl hy13 (stp_not rfl) rfl (oD (stp_pick_f rfl hy13 rfl) rfl ?_)
  obtain rfl := sI ey13
  exact ow_nil (jy 4 0)
 refine ow_nil (kw_nx (cw_cond rfl (fun h15 => ?_) (fun h15 => ?_)))
 ·have H0 := cond_t H0 h15
  refine sr (oD (stp_build (cs := #[.slice none 0 0, .slice none 0 0]) sevp_nil bt26_0) rfl (oC2 2 ts26 rfl rfl (oS rfl (nn (cw_ret (kw_nx_ret (kw_addNil 3 (kw_addNil 4 ?_))))))))
  obtain rfl := sI H0
  exact kr Tryz.results67 (.cons (.cellN (us := [_, _]) ts26 rfl (Cells.box (id := 2) rfl 2 rfl)) (rT rfl)) [3, 4] ⟨_, _, _, _, _, _, _, _, rfl, rfl, rfl, (OwnC.nil _ _), rfl, (OwnC.nil _ _)⟩
 have H0 := cond_f H0 h15
 obtain ⟨x16, e16, H0⟩ := bS H0
 refine cw_skip (kw_nx (sr (oB2 0 ts26 rfl (oE (stpU_call (fun i => 5 + i) cf98 (fun w hw => c_i_Table_clone fl w a0 rfl (RO.pass hr0_0 hw) rfl (RO.pass hr0_1 hw) x16 e16) (yA rfl)) rfl ?_))))
 rintro _ _ ⟨_, ⟨p17, _, c19, C20, p21, _, c23, C24, rfl, rfl, rfl, o20, rfl, o24⟩, rfl⟩
 refine oE (stpU_alloc 7 tz26 rfl) rfl ?_
 rintro _ _ ⟨b25, rfl, rfl⟩
 obtain ⟨x26, e26, H0⟩ := bS H0
 refine oC2 7 ts26 rfl rfl (nn (sr (oB2 7 ts26 rfl (oB2 1 ts47 rfl (oM rfl (oM rfl (oE (stpU_callM (fun i => bif Nat.beq i 0 then 5 else bif Nat.beq i 1 then 6 else 8 + i) cf122 (fun w hw hb => c_i_Table_link fl w x16 a1 a2 a3 rfl o20 rfl o24 (hw.pass (js := [5, 6]) ⟨5, [6], rfl, rfl, 6, [], rfl, rfl, trivial⟩ (by decide)) x26 e26) (yD rfl rfl rfl rfl) ⟨rfl, (fun _ _ hp => by obtain ⟨_, _, _, rfl, _⟩ := hp; exact ⟨_, rfl⟩), rfl, (fun _ _ hp => by obtain ⟨_, _, _, rfl, _⟩ := hp; exact ⟨_, rfl⟩), trivial⟩) rfl ?_)))))))
 rintro _ _ ⟨_, ⟨C27, C28, rfl, rfl, hl27, o27, hl28, o28⟩, rfl⟩
 refine nn (sr (oB2 7 ts26 rfl (oC2 2 ts26 rfl rfl (oS rfl (nn (cw_ret ?_))))))
 obtain rfl := sI H0
 exact kr Tryz.results67 (.cons (.cellN (us := [_, _]) ts26 rfl (Cells.box (id := 2) rfl 2 rfl)) (rT rfl)) [5, 6] ⟨_, _, _, _, _, _, _, _, rfl, rfl, (by simp [hl27]), o27, (by simp [hl28]), o28⟩

theorem c_i_PutPage (fl : Nat) (w : World) (a0 : Mc) (a1 : K) (a2 : Int) (a3 : Int) (hn0_0 : n0_0 = (a0.t.b).length) (hr0_0 : RO w (hkeys []) (RdL p0_0 c0_0 a0.t.b)) (hn0_1 : n0_1 = (a0.t.f).length) (hr0_1 : RO w (hkeys []) (RdL p0_1 c0_1 a0.t.f)) (hn0_2 : n0_2 = (a0.c.l).length) (hr0_2 : RO w (hkeys []) (RdL p0_2 c0_2 a0.c.l)) (hn0_3 : n0_3 = (a0.g.o).length) (hr0_3 : RO w (hkeys []) (RdL p0_3 c0_3 a0.g.o)) (hg : RO w (hkeys []) (fun w' => w'.rangeAt 0 0 [.bool false, .int .i64 0, .int .i64 0, .int .i64 0, .int .i64 (-1)])) (r : Mc × Bool) (H0 : i_PutPage fl a0 a1 a2 a3 = some r) :
  Ct Tryz.prog 23 [.agg #[.slice p0_0 n0_0 c0_0, .slice p0_1 n0_1 c0_1, .slice p0_2 n0_2 c0_2, .int .i64 a0.c.h, .int .i64 a0.g.c, .int .i64 a0.g.n, .int .i64 a0.g.r, .slice p0_3 n0_3 c0_3, .int .i64 a0.s], .agg #[.int .i64 a1.s, .int .i64 a1.p], .int .i64 a2, .int .i64 a3] w [] (fun rv h' => ∃ (x0 : Option Addr) (y0 z0 : Nat) (C0 : Res) (x1 : Option Addr) (y1 z1 : Nat) (C1 : Res) (x2 : Option Addr) (y2 z2 : Nat) (C2 : Res) (x3 : Option Addr) (y3 z3 : Nat) (C3 : Res), rv = .tuple #[.agg #[.slice x0 y0 z0, .slice x1 y1 z1, .slice x2 y2 z2, .int .i64 r.1.c.h, .int .i64 r.1.g.c, .int .i64 r.1.g.n, .int .i64 r.1.g.r, .slice x3 y3 z3, .int .i64 r.1.s], .bool r.2] ∧ h' = [(0, C0), (1, C1), (2, C2), (3, C3)] ∧ y0 = (r.1.t.b).length ∧ OwnC 3 x0 z0 r.1.t.b C0 ∧ y1 = (r.1.t.f).length ∧ OwnC 58 x1 z1 r.1.t.f C1 ∧ y2 = (r.1.c.l).length ∧ OwnC 41 x2 z2 r.1.c.l C2 ∧ y3 = (r.1.g.o).length ∧ OwnC 118 x3 z3 r.1.g.o C3) := by
 subst hn0_0 hn0_1 hn0_2 hn0_3
 unfold i_PutPage at H0
 refine ct_of_cw Tryz.func23 rfl Tryz.ntmps23 rfl (Sat.refl _ _) ?_
 refine sr (oE (stpU_box 0 rfl rfl) rfl ?_)
 rintro _ _ ⟨b1, rfl, rfl⟩
 refine oE (stpU_box 1 rfl rfl) rfl ?_
 rintro _ _ ⟨b2, rfl, rfl⟩
 refine oE (stpU_alloc 2 tz34 rfl) rfl ?_
 rintro _ _ ⟨b3, rfl, rfl⟩
 obtain ⟨x4, e4, H0⟩ := bS H0
 obtain ⟨y5, ey5, H0⟩ := bS H0
 refine oS rfl (nn (cw_seq (cw_seq (cw_join (ι := Unit) (fun | _ => True) (fun | _ => [(2, .int .i64 a2), (3, .int .i64 a3), (4, .pointer (some ⟨b1, 0, none⟩)), (5, .pointer (some ⟨b2, 0, none⟩)), (8, .pointer (some ⟨b3, 0, none⟩)), (24, .bool y5)]) (fun | _ => [(0, [(b1, .cells #[.slice p0_0 ((a0.t.b).length) c0_0, .slice p0_1 ((a0.t.f).length) c0_1, .slice p0_2 ((a0.c.l).length) c0_2, .int .i64 a0.c.h, .int .i64 a0.g.c, .int .i64 a0.g.n, .int .i64 a0.g.r, .slice p0_3 ((a0.g.o).length) c0_3, .int .i64 a0.s] 34 (0, 0))]), (1, [(b2, .cells #[.int .i64 a1.s, .int .i64 a1.p] 47 (0, 0))]), (2, [(b3, .cells #[.slice none 0 0, .slice none 0 0, .slice none 0 0, .int .i64 0, .int .i64 0, .int .i64 0, .int .i64 0, .slice none 0 0, .int .i64 0] 34 (0, 0))])]) ?_ ?_))))
 ·rcases Bool.eq_false_or_eq_true (!x4) with hy5 | hy5
  ·have ey5 := cond_t ey5 hy5
   have qy5 := sI ey5
   refine rdq g_mixed [4] [0] { dst := dS [14, 15, 16, 17, 18, 19, 20, 21, 22, 23, 24, 25], pre := gA [] [[], [0], [0, 1], [0, 1, 2], rn 0 4, rn 0 4, [0, 1, 2, 3, 5], rn 0 4, [0, 1, 2, 3, 7], [0, 1, 2, 3, 5, 6, 7, 8], rn 0 10, rn 0 11], ids := fun _ => [], rs := rL [[(4, 0)], [(13, 1)], [(14, 2)], [(15, 3)], [(16, 4)], [(16, 4)], [(16, 4)], [(16, 4)], [(16, 4)], [(16, 4)], [(16, 4)], [(16, 4), (23, 11)]], rh := rL [[(0, 0)]], V := fun i g => gA undef [.agg #[.slice p0_0 ((a0.t.b).length) c0_0, .slice p0_1 ((a0.t.f).length) c0_1, .slice p0_2 ((a0.c.l).length) c0_2, .int .i64 a0.c.h, .int .i64 a0.g.c, .int .i64 a0.g.n, .int .i64 a0.g.r, .slice p0_3 ((a0.g.o).length) c0_3, .int .i64 a0.s], .bool x4, .bool (!x4), .bool (!x4), undef, undef, undef, undef, undef, undef, undef, .bool y5] i, U := fun _ _ => [], Φ := fun _ _ => True } ?_ ?_
   ·refine ⟨lc rfl rfl fun hs hh => stp_loadN (us := [_, _, _, _, _, _, _, _, _]) ts34 (sv hs 4 rfl) (Cells.box (id := 0) (hh.get 0 _ rfl) 9 rfl), ?_, lc rfl rfl fun hs hh => stp_not (sv hs 14 rfl), lM, lo rfl rfl 16 hy5, lo rfl rfl 16 hy5, lo rfl rfl 16 hy5, lo rfl rfl 16 hy5, lo rfl rfl 16 hy5, lo rfl rfl 16 hy5, lo rfl rfl 16 hy5, lc rfl rfl fun hs hh => stp_pick_tB (sv hs 16 rfl) hy5 rfl qy5, trivial⟩
    refine le rfl rfl (fun g hΦ s h hs hh => (stpU_call (fun i => 3 + i) cf19 (fun w hw => c_i_MachineValid fl w a0 rfl (RO.pass hr0_0 hw) rfl (RO.pass hr0_1 hw) rfl (RO.pass hr0_2 hw) rfl (RO.pass hr0_3 hw) (RO.pass hg hw) x4 e4) (yA (sv hs 13 rfl)))) ?_
    rintro g _ _ ⟨_, ⟨rfl, rfl⟩, rfl⟩
    exact ⟨⟨[], [], []⟩, trivial, .inr rfl, rfl⟩
   intro g hΦ
   exact kw_join () trivial ⟨rfl, rfl, rfl, rfl, rfl, rfl, trivial⟩ ⟨rfl, rfl, rfl, trivial⟩
  have ey5 := cond_f ey5 hy5
  obtain ⟨x6, e6, ey5⟩ := bS ey5
  have qy5 := sI ey5
  refine rdq g_mixed [4, 5] [0, 1] { dst := dS [14, 15, 16, 17, 18, 19, 20, 21, 22, 23, 24, 25], pre := gA [] [[], [0], [0, 1], [0, 1, 2], rn 0 4, rn 0 4, [0, 1, 2, 3, 5], rn 0 4, [0, 1, 2, 3, 7], [0, 1, 2, 3, 5, 6, 7, 8], rn 0 10, rn 0 11], ids := fun _ => [], rs := rL [[(4, 0)], [(13, 1)], [(14, 2)], [(15, 3)], [(5, 0), (16, 4)], [(5, 0), (16, 4)], [(18, 6), (16, 4)], [(5, 0), (16, 4)], [(20, 8), (16, 4)], [(19, 7), (21, 9), (16, 4)], [(17, 5), (22, 10), (16, 4)], [(16, 4), (23, 11)]], rh := rL [[(0, 0)], [], [], [], [(1, 0)], [], [(1, 0)], [], [(1, 0)]], V := fun i g => gA undef [.agg #[.slice p0_0 ((a0.t.b).length) c0_0, .slice p0_1 ((a0.t.f).length) c0_1, .slice p0_2 ((a0.c.l).length) c0_2, .int .i64 a0.c.h, .int .i64 a0.g.c, .int .i64 a0.g.n, .int .i64 a0.g.r, .slice p0_3 ((a0.g.o).length) c0_3, .int .i64 a0.s], .bool x4, .bool (!x4), .bool (!x4), .agg #[.int .i64 a1.s, .int .i64 a1.p], .pointer (some ⟨b2, 0, none⟩), .int .i64 a1.s, .pointer (some ⟨b2, 1, none⟩), .int .i64 a1.p, .agg #[.int .i64 x6.s, .int .i64 x6.p], .bool (a1 != x6), .bool y5] i, U := fun _ _ => [], Φ := fun _ _ => True } ?_ ?_
  ·refine ⟨lc rfl rfl fun hs hh => stp_loadN (us := [_, _, _, _, _, _, _, _, _]) ts34 (sv hs 4 rfl) (Cells.box (id := 0) (hh.get 0 _ rfl) 9 rfl), ?_, lc rfl rfl fun hs hh => stp_not (sv hs 14 rfl), lM, lg rfl rfl 16 hy5 fun hs hh => stp_loadN (us := [_, _]) ts47 (sv hs 5 rfl) (Cells.box (id := 1) (hh.get 1 _ rfl) 2 rfl), lg rfl rfl 16 hy5 fun hs hh => stp_fieldAddr (j := 0) Tryz.underlying47 rfl ts3 rfl (sv hs 5 rfl) rfl, lg rfl rfl 16 hy5 fun hs hh => stp_load1 ts3 (sv hs 18 rfl) (Cells.box (id := 1) (hh.get 1 _ rfl) 1 rfl), lg rfl rfl 16 hy5 fun hs hh => stp_fieldAddr (j := 1) Tryz.underlying47 rfl ts3 rfl (sv hs 5 rfl) rfl, lg rfl rfl 16 hy5 fun hs hh => stp_load1 ts3 (sv hs 20 rfl) (Cells.box (id := 1) (hh.get 1 _ rfl) 1 rfl), ?_, lg rfl rfl 16 hy5 fun hs hh => stp_neqS te47 a1 x6 (sv hs 17 rfl) (sv hs 22 rfl), lc rfl rfl fun hs hh => stp_pick_fB (sv hs 16 rfl) hy5 (sv hs 23 rfl) qy5, trivial⟩
   ·refine le rfl rfl (fun g hΦ s h hs hh => (stpU_call (fun i => 3 + i) cf19 (fun w hw => c_i_MachineValid fl w a0 rfl (RO.pass hr0_0 hw) rfl (RO.pass hr0_1 hw) rfl (RO.pass hr0_2 hw) rfl (RO.pass hr0_3 hw) (RO.pass hg hw) x4 e4) (yA (sv hs 13 rfl)))) ?_
    rintro g _ _ ⟨_, ⟨rfl, rfl⟩, rfl⟩
    exact ⟨⟨[], [], []⟩, trivial, .inr rfl, rfl⟩
   refine loc_eff rfl rfl (fun g hΦ s h hs hh => ⟨(.some (gval_of rfl (sv hs 16 rfl)) hy5), (stpU_call (fun i => 3 + i) cf34 (fun w hw => c_i_KeyFor fl w a1.s a1.p x6 e6) (yB (sv hs 19 rfl) (sv hs 21 rfl)))⟩) ?_
   rintro g _ _ ⟨_, ⟨rfl, rfl⟩, rfl⟩
   exact ⟨⟨[], [], []⟩, trivial, .inr rfl, rfl⟩
  intro g hΦ
  exact kw_join () trivial ⟨rfl, rfl, rfl, rfl, rfl, rfl, trivial⟩ ⟨rfl, rfl, rfl, trivial⟩
 rintro _ -
 dsimp only
 refine kw_nx (cw_cond rfl (fun h7 => ?_) (fun h7 => ?_))
 ·have H0 := cond_t H0 h7
  refine sr (oD (stp_build (cs := #[.slice none 0 0, .slice none 0 0, .slice none 0 0, .int .i64 0, .int .i64 0, .int .i64 0, .int .i64 0, .slice none 0 0, .int .i64 0]) sevp_nil bt34_6) rfl (oC9 2 ts34 rfl rfl (oS rfl (nn (cw_ret (kw_nx_ret (kw_addNil 3 (kw_addNil 4 (kw_addNil 5 (kw_addNil 6 ?_))))))))))
  obtain rfl := sI H0
  exact kr Tryz.results23 (.cons (.cellN (us := [_, _, _, _, _, _, _, _, _]) ts34 rfl (Cells.box (id := 2) rfl 9 rfl)) (rT rfl)) [3, 4, 5, 6] ⟨_, _, _, _, _, _, _, _, _, _, _, _, _, _, _, _, rfl, rfl, rfl, (OwnC.nil _ _), rfl, (OwnC.nil _ _), rfl, (OwnC.nil _ _), rfl, (OwnC.nil _ _)⟩
 have H0 := cond_f H0 h7
 obtain ⟨x8, e8, H0⟩ := bS H0
 refine cw_skip (kw_nx (sr (oA 0 Tryz.underlying34 rfl ts26 rfl (oB2 0 ts26 rfl (oB2 1 ts47 rfl (oM rfl (oM rfl (oE (stpU_call (fun i => 7 + i) cf67 (fun w hw => c_i_MapPage fl w a0.t a1 a2 a3 rfl (RO.pass hr0_0 hw) rfl (RO.pass hr0_1 hw) (RO.pass hg hw) x8 e8) (yD rfl rfl rfl rfl)) rfl ?_))))))))
 rintro _ _ ⟨_, ⟨p9, _, c11, C12, p13, _, c15, C16, rfl, rfl, rfl, o12, rfl, o16⟩, rfl⟩
 refine oM rfl (oT rfl (oT rfl (oE (stpU_alloc 9 tz26 rfl) rfl ?_)))
 rintro _ _ ⟨b17, rfl, rfl⟩
 refine oC2 9 ts26 rfl rfl (oS rfl (nn (cw_seq (sr (oM rfl (oK rfl (nn (cw_cond rfl (fun h18 => ?_) (fun h18 => ?_)))))))))
 ·have H0 := cond_t H0 h18
  refine sr (oD (stp_build (cs := #[.slice none 0 0, .slice none 0 0, .slice none 0 0, .int .i64 0, .int .i64 0, .int .i64 0, .int .i64 0, .slice none 0 0, .int .i64 0]) sevp_nil bt34_6) rfl (oC9 2 ts34 rfl rfl (oS rfl (nn (cw_ret (kw_nx_ret (kw_addNil 10 (kw_addNil 11 (kw_addNil 12 (kw_addNil 13 ?_))))))))))
  obtain rfl := sI H0
  exact kr Tryz.results23 (.cons (.cellN (us := [_, _, _, _, _, _, _, _, _]) ts34 rfl (Cells.box (id := 2) rfl 9 rfl)) (rT rfl)) [10, 11, 12, 13] ⟨_, _, _, _, _, _, _, _, _, _, _, _, _, _, _, _, rfl, rfl, rfl, (OwnC.nil _ _), rfl, (OwnC.nil _ _), rfl, (OwnC.nil _ _), rfl, (OwnC.nil _ _)⟩
 have H0 := cond_f H0 h18
 obtain ⟨x19, e19, H0⟩ := bS H0
 refine cw_skip (kw_nx (sr (oB9 0 ts34 rfl (oE (stpU_call (fun i => 14 + i) cf49 (fun w hw => c_i_Machine_clone fl w a0 rfl (RO.pass hr0_0 hw) rfl (RO.pass hr0_1 hw) rfl (RO.pass hr0_2 hw) rfl (RO.pass hr0_3 hw) x19 e19) (yA rfl)) rfl ?_))))
 rintro _ _ ⟨_, ⟨p20, _, c22, C23, p24, _, c26, C27, p28, _, c30, C31, p32, _, c34, C35, rfl, rfl, rfl, o23, rfl, o27, rfl, o31, rfl, o35⟩, rfl⟩
 refine oE (stpU_alloc 18 tz34 rfl) rfl ?_
 rintro _ _ ⟨b36, rfl, rfl⟩
 refine oC9 18 ts34 rfl rfl (nn (sr (oB2 9 ts26 rfl (oA 0 Tryz.underlying34 rfl ts26 rfl (oC9 18 ts26 rfl rfl (nn (sr (oB9 18 ts34 rfl (oC9 2 ts34 rfl rfl (oS rfl (nn (cw_ret ?_))))))))))))
 obtain rfl := sI H0
 exact kr Tryz.results23 (.cons (.cellN (us := [_, _, _, _, _, _, _, _, _]) ts34 rfl (Cells.box (id := 2) rfl 9 rfl)) (rT rfl)) [7, 8, 16, 17] ⟨_, _, _, _, _, _, _, _, _, _, _, _, _, _, _, _, rfl, rfl, rfl, o12, rfl, o16, rfl, o31, rfl, o35⟩
end Go.Proofs.YtkohlcjdagckhaaGreatDoor
