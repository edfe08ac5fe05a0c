/- The walks: functions of the program return what their pure functions say. Printed by a program (gen.py). -/
import Derived.Test.YtfnliecmagnkdabDoorBp
import Derived.Test.YtfnliecmagnkdabDoorBt
import Derived.Test.YtfnliecmagnkdabDoorMan
import Derived.Test.YtfnliecmagnkdabDoorMap
import Derived.Test.YtfnliecmagnkdabDoorCpy
import Derived.Test.YtfnliecmagnkdabDoorClr
import Derived.Test.YtfnliecmagnkdabDoorDp
import Derived.Test.YtfnliecmagnkdabDoorSrt
import Derived.Test.YtfnliecmagnkdabDoorE8
import Derived.Test.YtfnliecmagnkdabDoorBwab
import Derived.Test.YtfnliecmagnkdabDoorBwai
import Derived.Test.YtfnliecmagnkdabDoorBwaj
import Derived.Test.YtfnliecmagnkdabDoorBwan
import Derived.Test.YtfnliecmagnkdabDoorBwap
import Derived.Test.YtfnliecmagnkdabDoorBwaq
import Derived.Test.YtfnliecmagnkdabDoorBws
set_option linter.unusedSimpArgs false
set_option linter.unusedVariables false
set_option linter.unusedSectionVars false
namespace Go.Proofs.YtfnliecmagnkdabDoor
open Go.RowKit
set_option maxHeartbeats 4000000
set_option maxRecDepth 20000
variable {p0_0 : Option Addr} {n0_0 : Nat} {c0_0 : Nat}
theorem c_s_DrawMapSystem (fl : Nat) (w : World) (a0 : (List UInt8)) (hn0_0 : n0_0 = (a0).length) (hr0_0 : RO w (hkeys []) (RdL p0_0 c0_0 a0)) (r : Sy × K × Int × Int) (H0 : s_DrawMapSystem fl a0 = some r) :
  Ct Tryd.prog 18 [.slice p0_0 n0_0 c0_0] w [] (fun rv h' => ∃ (x0 : Option Addr) (y0 z0 : Nat) (C0 : Res) (x1 : Option Addr) (y1 z1 : Nat) (C1 : Res) (x2 : Option Addr) (y2 z2 : Nat) (C2 : Res), rv = .tuple #[.agg #[.slice x0 y0 z0, .slice x1 y1 z1, .slice x2 y2 z2], .agg #[.int .i64 r.2.1.s, .int .i64 r.2.1.p], .int .i64 r.2.2.1, .int .i64 r.2.2.2] ∧ h' = [(0, C0), (1, C1), (2, C2)] ∧ y0 = (r.1.t.b).length ∧ OwnC 3 x0 z0 r.1.t.b C0 ∧ y1 = (r.1.t.f).length ∧ OwnC 71 x1 z1 r.1.t.f C1 ∧ y2 = (r.1.c).length ∧ OwnD 53 55 x2 z2 r.1.c C2) := by
 subst hn0_0
 unfold s_DrawMapSystem at H0
 refine ct_of_cw Tryd.func18 rfl Tryd.ntmps18 rfl (Sat.refl _ _) ?_
 refine sr (oE (stpU_alloc 0 tz37 rfl) rfl ?_)
 rintro _ _ ⟨b1, rfl, rfl⟩
 refine oE (stpU_alloc 1 tz41 rfl) rfl ?_
 rintro _ _ ⟨b2, rfl, rfl⟩
 obtain ⟨x3, e3, H0⟩ := bS H0
 refine oS rfl (oS rfl (nn (sr (oM rfl (oE (stpU_call (fun i => 2 + i) cf58 (fun w hw => c_s_l8At fl w a0 rfl (RO.pass hr0_0 hw) x3 e3) (yA rfl)) rfl ?_)))))
 rintro _ _ ⟨_, ⟨p4, _, c6, C7, p8, _, c10, C11, p12, _, c14, C15, rfl, rfl, rfl, o7, rfl, o11, rfl, o15⟩, rfl⟩
 refine oM rfl (oT rfl (oT rfl (oT rfl (oE (stpU_alloc 5 tz37 rfl) rfl ?_))))
 rintro _ _ ⟨b16, rfl, rfl⟩
 refine oE (stpU_alloc 6 tz41 rfl) rfl ?_
 rintro _ _ ⟨b17, rfl, rfl⟩
 refine oC3 5 ts37 rfl rfl (oS rfl (oC2 6 ts41 rfl rfl (nn (sr (oM rfl (oE (stpU_call (fun i => 7 + i) cf59 (fun w hw => c_open59 w a0 p0_0 ((a0).length) c0_0 rfl (RO.cap hr0_0).1) (yA rfl)) rfl ?_))))))
 rintro _ _ ⟨_, ⟨b18, rfl, rfl⟩, rfl⟩
 obtain ⟨x19, e19, H0⟩ := bS H0
 refine oS rfl (nn (cw_seq (sr (oM rfl (oE (stpU_callM (fun i => bif Nat.beq i 0 then 7 else 8 + i) cf60 (fun w hw hb => c_s_l12Rd_pick fl w b18 (a0.take 2000) 0 2 rfl (RO.passM (RO.takeN 2000 hr0_0) hw hb) (hw.pass (js := [7]) ⟨7, [], rfl, rfl, trivial⟩ (by decide)) x19 e19) (yB rfl rfl) ⟨rfl, (fun _ _ hp => by obtain ⟨_, rfl⟩ := hp; exact ⟨_, rfl⟩), trivial⟩) rfl ?_)))))
 rintro _ _ ⟨_, ⟨rfl, rfl⟩, rfl⟩
 refine oQ rfl (nn (cw_cond rfl (fun h20 => ?_) (fun h20 => ?_)))
 ·have H0 := cond_t H0 h20
  obtain ⟨x21, e21, H0⟩ := bS H0
  refine cw_region (oM rfl (oE (stpU_callM (fun i => bif Nat.beq i 0 then 7 else 9 + i) cf61 (fun w hw hb => c_s_l2Draw fl w b18 (a0.take 2000) x19.2 rfl (RO.passM (RO.takeN 2000 hr0_0) hw hb) (hw.pass (js := [7]) ⟨7, [], rfl, rfl, trivial⟩ (by decide)) x21 e21) (yA rfl) ⟨rfl, (fun _ _ hp => by obtain ⟨_, rfl⟩ := hp; exact ⟨_, rfl⟩), trivial⟩) rfl ?_))
  rintro _ _ ⟨_, ⟨rfl, rfl⟩, rfl⟩
  obtain ⟨x24, e24, H0⟩ := bS H0
  obtain ⟨x27, e27, H0⟩ := bS H0
  refine oC2 6 ts41 rfl rfl (nn (cw_seq (rdq g_mixed [2, 3, 6, 8, 9] [0, 1, 5, 6, 7] { dst := dS [24, 25, 26, 27, 28, 29, 30, 31, 0, 0, 5, 6], pre := gA [] [[], [], [], [], [2, 3], [], [], rn 2 5, [0, 2, 3, 4, 5, 6, 7], rn 0 9, rn 0 10, rn 0 11], ids := gA [] [[], [], [], [10], [7], [], [12], [7], [0], [1]], rs := rL [[(6, 0)], [(8, 0)], [(9, 0)], [], [(25, 3), (26, 4)], [(9, 0)], [], [(28, 6), (29, 7)], [(2, 0), (23, 1)], [(3, 0), (24, 2)], [(27, 5)], [(30, 8)]], rh := rL [[(5, 0)], [(6, 0)], [], [], [(7, 0), (10, 4)], [], [], [(7, 5), (12, 7)], [(0, 0)], [(1, 0)]], V := fun i g => gA undef [.agg #[.slice p4 ((x3.1.t.b).length) c6, .slice p8 ((x3.1.t.f).length) c10, .slice p12 ((x3.1.c).length) c14], .agg #[.int .i64 x21.1.s, .int .i64 x21.1.p], .pointer (some ⟨b18, 0, none⟩), .slice ((g 3).A 0) 7 7, .int .i64 x24.1, .pointer (some ⟨b18, 0, none⟩), .slice ((g 6).A 0) 3 3, .int .i64 x27.1, undef, undef, .int .i64 x24.1, .int .i64 x27.1] i, U := fun i g => gA [] [[], [], [], [(10, ((g 3).R 0))], [(7, [(b18, .cells #[.slice p0_0 (((a0.take 2000)).length) c0_0, .int .i64 x24.2] 136 (0, 0))])], [], [(12, ((g 6).R 0))], [(7, [(b18, .cells #[.slice p0_0 (((a0.take 2000)).length) c0_0, .int .i64 x27.2] 136 (0, 0))])], [(0, [(b1, .cells #[.slice p4 ((x3.1.t.b).length) c6, .slice p8 ((x3.1.t.f).length) c10, .slice p12 ((x3.1.c).length) c14] 37 (0, 0))])], [(1, [(b2, .cells #[.int .i64 x21.1.s, .int .i64 x21.1.p] 41 (0, 0))])]] i, Φ := fun i x => match i with | 3 => OwnC (α := Int) 3 (x.A 0) 7 ([0, 1, 2, 3, 4, 5, 16]) (x.R 0) | 6 => OwnC (α := Int) 3 (x.A 0) 3 ([3, 1, 8]) (x.R 0) | _ => True } ?_ ?_)))
  ·refine ⟨lc rfl rfl fun hs hh => stp_loadN (us := [_, _, _]) ts37 (sv hs 6 rfl) (Cells.box (id := 5) (hh.get 5 _ rfl) 3 rfl), lc rfl rfl fun hs hh => stp_loadN (us := [_, _]) ts41 (sv hs 8 rfl) (Cells.box (id := 6) (hh.get 6 _ rfl) 2 rfl), lM, ?_, ?_, lM, ?_, ?_, ?_, ?_, lS, lS, trivial⟩
   ·refine le rfl rfl (fun g hΦ s h hs hh => (stpU_lit (sz := 1) (l := [0, 1, 2, 3, 4, 5, 16]) [.int .i64 0, .int .i64 1, .int .i64 2, .int .i64 3, .int .i64 4, .int .i64 5, .int .i64 16] sl22 10 (sevp_cons rfl (sevp_cons rfl (sevp_cons rfl (sevp_cons rfl (sevp_cons rfl (sevp_cons rfl (sevp_cons rfl sevp_nil))))))) rfl rfl rfl rfl rfl rfl rfl rfl rfl)) ?_
    rintro g _ _ ⟨p22, C23, rfl, rfl, o23⟩
    exact ⟨⟨[p22], [], [C23]⟩, o23, .inr rfl, rfl⟩
   ·refine le rfl rfl (fun g hΦ s h hs hh => (stpU_callM (fun i => bif Nat.beq i 0 then 7 else 11 + i) cf62 (fun w hw hb => c_s_l12Rd_num fl w b18 (a0.take 2000) x21.2 ([0, 1, 2, 3, 4, 5, 16]) rfl (RO.passM (RO.takeN 2000 hr0_0) hw hb) (by simp) (OwnC.passM (id := 10) (hh.get 10 _ rfl) (hΦ 3 rfl) hw hb ⟨rfl, trivial⟩) (hw.pass (js := [7]) ⟨7, [], rfl, (hh.get 7 _ rfl), trivial⟩ (by decide)) x24 e24) (yB (sv hs 25 rfl) (sv hs 26 rfl)) ⟨(hh.get 7 _ rfl), (fun _ _ hp => by obtain ⟨_, rfl⟩ := hp; exact ⟨_, rfl⟩), trivial⟩)) ?_
    rintro g _ _ ⟨_, ⟨rfl, rfl⟩, rfl⟩
    exact ⟨⟨[], [], []⟩, trivial, .inr rfl, rfl⟩
   ·refine le rfl rfl (fun g hΦ s h hs hh => (stpU_lit (sz := 1) (l := [3, 1, 8]) [.int .i64 3, .int .i64 1, .int .i64 8] sl22 12 (sevp_cons rfl (sevp_cons rfl (sevp_cons rfl sevp_nil))) rfl rfl rfl rfl rfl rfl rfl rfl rfl)) ?_
    rintro g _ _ ⟨p25, C26, rfl, rfl, o26⟩
    exact ⟨⟨[p25], [], [C26]⟩, o26, .inr rfl, rfl⟩
   ·refine le rfl rfl (fun g hΦ s h hs hh => (stpU_callM (fun i => bif Nat.beq i 0 then 7 else 13 + i) cf62 (fun w hw hb => c_s_l12Rd_num fl w b18 (a0.take 2000) x24.2 ([3, 1, 8]) rfl (RO.passM (RO.takeN 2000 hr0_0) hw hb) (by simp) (OwnC.passM (id := 12) (hh.get 12 _ rfl) (hΦ 6 rfl) hw hb ⟨rfl, trivial⟩) (hw.pass (js := [7]) ⟨7, [], rfl, (hh.get 7 _ rfl), trivial⟩ (by decide)) x27 e27) (yB (sv hs 28 rfl) (sv hs 29 rfl)) ⟨(hh.get 7 _ rfl), (fun _ _ hp => by obtain ⟨_, rfl⟩ := hp; exact ⟨_, rfl⟩), trivial⟩)) ?_
    rintro g _ _ ⟨_, ⟨rfl, rfl⟩, rfl⟩
    exact ⟨⟨[], [], []⟩, trivial, .inr rfl, rfl⟩
   ·refine le rfl rfl (fun g hΦ s h hs hh => (stpU_store (id := 0) (cs' := [.slice p4 ((x3.1.t.b).length) c6, .slice p8 ((x3.1.t.f).length) c10, .slice p12 ((x3.1.c).length) c14]) ts37 (sv hs 2 rfl) (sv hs 23 rfl) (hh.get 0 _ rfl) rfl rfl rfl rfl)) ?_
    rintro g _ _ rfl
    exact ⟨⟨[], [], []⟩, trivial, .inl rfl, rfl⟩
   refine le rfl rfl (fun g hΦ s h hs hh => (stpU_store (id := 1) (cs' := [.int .i64 x21.1.s, .int .i64 x21.1.p]) ts41 (sv hs 3 rfl) (sv hs 24 rfl) (hh.get 1 _ rfl) rfl rfl rfl rfl)) ?_
   rintro g _ _ rfl
   exact ⟨⟨[], [], []⟩, trivial, .inl rfl, rfl⟩
  intro g hΦ
  refine kw_gen (ι := Option Addr × Res × Option Addr × Res) (((g 3).A 0), ((g 3).R 0), ((g 6).A 0), ((g 6).R 0)) (fun | (p22, C23, p25, C26) => OwnC (α := Int) 3 p22 7 ([0, 1, 2, 3, 4, 5, 16]) C23 ∧ OwnC (α := Int) 3 p25 3 ([3, 1, 8]) C26) (fun | (p22, C23, p25, C26) => [(2, .pointer (some ⟨b1, 0, none⟩)), (3, .pointer (some ⟨b2, 0, none⟩)), (4, .int .i64 x24.1), (5, .int .i64 x27.1)]) (fun | (p22, C23, p25, C26) => [(0, [(b1, .cells #[.slice p4 ((x3.1.t.b).length) c6, .slice p8 ((x3.1.t.f).length) c10, .slice p12 ((x3.1.c).length) c14] 37 (0, 0))]), (1, [(b2, .cells #[.int .i64 x21.1.s, .int .i64 x21.1.p] 41 (0, 0))]), (2, C7), (3, C11), (4, C15)]) ⟨(hΦ 3 (by decide)), (hΦ 6 (by decide))⟩ ⟨rfl, rfl, rfl, rfl, trivial⟩ ⟨rfl, rfl, rfl, rfl, rfl, trivial⟩ ?_
  rintro ⟨p22, C23, p25, C26⟩ ⟨o23, o26⟩
  dsimp only
  refine kw_nx (cw_ret ?_)
  obtain rfl := sI H0
  exact kr Tryd.results18 (.cons (.cellN (us := [_, _, _]) ts37 rfl (Cells.box (id := 0) rfl 3 rfl)) (.cons (.cellN (us := [_, _]) ts41 rfl (Cells.box (id := 1) rfl 2 rfl)) (.cons (.tmp rfl) (rT rfl)))) [2, 3, 4] ⟨_, _, _, _, _, _, _, _, _, _, _, _, rfl, rfl, rfl, o7, rfl, o11, rfl, o15⟩
 have H0 := cond_f H0 h20
 obtain ⟨x30, e30, H0⟩ := bS H0
 obtain ⟨x33, e33, H0⟩ := bS H0
 refine cw_skip (kw_nx (cw_seq (rdq g_mixed [2, 3, 6, 8, 9] [0, 1, 5, 6, 7] { dst := dS [24, 25, 26, 27, 28, 29, 30, 31, 0, 0, 5, 6], pre := gA [] [[], [], [], [], [2, 3], [], [], rn 2 5, [0, 2, 3, 4, 5, 6, 7], rn 0 9, rn 0 10, rn 0 11], ids := gA [] [[], [], [], [14], [7], [], [16], [7], [0], [1]], rs := rL [[(6, 0)], [(8, 0)], [(9, 0)], [], [(25, 3), (26, 4)], [(9, 0)], [], [(28, 6), (29, 7)], [(2, 0), (23, 1)], [(3, 0), (24, 2)], [(27, 5)], [(30, 8)]], rh := rL [[(5, 0)], [(6, 0)], [], [], [(7, 0), (14, 4)], [], [], [(7, 5), (16, 7)], [(0, 0)], [(1, 0)]], V := fun i g => gA undef [.agg #[.slice p4 ((x3.1.t.b).length) c6, .slice p8 ((x3.1.t.f).length) c10, .slice p12 ((x3.1.c).length) c14], .agg #[.int .i64 x3.2.2.s, .int .i64 x3.2.2.p], .pointer (some ⟨b18, 0, none⟩), .slice ((g 3).A 0) 7 7, .int .i64 x30.1, .pointer (some ⟨b18, 0, none⟩), .slice ((g 6).A 0) 3 3, .int .i64 x33.1, undef, undef, .int .i64 x30.1, .int .i64 x33.1] i, U := fun i g => gA [] [[], [], [], [(14, ((g 3).R 0))], [(7, [(b18, .cells #[.slice p0_0 (((a0.take 2000)).length) c0_0, .int .i64 x30.2] 136 (0, 0))])], [], [(16, ((g 6).R 0))], [(7, [(b18, .cells #[.slice p0_0 (((a0.take 2000)).length) c0_0, .int .i64 x33.2] 136 (0, 0))])], [(0, [(b1, .cells #[.slice p4 ((x3.1.t.b).length) c6, .slice p8 ((x3.1.t.f).length) c10, .slice p12 ((x3.1.c).length) c14] 37 (0, 0))])], [(1, [(b2, .cells #[.int .i64 x3.2.2.s, .int .i64 x3.2.2.p] 41 (0, 0))])]] i, Φ := fun i x => match i with | 3 => OwnC (α := Int) 3 (x.A 0) 7 ([0, 1, 2, 3, 4, 5, 16]) (x.R 0) | 6 => OwnC (α := Int) 3 (x.A 0) 3 ([3, 1, 8]) (x.R 0) | _ => True } ?_ ?_)))
 ·refine ⟨lc rfl rfl fun hs hh => stp_loadN (us := [_, _, _]) ts37 (sv hs 6 rfl) (Cells.box (id := 5) (hh.get 5 _ rfl) 3 rfl), lc rfl rfl fun hs hh => stp_loadN (us := [_, _]) ts41 (sv hs 8 rfl) (Cells.box (id := 6) (hh.get 6 _ rfl) 2 rfl), lM, ?_, ?_, lM, ?_, ?_, ?_, ?_, lS, lS, trivial⟩
  ·refine le rfl rfl (fun g hΦ s h hs hh => (stpU_lit (sz := 1) (l := [0, 1, 2, 3, 4, 5, 16]) [.int .i64 0, .int .i64 1, .int .i64 2, .int .i64 3, .int .i64 4, .int .i64 5, .int .i64 16] sl22 14 (sevp_cons rfl (sevp_cons rfl (sevp_cons rfl (sevp_cons rfl (sevp_cons rfl (sevp_cons rfl (sevp_cons rfl sevp_nil))))))) rfl rfl rfl rfl rfl rfl rfl rfl rfl)) ?_
   rintro g _ _ ⟨p28, C29, rfl, rfl, o29⟩
   exact ⟨⟨[p28], [], [C29]⟩, o29, .inr rfl, rfl⟩
  ·refine le rfl rfl (fun g hΦ s h hs hh => (stpU_callM (fun i => bif Nat.beq i 0 then 7 else 15 + i) cf62 (fun w hw hb => c_s_l12Rd_num fl w b18 (a0.take 2000) x19.2 ([0, 1, 2, 3, 4, 5, 16]) rfl (RO.passM (RO.takeN 2000 hr0_0) hw hb) (by simp) (OwnC.passM (id := 14) (hh.get 14 _ rfl) (hΦ 3 rfl) hw hb ⟨rfl, trivial⟩) (hw.pass (js := [7]) ⟨7, [], rfl, (hh.get 7 _ rfl), trivial⟩ (by decide)) x30 e30) (yB (sv hs 25 rfl) (sv hs 26 rfl)) ⟨(hh.get 7 _ rfl), (fun _ _ hp => by obtain ⟨_, rfl⟩ := hp; exact ⟨_, rfl⟩), trivial⟩)) ?_
   rintro g _ _ ⟨_, ⟨rfl, rfl⟩, rfl⟩
   exact ⟨⟨[], [], []⟩, trivial, .inr rfl, rfl⟩
  ·refine le rfl rfl (fun g hΦ s h hs hh => (stpU_lit (sz := 1) (l := [3, 1, 8]) [.int .i64 3, .int .i64 1, .int .i64 8] sl22 16 (sevp_cons rfl (sevp_cons rfl (sevp_cons rfl sevp_nil))) rfl rfl rfl rfl rfl rfl rfl rfl rfl)) ?_
   rintro g _ _ ⟨p31, C32, rfl, rfl, o32⟩
   exact ⟨⟨[p31], [], [C32]⟩, o32, .inr rfl, rfl⟩
  ·refine le rfl rfl (fun g hΦ s h hs hh => (stpU_callM (fun i => bif Nat.beq i 0 then 7 else 17 + i) cf62 (fun w hw hb => c_s_l12Rd_num fl w b18 (a0.take 2000) x30.2 ([3, 1, 8]) rfl (RO.passM (RO.takeN 2000 hr0_0) hw hb) (by simp) (OwnC.passM (id := 16) (hh.get 16 _ rfl) (hΦ 6 rfl) hw hb ⟨rfl, trivial⟩) (hw.pass (js := [7]) ⟨7, [], rfl, (hh.get 7 _ rfl), trivial⟩ (by decide)) x33 e33) (yB (sv hs 28 rfl) (sv hs 29 rfl)) ⟨(hh.get 7 _ rfl), (fun _ _ hp => by obtain ⟨_, rfl⟩ := hp; exact ⟨_, rfl⟩), trivial⟩)) ?_
   rintro g _ _ ⟨_, ⟨rfl, rfl⟩, rfl⟩
   exact ⟨⟨[], [], []⟩, trivial, .inr rfl, rfl⟩
  ·refine le rfl rfl (fun g hΦ s h hs hh => (stpU_store (id := 0) (cs' := [.slice p4 ((x3.1.t.b).length) c6, .slice p8 ((x3.1.t.f).length) c10, .slice p12 ((x3.1.c).length) c14]) ts37 (sv hs 2 rfl) (sv hs 23 rfl) (hh.get 0 _ rfl) rfl rfl rfl rfl)) ?_
   rintro g _ _ rfl
   exact ⟨⟨[], [], []⟩, trivial, .inl rfl, rfl⟩
  refine le rfl rfl (fun g hΦ s h hs hh => (stpU_store (id := 1) (cs' := [.int .i64 x3.2.2.s, .int .i64 x3.2.2.p]) ts41 (sv hs 3 rfl) (sv hs 24 rfl) (hh.get 1 _ rfl) rfl rfl rfl rfl)) ?_
  rintro g _ _ rfl
  exact ⟨⟨[], [], []⟩, trivial, .inl rfl, rfl⟩
 intro g hΦ
 refine kw_gen (ι := Option Addr × Res × Option Addr × Res) (((g 3).A 0), ((g 3).R 0), ((g 6).A 0), ((g 6).R 0)) (fun | (p28, C29, p31, C32) => OwnC (α := Int) 3 p28 7 ([0, 1, 2, 3, 4, 5, 16]) C29 ∧ OwnC (α := Int) 3 p31 3 ([3, 1, 8]) C32) (fun | (p28, C29, p31, C32) => [(2, .pointer (some ⟨b1, 0, none⟩)), (3, .pointer (some ⟨b2, 0, none⟩)), (4, .int .i64 x30.1), (5, .int .i64 x33.1)]) (fun | (p28, C29, p31, C32) => [(0, [(b1, .cells #[.slice p4 ((x3.1.t.b).length) c6, .slice p8 ((x3.1.t.f).length) c10, .slice p12 ((x3.1.c).length) c14] 37 (0, 0))]), (1, [(b2, .cells #[.int .i64 x3.2.2.s, .int .i64 x3.2.2.p] 41 (0, 0))]), (2, C7), (3, C11), (4, C15)]) ⟨(hΦ 3 (by decide)), (hΦ 6 (by decide))⟩ ⟨rfl, rfl, rfl, rfl, trivial⟩ ⟨rfl, rfl, rfl, rfl, rfl, trivial⟩ ?_
 rintro ⟨p28, C29, p31, C32⟩ ⟨o29, o32⟩
 dsimp only
 refine kw_nx (cw_ret ?_)
 obtain rfl := sI H0
 exact kr Tryd.results18 (.cons (.cellN (us := [_, _, _]) ts37 rfl (Cells.box (id := 0) rfl 3 rfl)) (.cons (.cellN (us := [_, _]) ts41 rfl (Cells.box (id := 1) rfl 2 rfl)) (.cons (.tmp rfl) (rT rfl)))) [2, 3, 4] ⟨_, _, _, _, _, _, _, _, _, _, _, _, rfl, rfl, rfl, o7, rfl, o11, rfl, o15⟩

theorem c_l_FnMapSystem (fl : Nat) (w : World) (a0 : (List UInt8)) (hn0_0 : n0_0 = (a0).length) (hr0_0 : RO w (hkeys []) (RdL p0_0 c0_0 a0)) (hg : RO w (hkeys []) (fun w' => w'.rangeAt 0 0 [.bool false, .int .i64 0, .int .i64 0, .int .i64 0, .int .i64 (-1)])) (r : Bool) (H0 : l_FnMapSystem fl a0 = some r) :
  Ct Tryd.prog 4 [.slice p0_0 n0_0 c0_0] w [] (fun rv h' => rv = .bool r ∧ h' = []) := by
 subst hn0_0
 unfold l_FnMapSystem at H0
 refine ct_of_cw Tryd.func4 rfl Tryd.ntmps4 rfl (Sat.refl _ _) ?_
 refine sr (oS rfl (nn (cw_seq (sr (oM rfl (oD (stp_len Tryd.underlying46 rfl) rfl (oJ rfl (nn (cw_cond rfl (fun h1 => ?_) (fun h1 => ?_))))))))))
 ·have H0 := cond_t H0 h1
  refine sr (oS rfl (nn (cw_ret (kw_nx_ret ?_))))
  obtain rfl := sI H0
  exact kr Tryd.results4 (rT rfl) [] ⟨rfl, rfl⟩
 have H0 := cond_f H0 h1
 obtain ⟨x2, e2, H0⟩ := bS H0
 refine cw_skip (kw_nx (sr (oM rfl (oE (stpU_call (fun i => 0 + i) cf18 (fun w hw => c_s_DrawMapSystem fl w a0 rfl (RO.pass hr0_0 hw) x2 e2) (yA rfl)) rfl ?_))))
 rintro _ _ ⟨_, ⟨p3, _, c5, C6, p7, _, c9, C10, p11, _, c13, C14, rfl, rfl, rfl, o6, rfl, o10, rfl, o14⟩, rfl⟩
 refine oM rfl (oT rfl (oT rfl (oT rfl (oT rfl (oE (stpU_alloc 3 tz37 rfl) rfl ?_)))))
 rintro _ _ ⟨b15, rfl, rfl⟩
 refine oE (stpU_alloc 4 tz41 rfl) rfl ?_
 rintro _ _ ⟨b16, rfl, rfl⟩
 obtain ⟨x17, e17, H0⟩ := bS H0
 refine oC3 3 ts37 rfl rfl (oC2 4 ts41 rfl rfl (oS rfl (oS rfl (nn (sr (oB3 3 ts37 rfl (oB2 4 ts41 rfl (oM rfl (oM rfl (oE (stpU_call (fun i => 5 + i) cf19 (fun w hw => c_i_MapSystem fl w x2.1 x2.2.1 x2.2.2.1 x2.2.2.2 rfl (OwnC.pass (id := 0) rfl o6 hw) rfl (OwnC.pass (id := 1) rfl o10 hw) rfl (OwnD.pass (id := 2) rfl o14 hw) (RO.pass hg hw) x17 e17) (yD rfl rfl rfl rfl)) rfl ?_))))))))))
 rintro _ _ ⟨_, ⟨p18, _, c20, C21, p22, _, c24, C25, p26, _, c28, C29, rfl, rfl, rfl, o21, rfl, o25, rfl, o29⟩, rfl⟩
 refine oM rfl (oT rfl (oT rfl (oE (stpU_alloc 8 tz37 rfl) rfl ?_)))
 rintro _ _ ⟨b30, rfl, rfl⟩
 obtain ⟨x31, e31, H0⟩ := bS H0
 refine oC3 8 ts37 rfl rfl (oS rfl (nn (sr (oB3 3 ts37 rfl (oB2 4 ts41 rfl (oM rfl (oM rfl (oE (stpU_call (fun i => 9 + i) cf20 (fun w hw => c_s_MapSystem fl w x2.1 x2.2.1 x2.2.2.1 x2.2.2.2 rfl (OwnC.pass (id := 0) rfl o6 hw) rfl (OwnC.pass (id := 1) rfl o10 hw) rfl (OwnD.pass (id := 2) rfl o14 hw) x31 e31) (yD rfl rfl rfl rfl)) rfl ?_))))))))
 rintro _ _ ⟨_, ⟨p32, _, c34, C35, p36, _, c38, C39, p40, _, c42, C43, rfl, rfl, rfl, o35, rfl, o39, rfl, o43⟩, rfl⟩
 refine oM rfl (oT rfl (oT rfl (oE (stpU_alloc 12 tz37 rfl) rfl ?_)))
 rintro _ _ ⟨b44, rfl, rfl⟩
 obtain ⟨x45, e45, H0⟩ := bS H0
 refine oC3 12 ts37 rfl rfl (oS rfl (nn (cw_seq (sr (oB3 8 ts37 rfl (oB3 12 ts37 rfl (oE (stpU_call (fun i => 13 + i) cf21 (fun w hw => c_i_SystemSame fl w x17.1 x31.1 rfl (OwnC.pass (id := 5) rfl o21 hw) rfl (OwnC.pass (id := 6) rfl o25 hw) rfl (OwnD.pass (id := 7) rfl o29 hw) rfl (OwnC.pass (id := 9) rfl o35 hw) rfl (OwnC.pass (id := 10) rfl o39 hw) rfl (OwnD.pass (id := 11) rfl o43 hw) x45 e45) (yB rfl rfl)) rfl ?_)))))))
 rintro _ _ ⟨_, ⟨rfl, rfl⟩, rfl⟩
 obtain ⟨y46, ey46, H0⟩ := bS H0
 refine oK rfl (oM rfl (ow_cutY 4 50 y46 ?_ ?_))
 ·rcases Bool.eq_false_or_eq_true (!x45) with hy46 | hy46
  ·have ey46 := cond_t ey46 hy46
   refine oO rfl hy46 rfl (oO rfl hy46 rfl (oO rfl hy46 rfl (oD (stp_pick_t rfl hy46 rfl) rfl ?_)))
   obtain rfl := sI ey46
   exact ow_nil (jy 4 0)
  have ey46 := cond_f ey46 hy46
  refine oG rfl hy46 (mv rfl) rfl (oG rfl hy46 (mv rfl) rfl (oG rfl hy46 (stp_neqB Tryd.underlying4 rfl rfl) rfl (oD (stp_pick_f rfl hy46 rfl) rfl ?_)))
  obtain rfl := sI ey46
  exact ow_nil (jy 4 0)
 obtain ⟨y47, ey47, H0⟩ := bS H0
 refine oM rfl (ow_cutY 3 54 y47 ?_ ?_)
 ·rcases Bool.eq_false_or_eq_true y46 with hy47 | hy47
  ·have ey47 := cond_t ey47 hy47
   refine oO rfl hy47 rfl (oO rfl hy47 rfl (oD (stp_pick_t rfl hy47 rfl) rfl ?_))
   obtain rfl := sI ey47
   exact ow_nil (jy 3 0)
  have ey47 := cond_f ey47 hy47
  refine oG rfl hy47 (mv rfl) rfl (oG rfl hy47 (stp_not rfl) rfl (oD (stp_pick_f rfl hy47 rfl) rfl ?_))
  obtain rfl := sI ey47
  exact ow_nil (jy 3 0)
 refine ow_nil (kw_nx (cw_cond rfl (fun h48 => ?_) (fun h48 => ?_)))
 ·have H0 := cond_t H0 h48
  refine sr (oB3 8 ts37 rfl (oB3 12 ts37 rfl (oE (stpU_call (fun i => 13 + i) cf21 (fun w hw => c_i_SystemSame fl w x17.1 x31.1 rfl (OwnC.pass (id := 5) rfl o21 hw) rfl (OwnC.pass (id := 6) rfl o25 hw) rfl (OwnD.pass (id := 7) rfl o29 hw) rfl (OwnC.pass (id := 9) rfl o35 hw) rfl (OwnC.pass (id := 10) rfl o39 hw) rfl (OwnD.pass (id := 11) rfl o43 hw) x45 e45) (yB rfl rfl)) rfl ?_)))
  rintro _ _ ⟨_, ⟨rfl, rfl⟩, rfl⟩
  obtain ⟨y49, ey49, H0⟩ := bS H0
  refine oM rfl (ow_cutY 4 62 y49 ?_ ?_)
  ·rcases Bool.eq_false_or_eq_true x45 with hy49 | hy49
   ·have ey49 := cond_t ey49 hy49
    refine oG rfl hy49 (mv rfl) rfl (oG rfl hy49 (mv rfl) rfl (oG rfl hy49 (stp_eqlB Tryd.underlying4 rfl rfl) rfl (oD (stp_pick_t rfl hy49 rfl) rfl ?_)))
    obtain rfl := sI ey49
    exact ow_nil (jy 4 0)
   have ey49 := cond_f ey49 hy49
   refine oO rfl hy49 rfl (oO rfl hy49 rfl (oO rfl hy49 rfl (oD (stp_pick_f rfl hy49 rfl) rfl ?_)))
   obtain rfl := sI ey49
   exact ow_nil (jy 4 0)
  refine oS rfl (nn (cw_ret (kw_nx_ret ?_)))
  obtain rfl := sI H0
  exact kr Tryd.results4 (rT rfl) [] ⟨rfl, rfl⟩
 have H0 := cond_f H0 h48
 obtain ⟨o0_0, eo0_0, H0⟩ := bS H0
 refine cw_skip (kw_nx (cw_seq (sr (oS rfl (nn (cw_join (ι := Int) (fun | v50 => o0_0 = .out v50) (fun | v50 => [(3, .pointer (some ⟨b15, 0, none⟩)), (4, .pointer (some ⟨b16, 0, none⟩)), (5, .int .i64 x2.2.2.1), (7, .pointer (some ⟨b30, 0, none⟩)), (11, .int .i64 v50)]) (fun | v50 => [(0, C6), (1, C10), (2, C14), (3, [(b15, .cells #[.slice p3 ((x2.1.t.b).length) c5, .slice p7 ((x2.1.t.f).length) c9, .slice p11 ((x2.1.c).length) c13] 37 (0, 0))]), (4, [(b16, .cells #[.int .i64 x2.2.1.s, .int .i64 x2.2.1.p] 41 (0, 0))]), (5, C21), (6, C25), (7, C29), (8, [(b30, .cells #[.slice p18 ((x17.1.t.b).length) c20, .slice p22 ((x17.1.t.f).length) c24, .slice p26 ((x17.1.c).length) c28] 37 (0, 0))])]) ?_ ?_))))))
 ·refine cw_block (cw_loopS (ι := Nat × Int) (js := [0, 1, 2, 3, 4, 5, 6, 7, 8]) (fun x => x.1) (fun | (fuel, v50) => l_FnMapSystem_L0 fl x2 fuel v50 = some o0_0) (fun | (_, v50) => [(3, .pointer (some ⟨b15, 0, none⟩)), (4, .pointer (some ⟨b16, 0, none⟩)), (5, .int .i64 x2.2.2.1), (7, .pointer (some ⟨b30, 0, none⟩)), (11, .int .i64 v50)]) (fun | (_, v50) => [(0, C6), (1, C10), (2, C14), (3, [(b15, .cells #[.slice p3 ((x2.1.t.b).length) c5, .slice p7 ((x2.1.t.f).length) c9, .slice p11 ((x2.1.c).length) c13] 37 (0, 0))]), (4, [(b16, .cells #[.int .i64 x2.2.1.s, .int .i64 x2.2.1.p] 41 (0, 0))]), (5, C21), (6, C25), (7, C29), (8, [(b30, .cells #[.slice p18 ((x17.1.t.b).length) c20, .slice p22 ((x17.1.t.f).length) c24, .slice p26 ((x17.1.c).length) c28] 37 (0, 0))])]) (fl, 0) eo0_0 ⟨rfl, rfl, rfl, rfl, rfl, trivial⟩ ⟨0, [1, 2, 3, 4, 5, 6, 7, 8], rfl, rfl, 1, [2, 3, 4, 5, 6, 7, 8], rfl, rfl, 2, [3, 4, 5, 6, 7, 8], rfl, rfl, 3, [4, 5, 6, 7, 8], rfl, rfl, 4, [5, 6, 7, 8], rfl, rfl, 5, [6, 7, 8], rfl, rfl, 6, [7, 8], rfl, rfl, 7, [8], rfl, rfl, 8, [], rfl, rfl, trivial⟩ (by decide) ?_)
  rintro ⟨fuel, v50⟩ H1
  have H1 : l_FnMapSystem_L0 fl x2 fuel v50 = some o0_0 := H1
  rcases fuel with _ | fuel
  ·rw [l_FnMapSystem_L0.eq_1] at H1; cases H1
  rw [l_FnMapSystem_L0.eq_2] at H1
  dsimp only
  refine cw_seq (sr (oM rfl (oA 2 Tryd.underlying37 rfl ts35 rfl (oL 3 ts35 rfl (oD (stp_len Tryd.underlying35 rfl) rfl (oW rfl (nn (cw_cond rfl (fun h51 => ?_) (fun h51 => ?_)))))))))
  ·have H1 := cond_t H1 h51
   obtain ⟨o1_1, eo1_1, H1⟩ := bS H1
   refine cw_skip (kw_nx (cw_seq (cw_block (sr (oS rfl (nn (cw_join (ι := Int) (fun | v52 => o1_1 = .out v52) (fun | v52 => [(3, .pointer (some ⟨b15, 0, none⟩)), (4, .pointer (some ⟨b16, 0, none⟩)), (5, .int .i64 x2.2.2.1), (7, .pointer (some ⟨b30, 0, none⟩)), (11, .int .i64 v50), (12, .int .i64 v52)]) (fun | v52 => [(0, C6), (1, C10), (2, C14), (3, [(b15, .cells #[.slice p3 ((x2.1.t.b).length) c5, .slice p7 ((x2.1.t.f).length) c9, .slice p11 ((x2.1.c).length) c13] 37 (0, 0))]), (4, [(b16, .cells #[.int .i64 x2.2.1.s, .int .i64 x2.2.1.p] 41 (0, 0))]), (5, C21), (6, C25), (7, C29), (8, [(b30, .cells #[.slice p18 ((x17.1.t.b).length) c20, .slice p22 ((x17.1.t.f).length) c24, .slice p26 ((x17.1.c).length) c28] 37 (0, 0))])]) ?_ ?_)))))))
   ·refine cw_block (cw_loopS (ι := Nat × Int) (js := [0, 1, 2, 3, 4, 5, 6, 7, 8]) (fun x => x.1) (fun | (fuel, v52) => l_FnMapSystem_L1 fl x2 v50 fuel v52 = some o1_1) (fun | (_, v52) => [(3, .pointer (some ⟨b15, 0, none⟩)), (4, .pointer (some ⟨b16, 0, none⟩)), (5, .int .i64 x2.2.2.1), (7, .pointer (some ⟨b30, 0, none⟩)), (11, .int .i64 v50), (12, .int .i64 v52)]) (fun | (_, v52) => [(0, C6), (1, C10), (2, C14), (3, [(b15, .cells #[.slice p3 ((x2.1.t.b).length) c5, .slice p7 ((x2.1.t.f).length) c9, .slice p11 ((x2.1.c).length) c13] 37 (0, 0))]), (4, [(b16, .cells #[.int .i64 x2.2.1.s, .int .i64 x2.2.1.p] 41 (0, 0))]), (5, C21), (6, C25), (7, C29), (8, [(b30, .cells #[.slice p18 ((x17.1.t.b).length) c20, .slice p22 ((x17.1.t.f).length) c24, .slice p26 ((x17.1.c).length) c28] 37 (0, 0))])]) (fl, 0) eo1_1 ⟨rfl, rfl, rfl, rfl, rfl, rfl, trivial⟩ ⟨0, [1, 2, 3, 4, 5, 6, 7, 8], rfl, rfl, 1, [2, 3, 4, 5, 6, 7, 8], rfl, rfl, 2, [3, 4, 5, 6, 7, 8], rfl, rfl, 3, [4, 5, 6, 7, 8], rfl, rfl, 4, [5, 6, 7, 8], rfl, rfl, 5, [6, 7, 8], rfl, rfl, 6, [7, 8], rfl, rfl, 7, [8], rfl, rfl, 8, [], rfl, rfl, trivial⟩ (by decide) ?_)
    rintro ⟨fuel, v52⟩ H2
    have H2 : l_FnMapSystem_L1 fl x2 v50 fuel v52 = some o1_1 := H2
    rcases fuel with _ | fuel
    ·rw [l_FnMapSystem_L1.eq_1] at H2; cases H2
    rw [l_FnMapSystem_L1.eq_2] at H2
    dsimp only
    obtain ⟨x53, e53, H2⟩ := bS H2
    refine cw_seq (sr (oM rfl (oA 2 Tryd.underlying37 rfl ts35 rfl (oL 3 ts35 rfl (oM rfl ?_)))))
    obtain ⟨u54, p55, n56, c57, p58, n59, c60, hl54, hx54, rfl, rfl, hw54, hr54, hs54⟩ := OwnD.view o14 e53
    refine oD (stp_indexAddr Tryd.underlying35 ts53 (by decide) rfl hl54 rfl (RdC.rdb (id := 2) hw54 rfl) hx54) rfl (oA 0 Tryd.underlying53 rfl ts51 rfl (oD (stp_load1 ts51 rfl (Cells.el (RdC.rdb (id := 2) hw54 rfl) (by decide) hx54 0 1 rfl)) rfl (oD (stp_len Tryd.underlying51 rfl) rfl (oW rfl (nn (cw_cond rfl (fun h61 => ?_) (fun h61 => ?_)))))))
    ·have H2 := cond_t H2 h61
     obtain ⟨x62, e62, H2⟩ := bS H2
     obtain ⟨y63, ey63, H2⟩ := bS H2
     refine cw_skip (kw_nx (cw_seq (cw_block (cw_seq (cw_join (ι := Unit) (fun | _ => True) (fun | _ => [(3, .pointer (some ⟨b15, 0, none⟩)), (4, .pointer (some ⟨b16, 0, none⟩)), (5, .int .i64 x2.2.2.1), (7, .pointer (some ⟨b30, 0, none⟩)), (11, .int .i64 v50), (12, .int .i64 v52), (106, .bool y63)]) (fun | _ => [(0, C6), (1, C10), (2, C14), (3, [(b15, .cells #[.slice p3 ((x2.1.t.b).length) c5, .slice p7 ((x2.1.t.f).length) c9, .slice p11 ((x2.1.c).length) c13] 37 (0, 0))]), (4, [(b16, .cells #[.int .i64 x2.2.1.s, .int .i64 x2.2.1.p] 41 (0, 0))]), (5, C21), (6, C25), (7, C29), (8, [(b30, .cells #[.slice p18 ((x17.1.t.b).length) c20, .slice p22 ((x17.1.t.f).length) c24, .slice p26 ((x17.1.c).length) c28] 37 (0, 0))])]) ?_ ?_)))))
     ·rcases Bool.eq_false_or_eq_true (x62.fr == x2.2.2.1) with hy63 | hy63
      ·have ey63 := cond_t ey63 hy63
       have qy63 := sI ey63
       refine rdq g_mixed [3, 5, 11, 12] [2, 3] { dst := dS [82, 83, 84, 85, 86, 87, 88, 89, 90, 91, 92, 93, 94, 95, 96, 97, 98, 99, 100, 101, 102, 103, 104, 105, 106, 107], pre := gA [] [[], [0], [], [0, 1, 2], rn 0 4, rn 0 5, [], rn 0 7, rn 0 8, rn 0 9, [], rn 0 11, rn 0 12, rn 0 13, rn 0 14, rn 0 13, rn 0 16, rn 0 17, rn 0 18, rn 0 13, rn 0 20, rn 0 21, rn 0 22, rn 0 13, rn 0 24, rn 0 25], ids := fun _ => [], rs := rL [[(3, 0)], [(81, 1)], [(11, 0)], [(82, 2), (83, 3)], [(84, 4)], [(85, 5)], [(12, 0)], [(86, 6), (87, 7)], [(88, 8)], [(89, 9)], [(5, 0)], [(90, 10), (91, 11)], [(92, 12)], [(93, 13)], [(93, 13)], [(93, 13)], [(93, 13)], [(93, 13)], [(93, 13)], [(93, 13)], [(93, 13)], [(93, 13)], [(93, 13)], [(93, 13)], [(93, 13)], [(93, 13), (105, 25)]], rh := rL [[], [(3, 0)], [], [(2, 0)], [], [(2, 0)], [], [(2, 0)], [], [(2, 0)]], V := fun i g => gA undef [.pointer (some ⟨b15, 2, none⟩), .slice p11 ((x2.1.c).length) c13, .int .i64 v50, .pointer (some ⟨eB p11, eO p11 + Int.toNat v50 * Enc.sz CpS + 0, none⟩), .pointer (some ⟨eB p11, eO p11 + Int.toNat v50 * Enc.sz CpS + 0, none⟩), .slice p55 ((x53.n).length) c57, .int .i64 v52, .pointer (some ⟨eB p55, eO p55 + Int.toNat v52 * Enc.sz Nt + 0, none⟩), .pointer (some ⟨eB p55, eO p55 + Int.toNat v52 * Enc.sz Nt + 2, none⟩), .int .i64 x62.fr, .int .i64 x2.2.2.1, .bool (x62.fr == x2.2.2.1), .bool (x62.fr == x2.2.2.1), undef, undef, undef, undef, undef, undef, undef, undef, undef, undef, undef, undef, .bool y63] i, U := fun _ _ => [], Φ := fun _ _ => True } ?_ ?_
       ·exact ⟨lc rfl rfl fun hs hh => stp_fieldAddr (j := 2) Tryd.underlying37 rfl ts35 rfl (sv hs 3 rfl) rfl, lc rfl rfl fun hs hh => stp_load1 ts35 (sv hs 81 rfl) (Cells.box (id := 3) (hh.get 3 _ rfl) 1 rfl), lM, lc rfl rfl fun hs hh => stp_indexAddr Tryd.underlying35 ts53 (by decide) (sv hs 82 rfl) hl54 (sv hs 83 rfl) (RdC.rdb (id := 2) hw54 (hh.get 2 _ rfl)) hx54, lc rfl rfl fun hs hh => stp_fieldAddr (j := 0) Tryd.underlying53 rfl ts51 rfl (sv hs 84 rfl) rfl, lc rfl rfl fun hs hh => stp_load1 ts51 (sv hs 85 rfl) (Cells.el (RdC.rdb (id := 2) hw54 (hh.get 2 _ rfl)) (by decide) hx54 0 1 rfl), lM, lc rfl rfl fun hs hh => stp_indexAddr Tryd.underlying51 ts55 (by decide) (sv hs 86 rfl) rfl (sv hs 87 rfl) (RdC.rdb (id := 2) hr54 (hh.get 2 _ rfl)) e62, lc rfl rfl fun hs hh => stp_fieldAddr (j := 2) Tryd.underlying55 rfl ts3 rfl (sv hs 88 rfl) rfl, lc rfl rfl fun hs hh => stp_load1 ts3 (sv hs 89 rfl) (Cells.el (RdC.rdb (id := 2) hr54 (hh.get 2 _ rfl)) (by decide) e62 2 1 rfl), lM, lc rfl rfl fun hs hh => stp_eql (sv hs 90 rfl) (sv hs 91 rfl), lM, lo rfl rfl 93 hy63, lo rfl rfl 93 hy63, lo rfl rfl 93 hy63, lo rfl rfl 93 hy63, lo rfl rfl 93 hy63, lo rfl rfl 93 hy63, lo rfl rfl 93 hy63, lo rfl rfl 93 hy63, lo rfl rfl 93 hy63, lo rfl rfl 93 hy63, lo rfl rfl 93 hy63, lo rfl rfl 93 hy63, lc rfl rfl fun hs hh => stp_pick_tB (sv hs 93 rfl) hy63 rfl qy63, trivial⟩
       intro g hΦ
       exact kw_join () trivial ⟨rfl, rfl, rfl, rfl, rfl, rfl, rfl, trivial⟩ ⟨rfl, rfl, rfl, rfl, rfl, rfl, rfl, rfl, rfl, trivial⟩
      have ey63 := cond_f ey63 hy63
      have qy63 := sI ey63
      refine rdq g_mixed [3, 4, 5, 11, 12] [2, 3, 4] { dst := dS [82, 83, 84, 85, 86, 87, 88, 89, 90, 91, 92, 93, 94, 95, 96, 97, 98, 99, 100, 101, 102, 103, 104, 105, 106, 107], pre := gA [] [[], [0], [], [0, 1, 2], rn 0 4, rn 0 5, [], rn 0 7, rn 0 8, rn 0 9, [], rn 0 11, rn 0 12, rn 0 13, rn 0 14, rn 0 13, rn 0 16, rn 0 17, rn 0 18, rn 0 13, rn 0 20, rn 0 21, rn 0 22, rn 0 13, rn 0 24, rn 0 25], ids := fun _ => [], rs := rL [[(3, 0)], [(81, 1)], [(11, 0)], [(82, 2), (83, 3)], [(84, 4)], [(85, 5)], [(12, 0)], [(86, 6), (87, 7)], [(88, 8)], [(89, 9)], [(5, 0)], [(90, 10), (91, 11)], [(92, 12)], [(3, 0), (93, 13)], [(94, 14), (93, 13)], [(11, 0), (93, 13)], [(95, 15), (96, 16), (93, 13)], [(97, 17), (93, 13)], [(98, 18), (93, 13)], [(12, 0), (93, 13)], [(99, 19), (100, 20), (93, 13)], [(101, 21), (93, 13)], [(102, 22), (93, 13)], [(4, 0), (93, 13)], [(103, 23), (104, 24), (93, 13)], [(93, 13), (105, 25)]], rh := rL [[], [(3, 0)], [], [(2, 0)], [], [(2, 0)], [], [(2, 0)], [], [(2, 0)], [], [], [], [], [(3, 0)], [], [(2, 0)], [], [(2, 0)], [], [(2, 0)], [], [(2, 0)], [(4, 0)]], V := fun i g => gA undef [.pointer (some ⟨b15, 2, none⟩), .slice p11 ((x2.1.c).length) c13, .int .i64 v50, .pointer (some ⟨eB p11, eO p11 + Int.toNat v50 * Enc.sz CpS + 0, none⟩), .pointer (some ⟨eB p11, eO p11 + Int.toNat v50 * Enc.sz CpS + 0, none⟩), .slice p55 ((x53.n).length) c57, .int .i64 v52, .pointer (some ⟨eB p55, eO p55 + Int.toNat v52 * Enc.sz Nt + 0, none⟩), .pointer (some ⟨eB p55, eO p55 + Int.toNat v52 * Enc.sz Nt + 2, none⟩), .int .i64 x62.fr, .int .i64 x2.2.2.1, .bool (x62.fr == x2.2.2.1), .bool (x62.fr == x2.2.2.1), .pointer (some ⟨b15, 2, none⟩), .slice p11 ((x2.1.c).length) c13, .int .i64 v50, .pointer (some ⟨eB p11, eO p11 + Int.toNat v50 * Enc.sz CpS + 0, none⟩), .pointer (some ⟨eB p11, eO p11 + Int.toNat v50 * Enc.sz CpS + 0, none⟩), .slice p55 ((x53.n).length) c57, .int .i64 v52, .pointer (some ⟨eB p55, eO p55 + Int.toNat v52 * Enc.sz Nt + 0, none⟩), .pointer (some ⟨eB p55, eO p55 + Int.toNat v52 * Enc.sz Nt + 0, none⟩), .agg #[.int .i64 x62.k.s, .int .i64 x62.k.p], .agg #[.int .i64 x2.2.1.s, .int .i64 x2.2.1.p], .bool (x62.k == x2.2.1), .bool y63] i, U := fun _ _ => [], Φ := fun _ _ => True } ?_ ?_
      ·exact ⟨lc rfl rfl fun hs hh => stp_fieldAddr (j := 2) Tryd.underlying37 rfl ts35 rfl (sv hs 3 rfl) rfl, lc rfl rfl fun hs hh => stp_load1 ts35 (sv hs 81 rfl) (Cells.box (id := 3) (hh.get 3 _ rfl) 1 rfl), lM, lc rfl rfl fun hs hh => stp_indexAddr Tryd.underlying35 ts53 (by decide) (sv hs 82 rfl) hl54 (sv hs 83 rfl) (RdC.rdb (id := 2) hw54 (hh.get 2 _ rfl)) hx54, lc rfl rfl fun hs hh => stp_fieldAddr (j := 0) Tryd.underlying53 rfl ts51 rfl (sv hs 84 rfl) rfl, lc rfl rfl fun hs hh => stp_load1 ts51 (sv hs 85 rfl) (Cells.el (RdC.rdb (id := 2) hw54 (hh.get 2 _ rfl)) (by decide) hx54 0 1 rfl), lM, lc rfl rfl fun hs hh => stp_indexAddr Tryd.underlying51 ts55 (by decide) (sv hs 86 rfl) rfl (sv hs 87 rfl) (RdC.rdb (id := 2) hr54 (hh.get 2 _ rfl)) e62, lc rfl rfl fun hs hh => stp_fieldAddr (j := 2) Tryd.underlying55 rfl ts3 rfl (sv hs 88 rfl) rfl, lc rfl rfl fun hs hh => stp_load1 ts3 (sv hs 89 rfl) (Cells.el (RdC.rdb (id := 2) hr54 (hh.get 2 _ rfl)) (by decide) e62 2 1 rfl), lM, lc rfl rfl fun hs hh => stp_eql (sv hs 90 rfl) (sv hs 91 rfl), lM, lg rfl rfl 93 hy63 fun hs hh => stp_fieldAddr (j := 2) Tryd.underlying37 rfl ts35 rfl (sv hs 3 rfl) rfl, lg rfl rfl 93 hy63 fun hs hh => stp_load1 ts35 (sv hs 94 rfl) (Cells.box (id := 3) (hh.get 3 _ rfl) 1 rfl), lg rfl rfl 93 hy63 fun hs hh => stp_move (sv hs 11 rfl), lg rfl rfl 93 hy63 fun hs hh => stp_indexAddr Tryd.underlying35 ts53 (by decide) (sv hs 95 rfl) hl54 (sv hs 96 rfl) (RdC.rdb (id := 2) hw54 (hh.get 2 _ rfl)) hx54, lg rfl rfl 93 hy63 fun hs hh => stp_fieldAddr (j := 0) Tryd.underlying53 rfl ts51 rfl (sv hs 97 rfl) rfl, lg rfl rfl 93 hy63 fun hs hh => stp_load1 ts51 (sv hs 98 rfl) (Cells.el (RdC.rdb (id := 2) hw54 (hh.get 2 _ rfl)) (by decide) hx54 0 1 rfl), lg rfl rfl 93 hy63 fun hs hh => stp_move (sv hs 12 rfl), lg rfl rfl 93 hy63 fun hs hh => stp_indexAddr Tryd.underlying51 ts55 (by decide) (sv hs 99 rfl) rfl (sv hs 100 rfl) (RdC.rdb (id := 2) hr54 (hh.get 2 _ rfl)) e62, lg rfl rfl 93 hy63 fun hs hh => stp_fieldAddr (j := 0) Tryd.underlying55 rfl ts41 rfl (sv hs 101 rfl) rfl, lg rfl rfl 93 hy63 fun hs hh => stp_loadN (us := [_, _]) ts41 (sv hs 102 rfl) (Cells.el (RdC.rdb (id := 2) hr54 (hh.get 2 _ rfl)) (by decide) e62 0 2 rfl), lg rfl rfl 93 hy63 fun hs hh => stp_loadN (us := [_, _]) ts41 (sv hs 4 rfl) (Cells.box (id := 4) (hh.get 4 _ rfl) 2 rfl), lg rfl rfl 93 hy63 fun hs hh => stp_eqlS te41 x62.k x2.2.1 (sv hs 103 rfl) (sv hs 104 rfl), lc rfl rfl fun hs hh => stp_pick_fB (sv hs 93 rfl) hy63 (sv hs 105 rfl) qy63, trivial⟩
      intro g hΦ
      exact kw_join () trivial ⟨rfl, rfl, rfl, rfl, rfl, rfl, rfl, trivial⟩ ⟨rfl, rfl, rfl, rfl, rfl, rfl, rfl, rfl, rfl, trivial⟩
     rintro _ -
     dsimp only
     refine kw_nx (cw_cond rfl (fun h64 => ?_) (fun h64 => ?_))
     ·have H2 := cond_t H2 h64
      refine sr (oS rfl (nn (cw_ret (kw_bl_ret (kw_nx_ret (kw_lq_ret (kw_bl_ret (kw_join_ret (kw_bl_ret (kw_nx_ret (kw_lq_ret (kw_bl_ret (kw_join_ret ?_)))))))))))))
      refine kw_nx_ret ?_
      obtain rfl := sI H2
      obtain rfl := sI H1
      obtain rfl := sI H0
      exact kr Tryd.results4 (rT rfl) [] ⟨rfl, rfl⟩
     have H2 := cond_f H2 h64
     obtain ⟨x65, e65, H2⟩ := bS H2
     exact cw_skip (kw_bl_normal (kw_nx (cw_region (oM rfl (oP e65 rfl (oS rfl (ow_nil (kw_lqS (js := [0, 1, 2, 3, 4, 5, 6, 7, 8]) (fuel, x65) H2 (Nat.lt_succ_self _) ⟨rfl, rfl, rfl, rfl, rfl, rfl, trivial⟩ ⟨0, [1, 2, 3, 4, 5, 6, 7, 8], rfl, rfl, 1, [2, 3, 4, 5, 6, 7, 8], rfl, rfl, 2, [3, 4, 5, 6, 7, 8], rfl, rfl, 3, [4, 5, 6, 7, 8], rfl, rfl, 4, [5, 6, 7, 8], rfl, rfl, 5, [6, 7, 8], rfl, rfl, 6, [7, 8], rfl, rfl, 7, [8], rfl, rfl, 8, [], rfl, rfl, trivial⟩ (by decide)))))))))
    have H2 := cond_f H2 h61
    refine cw_exit (kw_nx_exit (kw_lq_exit (kw_bl ?_)))
    obtain rfl := sI H2
    exact kw_joinS (js := [0, 1, 2, 3, 4, 5, 6, 7, 8]) v52 rfl ⟨rfl, rfl, rfl, rfl, rfl, rfl, trivial⟩ ⟨0, [1, 2, 3, 4, 5, 6, 7, 8], rfl, rfl, 1, [2, 3, 4, 5, 6, 7, 8], rfl, rfl, 2, [3, 4, 5, 6, 7, 8], rfl, rfl, 3, [4, 5, 6, 7, 8], rfl, rfl, 4, [5, 6, 7, 8], rfl, rfl, 5, [6, 7, 8], rfl, rfl, 6, [7, 8], rfl, rfl, 7, [8], rfl, rfl, 8, [], rfl, rfl, trivial⟩ (by decide)
   rintro v52 rfl
   dsimp only
   obtain ⟨x66, e66, H1⟩ := bS H1
   exact kw_bl_normal (kw_nx (cw_region (oM rfl (oP e66 rfl (oS rfl (ow_nil (kw_lqS (js := [0, 1, 2, 3, 4, 5, 6, 7, 8]) (fuel, x66) H1 (Nat.lt_succ_self _) ⟨rfl, rfl, rfl, rfl, rfl, trivial⟩ ⟨0, [1, 2, 3, 4, 5, 6, 7, 8], rfl, rfl, 1, [2, 3, 4, 5, 6, 7, 8], rfl, rfl, 2, [3, 4, 5, 6, 7, 8], rfl, rfl, 3, [4, 5, 6, 7, 8], rfl, rfl, 4, [5, 6, 7, 8], rfl, rfl, 5, [6, 7, 8], rfl, rfl, 6, [7, 8], rfl, rfl, 7, [8], rfl, rfl, 8, [], rfl, rfl, trivial⟩ (by decide))))))))
  have H1 := cond_f H1 h51
  refine cw_exit (kw_nx_exit (kw_lq_exit (kw_bl ?_)))
  obtain rfl := sI H1
  exact kw_joinS (js := [0, 1, 2, 3, 4, 5, 6, 7, 8]) v50 rfl ⟨rfl, rfl, rfl, rfl, rfl, trivial⟩ ⟨0, [1, 2, 3, 4, 5, 6, 7, 8], rfl, rfl, 1, [2, 3, 4, 5, 6, 7, 8], rfl, rfl, 2, [3, 4, 5, 6, 7, 8], rfl, rfl, 3, [4, 5, 6, 7, 8], rfl, rfl, 4, [5, 6, 7, 8], rfl, rfl, 5, [6, 7, 8], rfl, rfl, 6, [7, 8], rfl, rfl, 7, [8], rfl, rfl, 8, [], rfl, rfl, trivial⟩ (by decide)
 rintro v50 rfl
 dsimp only
 obtain ⟨x67, e67, H0⟩ := bS H0
 refine kw_nx (sr (oB3 8 ts37 rfl (oB2 4 ts41 rfl (oE (stpU_call (fun i => 13 + i) cf22 (fun w hw => c_i_UnmapSystem fl w x17.1 0 x2.2.1 rfl (OwnC.pass (id := 5) rfl o21 hw) rfl (OwnC.pass (id := 6) rfl o25 hw) rfl (OwnD.pass (id := 7) rfl o29 hw) (RO.pass hg hw) x67 e67) (yC rfl rfl rfl)) rfl ?_))))
 rintro _ _ ⟨_, ⟨p68, _, c70, C71, p72, _, c74, C75, p76, _, c78, C79, rfl, rfl, rfl, o71, rfl, o75, rfl, o79⟩, rfl⟩
 refine oM rfl (oT rfl (oT rfl (oT rfl (oE (stpU_alloc 16 tz37 rfl) rfl ?_))))
 rintro _ _ ⟨b80, rfl, rfl⟩
 obtain ⟨x81, e81, H0⟩ := bS H0
 refine oC3 16 ts37 rfl rfl (oS rfl (oS rfl (nn (sr (oB3 8 ts37 rfl (oE (stpU_call (fun i => 17 + i) cf23 (fun w hw => c_i_SystemValid fl w x17.1 rfl (OwnC.pass (id := 5) rfl o21 hw) rfl (OwnC.pass (id := 6) rfl o25 hw) rfl (OwnD.pass (id := 7) rfl o29 hw) (RO.pass hg hw) x81 e81) (yA rfl)) rfl ?_))))))
 rintro _ _ ⟨_, ⟨rfl, rfl⟩, rfl⟩
 obtain ⟨y82, ey82, H0⟩ := bS H0
 refine oM rfl (ow_cutY 2 118 y82 ?_ ?_)
 ·rcases Bool.eq_false_or_eq_true x81 with hy82 | hy82
  ·have ey82 := cond_t ey82 hy82
   refine oG rfl hy82 (mv rfl) rfl (oD (stp_pick_t rfl hy82 rfl) rfl ?_)
   obtain rfl := sI ey82
   exact ow_nil (jy 2 0)
  have ey82 := cond_f ey82 hy82
  refine oO rfl hy82 rfl (oD (stp_pick_f rfl hy82 rfl) rfl ?_)
  obtain rfl := sI ey82
  exact ow_nil (jy 2 0)
 obtain ⟨y83, ey83, H0⟩ := bS H0
 refine oM rfl (ow_cutY 3 122 y83 ?_ ?_)
 ·rcases Bool.eq_false_or_eq_true y82 with hy83 | hy83
  ·have ey83 := cond_t ey83 hy83
   refine oG rfl hy83 (mv rfl) rfl (oG rfl hy83 (stp_eql rfl rfl) rfl (oD (stp_pick_t rfl hy83 rfl) rfl ?_))
   obtain rfl := sI ey83
   exact ow_nil (jy 3 0)
  have ey83 := cond_f ey83 hy83
  refine oO rfl hy83 rfl (oO rfl hy83 rfl (oD (stp_pick_f rfl hy83 rfl) rfl ?_))
  obtain rfl := sI ey83
  exact ow_nil (jy 3 0)
 obtain ⟨y84, ey84, H0⟩ := bS H0
 refine oM rfl (ow_cutY 4 127 y84 ?_ ?_)
 ·rcases Bool.eq_false_or_eq_true y83 with hy84 | hy84
  ·have ey84 := cond_t ey84 hy84
   obtain ⟨x85, e85, ey84⟩ := bS ey84
   refine oG rfl hy84 (stp_loadN (us := [_, _, _]) ts37 rfl (Cells.box (id := 16) rfl 3 rfl)) rfl (oG rfl hy84 (stp_loadN (us := [_, _, _]) ts37 rfl (Cells.box (id := 3) rfl 3 rfl)) rfl (ow_eff (.some rfl hy84) (stpU_call (fun i => 17 + i) cf21 (fun w hw => c_i_SystemSame fl w x67.1 x2.1 rfl (OwnC.pass (id := 13) rfl o71 hw) rfl (OwnC.pass (id := 14) rfl o75 hw) rfl (OwnD.pass (id := 15) rfl o79 hw) rfl (OwnC.pass (id := 0) rfl o6 hw) rfl (OwnC.pass (id := 1) rfl o10 hw) rfl (OwnD.pass (id := 2) rfl o14 hw) x85 e85) (yB rfl rfl)) rfl ?_))
   rintro _ _ ⟨_, ⟨rfl, rfl⟩, rfl⟩
   refine oD (stp_pick_t rfl hy84 rfl) rfl ?_
   obtain rfl := sI ey84
   exact ow_nil (jy 4 0)
  have ey84 := cond_f ey84 hy84
  refine oO rfl hy84 rfl (oO rfl hy84 rfl (oO rfl hy84 rfl (oD (stp_pick_f rfl hy84 rfl) rfl ?_)))
  obtain rfl := sI ey84
  exact ow_nil (jy 4 0)
 refine oS rfl (nn (cw_ret ?_))
 obtain rfl := sI H0
 exact kr Tryd.results4 (rT rfl) [] ⟨rfl, rfl⟩
end Go.Proofs.YtfnliecmagnkdabDoor
