/- The walks: functions of the program return what their pure functions say. Printed by a program (gen.py). -/
import Derived.Test.YtfnliecmagnkdabDoorBp
import Derived.Test.YtfnliecmagnkdabDoorBt
import Derived.Test.YtfnliecmagnkdabDoorMan
import Derived.Test.YtfnliecmagnkdabDoorMap
import Derived.Test.YtfnliecmagnkdabDoorCpy
import Derived.Test.YtfnliecmagnkdabDoorClr
import Derived.Test.YtfnliecmagnkdabDoorDp
import Derived.Test.YtfnliecmagnkdabDoorSrt
import Derived.Test.YtfnliecmagnkdabDoorE8
import Derived.Test.YtfnliecmagnkdabDoorBwaa
import Derived.Test.YtfnliecmagnkdabDoorBwah
import Derived.Test.YtfnliecmagnkdabDoorBwal
import Derived.Test.YtfnliecmagnkdabDoorBwaq
set_option linter.unusedSimpArgs false
set_option linter.unusedVariables false
set_option linter.unusedSectionVars false
namespace Go.Proofs.YtfnliecmagnkdabDoor
open Go.RowKit
set_option maxHeartbeats 4000000
set_option maxRecDepth 20000
variable {p0_0 p0_1 p0_2 : Option Addr} {n0_0 n0_1 n0_2 : Nat} {c0_0 c0_1 c0_2 : Nat}
theorem c_l_FnExactUnmapSystem (fl : Nat) (w : World) (a0 : Sy) (a1 : Int) (a2 : K) (hn0_0 : n0_0 = (a0.t.b).length) (hr0_0 : RO w (hkeys []) (RdL p0_0 c0_0 a0.t.b)) (hn0_1 : n0_1 = (a0.t.f).length) (hr0_1 : RO w (hkeys []) (RdL p0_1 c0_1 a0.t.f)) (hn0_2 : n0_2 = (a0.c).length) (hr0_2 : ROD w (hkeys []) p0_2 c0_2 a0.c) (hg : RO w (hkeys []) (fun w' => w'.rangeAt 0 0 [.bool false, .int .i64 0, .int .i64 0, .int .i64 0, .int .i64 (-1)])) (r : Bool) (H0 : l_FnExactUnmapSystem fl a0 a1 a2 = some r) :
  Ct Tryd.prog 6 [.agg #[.slice p0_0 n0_0 c0_0, .slice p0_1 n0_1 c0_1, .slice p0_2 n0_2 c0_2], .int .i64 a1, .agg #[.int .i64 a2.s, .int .i64 a2.p]] w [] (fun rv h' => rv = .bool r ∧ h' = []) := by
 subst hn0_0 hn0_1 hn0_2
 unfold l_FnExactUnmapSystem at H0
 refine ct_of_cw Tryd.func6 rfl Tryd.ntmps6 rfl (Sat.refl _ _) ?_
 refine sr (oE (stpU_box 0 rfl rfl) rfl ?_)
 rintro _ _ ⟨b1, rfl, rfl⟩
 refine oE (stpU_box 1 rfl rfl) rfl ?_
 rintro _ _ ⟨b2, rfl, rfl⟩
 obtain ⟨x3, e3, H0⟩ := bS H0
 refine oS rfl (nn (sr (oS rfl (nn (sr (oB3 0 ts28 rfl (oM rfl (oE (stpU_call (fun i => 2 + i) cf10 (fun w hw => c_l_szSystem fl w a0 1048576 rfl (RO.pass hr0_0 hw) rfl (RO.pass hr0_1 hw) rfl (ROD.pass hr0_2 hw) x3 e3) (yB rfl rfl)) rfl ?_))))))))
 rintro _ _ ⟨_, ⟨rfl, rfl⟩, rfl⟩
 refine oS rfl (nn (cw_seq (sr (oM rfl (oW rfl (nn (cw_cond rfl (fun h4 => ?_) (fun h4 => ?_))))))))
 ·have H0 := cond_t H0 h4
  refine sr (oS rfl (nn (cw_ret (kw_nx_ret ?_))))
  obtain rfl := sI H0
  exact kr Tryd.results6 (rT rfl) [] ⟨rfl, rfl⟩
 have H0 := cond_f H0 h4
 obtain ⟨x5, e5, H0⟩ := bS H0
 obtain ⟨x18, e18, H0⟩ := bS H0
 obtain ⟨x19, e19, H0⟩ := bS H0
 refine cw_skip (kw_nx (cw_seq (rdq g_mixed [1, 3, 5] [0, 1] { dst := dS [28, 29, 30, 31, 32, 33, 27, 34, 35, 36, 9, 0, 10, 11], pre := gA [] [[], [0], [], [], [0, 1, 3], rn 0 5, rn 0 6, rn 0 7, rn 0 7, rn 0 7, [], [0, 1, 2, 3, 4, 5, 6, 7, 10], [0, 1, 2, 3, 4, 5, 6, 7, 8, 10, 11], rn 0 13], ids := gA [] [[], [2, 3, 4], [], [], [], [5, 6, 7], [], [], [], [], [8], [8]], rs := rL [[(3, 0)], [(27, 1)], [(1, 0)], [(5, 0)], [(30, 4)], [(28, 2), (29, 3), (31, 5)], [(32, 6)], [(26, 7)], [(26, 7)], [(26, 7)], [], [(8, 11), (33, 8)], [(34, 9)], [(35, 10)]], rh := rL [[(0, 0)], [], [], [(1, 0)], [], [(2, 2), (3, 2), (4, 2)], [], [], [], [], [], [(8, 11)]], V := fun i g => gA undef [.agg #[.slice p0_0 ((a0.t.b).length) c0_0, .slice p0_1 ((a0.t.f).length) c0_1, .slice p0_2 ((a0.c).length) c0_2], .agg #[.slice ((g 1).A 0) ((x5.t.b).length) ((g 1).C 0), .slice ((g 1).A 1) ((x5.t.f).length) ((g 1).C 1), .slice ((g 1).A 2) ((x5.c).length) ((g 1).C 2)], .int .i64 a1, .agg #[.int .i64 a2.s, .int .i64 a2.p], .agg #[.int .i64 x18.s, .int .i64 x18.p], .tuple #[.agg #[.slice ((g 5).A 0) ((x19.1.t.b).length) ((g 5).C 0), .slice ((g 5).A 1) ((x19.1.t.f).length) ((g 5).C 1), .slice ((g 5).A 2) ((x19.1.c).length) ((g 5).C 2)], .int .i64 x19.2.1, .bool x19.2.2], .tuple #[.agg #[.slice ((g 5).A 0) ((x19.1.t.b).length) ((g 5).C 0), .slice ((g 5).A 1) ((x19.1.t.f).length) ((g 5).C 1), .slice ((g 5).A 2) ((x19.1.c).length) ((g 5).C 2)], .int .i64 x19.2.1, .bool x19.2.2], .agg #[.slice ((g 5).A 0) ((x19.1.t.b).length) ((g 5).C 0), .slice ((g 5).A 1) ((x19.1.t.f).length) ((g 5).C 1), .slice ((g 5).A 2) ((x19.1.c).length) ((g 5).C 2)], .int .i64 x19.2.1, .bool x19.2.2, .pointer (some ⟨((g 10).C 0), 0, none⟩), undef, .int .i64 x19.2.1, .bool x19.2.2] i, U := fun i g => gA [] [[], [(2, ((g 1).R 0)), (3, ((g 1).R 1)), (4, ((g 1).R 2))], [], [], [], [(5, ((g 5).R 0)), (6, ((g 5).R 1)), (7, ((g 5).R 2))], [], [], [], [], [(8, [(((g 10).C 0), .cells #[.slice none 0 0, .slice none 0 0, .slice none 0 0] 37 (0, 0))])], [(8, [(((g 10).C 0), .cells #[.slice ((g 5).A 0) ((x19.1.t.b).length) ((g 5).C 0), .slice ((g 5).A 1) ((x19.1.t.f).length) ((g 5).C 1), .slice ((g 5).A 2) ((x19.1.c).length) ((g 5).C 2)] 37 (0, 0))])]] i, Φ := fun i x => gA True [True, OwnC 3 (x.A 0) (x.C 0) x5.t.b (x.R 0) ∧ OwnC 71 (x.A 1) (x.C 1) x5.t.f (x.R 1) ∧ OwnD 53 55 (x.A 2) (x.C 2) x5.c (x.R 2), True, True, True, OwnC 3 (x.A 0) (x.C 0) x19.1.t.b (x.R 0) ∧ OwnC 71 (x.A 1) (x.C 1) x19.1.t.f (x.R 1) ∧ OwnD 53 55 (x.A 2) (x.C 2) x19.1.c (x.R 2)] i } ?_ ?_)))
 ·refine ⟨lc rfl rfl fun hs hh => stp_loadN (us := [_, _, _]) ts28 (sv hs 3 rfl) (Cells.box (id := 0) (hh.get 0 _ rfl) 3 rfl), ?_, lM, lc rfl rfl fun hs hh => stp_loadN (us := [_, _]) ts30 (sv hs 5 rfl) (Cells.box (id := 1) (hh.get 1 _ rfl) 2 rfl), ?_, ?_, lM, lT, lT, lT, ?_, ?_, lS, lS, trivial⟩
  ·refine le rfl rfl (fun g hΦ s h hs hh => (stpU_call (fun i => 2 + i) cf12 (fun w hw => c_l_toSystem fl w a0 rfl (RO.pass hr0_0 hw) rfl (RO.pass hr0_1 hw) rfl (ROD.pass hr0_2 hw) x5 e5) (yA (sv hs 27 rfl)))) ?_
   rintro g _ _ ⟨_, ⟨p6, _, c8, C9, p10, _, c12, C13, p14, _, c16, C17, rfl, rfl, rfl, o9, rfl, o13, rfl, o17⟩, rfl⟩
   exact ⟨⟨[p6, p10, p14], [c8, c12, c16], [C9, C13, C17]⟩, ⟨o9, o13, o17⟩, .inr rfl, rfl⟩
  ·refine le rfl rfl (fun g hΦ s h hs hh => (stpU_call (fun i => 5 + i) cf13 (fun w hw => c_l_toKey fl w a2 x18 e18) (yA (sv hs 30 rfl)))) ?_
   rintro g _ _ ⟨_, ⟨rfl, rfl⟩, rfl⟩
   exact ⟨⟨[], [], []⟩, trivial, .inr rfl, rfl⟩
  ·refine le rfl rfl (fun g hΦ s h hs hh => (stpU_call (fun i => 5 + i) cf25 (fun w hw => c_s_UnmapSystem fl w x5 a1 x18 rfl (OwnC.pass (id := 2) (hh.get 2 _ rfl) (hΦ 1 rfl).1 hw) rfl (OwnC.pass (id := 3) (hh.get 3 _ rfl) (hΦ 1 rfl).2.1 hw) rfl (OwnD.pass (id := 4) (hh.get 4 _ rfl) (hΦ 1 rfl).2.2 hw) x19 e19) (yC (sv hs 28 rfl) (sv hs 29 rfl) (sv hs 31 rfl)))) ?_
   rintro g _ _ ⟨_, ⟨p20, _, c22, C23, p24, _, c26, C27, p28, _, c30, C31, rfl, rfl, rfl, o23, rfl, o27, rfl, o31⟩, rfl⟩
   exact ⟨⟨[p20, p24, p28], [c22, c26, c30], [C23, C27, C31]⟩, ⟨o23, o27, o31⟩, .inr rfl, rfl⟩
  ·refine le rfl rfl (fun g hΦ s h hs hh => (stpU_alloc 8 tz37 rfl)) ?_
   rintro g _ _ ⟨b32, rfl, rfl⟩
   exact ⟨⟨[], [b32], []⟩, trivial, .inr rfl, rfl⟩
  refine le rfl rfl (fun g hΦ s h hs hh => (stpU_store (id := 8) (cs' := [.slice ((g 5).A 0) ((x19.1.t.b).length) ((g 5).C 0), .slice ((g 5).A 1) ((x19.1.t.f).length) ((g 5).C 1), .slice ((g 5).A 2) ((x19.1.c).length) ((g 5).C 2)]) ts37 (sv hs 8 rfl) (sv hs 33 rfl) (hh.get 8 _ rfl) rfl rfl rfl rfl)) ?_
  rintro g _ _ rfl
  exact ⟨⟨[], [], []⟩, trivial, .inl rfl, rfl⟩
 intro g hΦ
 refine kw_gen (ι := Option Addr × Option Addr × Option Addr × Nat × Nat × Nat × Res × Res × Res × Option Addr × Option Addr × Option Addr × Nat × Nat × Nat × Res × Res × Res × Nat) (((g 1).A 0), ((g 1).A 1), ((g 1).A 2), ((g 1).C 0), ((g 1).C 1), ((g 1).C 2), ((g 1).R 0), ((g 1).R 1), ((g 1).R 2), ((g 5).A 0), ((g 5).A 1), ((g 5).A 2), ((g 5).C 0), ((g 5).C 1), ((g 5).C 2), ((g 5).R 0), ((g 5).R 1), ((g 5).R 2), ((g 10).C 0)) (fun | (p6, p10, p14, c8, c12, c16, C9, C13, C17, p20, p24, p28, c22, c26, c30, C23, C27, C31, b32) => OwnC 3 p6 c8 x5.t.b C9 ∧ OwnC 71 p10 c12 x5.t.f C13 ∧ OwnD 53 55 p14 c16 x5.c C17 ∧ OwnC 3 p20 c22 x19.1.t.b C23 ∧ OwnC 71 p24 c26 x19.1.t.f C27 ∧ OwnD 53 55 p28 c30 x19.1.c C31) (fun | (p6, p10, p14, c8, c12, c16, C9, C13, C17, p20, p24, p28, c22, c26, c30, C23, C27, C31, b32) => [(1, .int .i64 a1), (3, .pointer (some ⟨b1, 0, none⟩)), (5, .pointer (some ⟨b2, 0, none⟩)), (8, .pointer (some ⟨b32, 0, none⟩)), (9, .int .i64 x19.2.1), (10, .bool x19.2.2)]) (fun | (p6, p10, p14, c8, c12, c16, C9, C13, C17, p20, p24, p28, c22, c26, c30, C23, C27, C31, b32) => [(0, [(b1, .cells #[.slice p0_0 ((a0.t.b).length) c0_0, .slice p0_1 ((a0.t.f).length) c0_1, .slice p0_2 ((a0.c).length) c0_2] 28 (0, 0))]), (1, [(b2, .cells #[.int .i64 a2.s, .int .i64 a2.p] 30 (0, 0))]), (5, C23), (6, C27), (7, C31), (8, [(b32, .cells #[.slice p20 ((x19.1.t.b).length) c22, .slice p24 ((x19.1.t.f).length) c26, .slice p28 ((x19.1.c).length) c30] 37 (0, 0))])]) ⟨(hΦ 1 (by decide)).1, (hΦ 1 (by decide)).2.1, (hΦ 1 (by decide)).2.2, (hΦ 5 (by decide)).1, (hΦ 5 (by decide)).2.1, (hΦ 5 (by decide)).2.2⟩ ⟨rfl, rfl, rfl, rfl, rfl, rfl, trivial⟩ ⟨rfl, rfl, rfl, rfl, rfl, rfl, trivial⟩ ?_
 rintro ⟨p6, p10, p14, c8, c12, c16, C9, C13, C17, p20, p24, p28, c22, c26, c30, C23, C27, C31, b32⟩ ⟨o9, o13, o17, o23, o27, o31⟩
 dsimp only
 obtain ⟨x33, e33, H0⟩ := bS H0
 refine kw_nx (sr (oB3 0 ts28 rfl (oE (stpU_call (fun i => 9 + i) cf12 (fun w hw => c_l_toSystem fl w a0 rfl (RO.pass hr0_0 hw) rfl (RO.pass hr0_1 hw) rfl (ROD.pass hr0_2 hw) x33 e33) (yA rfl)) rfl ?_)))
 rintro _ _ ⟨_, ⟨p34, _, c36, C37, p38, _, c40, C41, p42, _, c44, C45, rfl, rfl, rfl, o37, rfl, o41, rfl, o45⟩, rfl⟩
 refine oE (stpU_alloc 12 tz37 rfl) rfl ?_
 rintro _ _ ⟨b46, rfl, rfl⟩
 obtain ⟨x47, e47, H0⟩ := bS H0
 refine oC3 12 ts37 rfl rfl (nn (cw_seq (rdq g_mixed [1, 5, 11] [1, 9, 10, 11, 12] { dst := dS [40, 41, 42, 43, 44, 39, 45, 46, 47, 13, 0, 14, 15], pre := gA [] [[], [], [], [2], rn 0 4, rn 0 5, rn 0 6, rn 0 6, rn 0 6, [], [0, 1, 2, 3, 4, 5, 6, 9], [0, 1, 2, 3, 4, 5, 6, 7, 9, 10], rn 0 12], ids := gA [] [[], [], [], [], [13, 14, 15], [], [], [], [], [16], [16]], rs := rL [[(11, 0)], [(1, 0)], [(5, 0)], [(41, 3)], [(39, 1), (40, 2), (42, 4)], [(43, 5)], [(38, 6)], [(38, 6)], [(38, 6)], [], [(12, 10), (44, 7)], [(45, 8)], [(46, 9)]], rh := rL [[(12, 0)], [], [(1, 0)], [], [(9, 0), (10, 0), (11, 0)], [], [], [], [], [], [(16, 10)]], V := fun i g => gA undef [.agg #[.slice p34 ((x33.t.b).length) c36, .slice p38 ((x33.t.f).length) c40, .slice p42 ((x33.c).length) c44], .int .i64 a1, .agg #[.int .i64 a2.s, .int .i64 a2.p], .agg #[.int .i64 x18.s, .int .i64 x18.p], .tuple #[.agg #[.slice ((g 4).A 0) ((x47.1.t.b).length) ((g 4).C 0), .slice ((g 4).A 1) ((x47.1.t.f).length) ((g 4).C 1), .slice ((g 4).A 2) ((x47.1.c).length) ((g 4).C 2)], .int .i64 x47.2.1, .bool x47.2.2], .tuple #[.agg #[.slice ((g 4).A 0) ((x47.1.t.b).length) ((g 4).C 0), .slice ((g 4).A 1) ((x47.1.t.f).length) ((g 4).C 1), .slice ((g 4).A 2) ((x47.1.c).length) ((g 4).C 2)], .int .i64 x47.2.1, .bool x47.2.2], .agg #[.slice ((g 4).A 0) ((x47.1.t.b).length) ((g 4).C 0), .slice ((g 4).A 1) ((x47.1.t.f).length) ((g 4).C 1), .slice ((g 4).A 2) ((x47.1.c).length) ((g 4).C 2)], .int .i64 x47.2.1, .bool x47.2.2, .pointer (some ⟨((g 9).C 0), 0, none⟩), undef, .int .i64 x47.2.1, .bool x47.2.2] i, U := fun i g => gA [] [[], [], [], [], [(13, ((g 4).R 0)), (14, ((g 4).R 1)), (15, ((g 4).R 2))], [], [], [], [], [(16, [(((g 9).C 0), .cells #[.slice none 0 0, .slice none 0 0, .slice none 0 0] 37 (0, 0))])], [(16, [(((g 9).C 0), .cells #[.slice ((g 4).A 0) ((x47.1.t.b).length) ((g 4).C 0), .slice ((g 4).A 1) ((x47.1.t.f).length) ((g 4).C 1), .slice ((g 4).A 2) ((x47.1.c).length) ((g 4).C 2)] 37 (0, 0))])]] i, Φ := fun i x => match i with | 4 => OwnC 3 (x.A 0) (x.C 0) x47.1.t.b (x.R 0) ∧ OwnC 71 (x.A 1) (x.C 1) x47.1.t.f (x.R 1) ∧ OwnD 53 55 (x.A 2) (x.C 2) x47.1.c (x.R 2) | _ => True } ?_ ?_)))
 ·refine ⟨lc rfl rfl fun hs hh => stp_loadN (us := [_, _, _]) ts37 (sv hs 11 rfl) (Cells.box (id := 12) (hh.get 12 _ rfl) 3 rfl), lM, lc rfl rfl fun hs hh => stp_loadN (us := [_, _]) ts30 (sv hs 5 rfl) (Cells.box (id := 1) (hh.get 1 _ rfl) 2 rfl), ?_, ?_, lM, lT, lT, lT, ?_, ?_, lS, lS, trivial⟩
  ·refine le rfl rfl (fun g hΦ s h hs hh => (stpU_call (fun i => 13 + i) cf13 (fun w hw => c_l_toKey fl w a2 x18 e18) (yA (sv hs 41 rfl)))) ?_
   rintro g _ _ ⟨_, ⟨rfl, rfl⟩, rfl⟩
   exact ⟨⟨[], [], []⟩, trivial, .inr rfl, rfl⟩
  ·refine le rfl rfl (fun g hΦ s h hs hh => (stpU_call (fun i => 13 + i) cf22 (fun w hw => c_i_UnmapSystem fl w x33 a1 x18 rfl (OwnC.pass (id := 9) (hh.get 9 _ rfl) o37 hw) rfl (OwnC.pass (id := 10) (hh.get 10 _ rfl) o41 hw) rfl (OwnD.pass (id := 11) (hh.get 11 _ rfl) o45 hw) (RO.pass hg hw) x47 e47) (yC (sv hs 39 rfl) (sv hs 40 rfl) (sv hs 42 rfl)))) ?_
   rintro g _ _ ⟨_, ⟨p48, _, c50, C51, p52, _, c54, C55, p56, _, c58, C59, rfl, rfl, rfl, o51, rfl, o55, rfl, o59⟩, rfl⟩
   exact ⟨⟨[p48, p52, p56], [c50, c54, c58], [C51, C55, C59]⟩, ⟨o51, o55, o59⟩, .inr rfl, rfl⟩
  ·refine le rfl rfl (fun g hΦ s h hs hh => (stpU_alloc 16 tz37 rfl)) ?_
   rintro g _ _ ⟨b60, rfl, rfl⟩
   exact ⟨⟨[], [b60], []⟩, trivial, .inr rfl, rfl⟩
  refine le rfl rfl (fun g hΦ s h hs hh => (stpU_store (id := 16) (cs' := [.slice ((g 4).A 0) ((x47.1.t.b).length) ((g 4).C 0), .slice ((g 4).A 1) ((x47.1.t.f).length) ((g 4).C 1), .slice ((g 4).A 2) ((x47.1.c).length) ((g 4).C 2)]) ts37 (sv hs 12 rfl) (sv hs 44 rfl) (hh.get 16 _ rfl) rfl rfl rfl rfl)) ?_
  rintro g _ _ rfl
  exact ⟨⟨[], [], []⟩, trivial, .inl rfl, rfl⟩
 intro g hΦ
 refine kw_gen (ι := Option Addr × Option Addr × Option Addr × Nat × Nat × Nat × Res × Res × Res × Nat) (((g 4).A 0), ((g 4).A 1), ((g 4).A 2), ((g 4).C 0), ((g 4).C 1), ((g 4).C 2), ((g 4).R 0), ((g 4).R 1), ((g 4).R 2), ((g 9).C 0)) (fun | (p48, p52, p56, c50, c54, c58, C51, C55, C59, b60) => OwnC 3 p48 c50 x47.1.t.b C51 ∧ OwnC 71 p52 c54 x47.1.t.f C55 ∧ OwnD 53 55 p56 c58 x47.1.c C59) (fun | (p48, p52, p56, c50, c54, c58, C51, C55, C59, b60) => [(1, .int .i64 a1), (3, .pointer (some ⟨b1, 0, none⟩)), (5, .pointer (some ⟨b2, 0, none⟩)), (8, .pointer (some ⟨b32, 0, none⟩)), (9, .int .i64 x19.2.1), (10, .bool x19.2.2), (11, .pointer (some ⟨b46, 0, none⟩)), (12, .pointer (some ⟨b60, 0, none⟩)), (13, .int .i64 x47.2.1), (14, .bool x47.2.2)]) (fun | (p48, p52, p56, c50, c54, c58, C51, C55, C59, b60) => [(0, [(b1, .cells #[.slice p0_0 ((a0.t.b).length) c0_0, .slice p0_1 ((a0.t.f).length) c0_1, .slice p0_2 ((a0.c).length) c0_2] 28 (0, 0))]), (1, [(b2, .cells #[.int .i64 a2.s, .int .i64 a2.p] 30 (0, 0))]), (5, C23), (6, C27), (7, C31), (8, [(b32, .cells #[.slice p20 ((x19.1.t.b).length) c22, .slice p24 ((x19.1.t.f).length) c26, .slice p28 ((x19.1.c).length) c30] 37 (0, 0))]), (9, C37), (10, C41), (11, C45), (12, [(b46, .cells #[.slice p34 ((x33.t.b).length) c36, .slice p38 ((x33.t.f).length) c40, .slice p42 ((x33.c).length) c44] 37 (0, 0))]), (13, C51), (14, C55), (15, C59), (16, [(b60, .cells #[.slice p48 ((x47.1.t.b).length) c50, .slice p52 ((x47.1.t.f).length) c54, .slice p56 ((x47.1.c).length) c58] 37 (0, 0))])]) ⟨(hΦ 4 (by decide)).1, (hΦ 4 (by decide)).2.1, (hΦ 4 (by decide)).2.2⟩ ⟨rfl, rfl, rfl, rfl, rfl, rfl, rfl, rfl, rfl, rfl, trivial⟩ ⟨rfl, rfl, rfl, rfl, rfl, rfl, rfl, rfl, rfl, rfl, rfl, rfl, rfl, rfl, trivial⟩ ?_
 rintro ⟨p48, p52, p56, c50, c54, c58, C51, C55, C59, b60⟩ ⟨o51, o55, o59⟩
 dsimp only
 obtain ⟨x61, e61, H0⟩ := bS H0
 refine kw_nx (cw_seq (sr (oB3 16 ts37 rfl (oB3 8 ts37 rfl (oE (stpU_call (fun i => 17 + i) cf15 (fun w hw => c_l_eqSystem fl w x47.1 x19.1 rfl (OwnC.pass (id := 13) rfl o51 hw) rfl (OwnC.pass (id := 14) rfl o55 hw) rfl (OwnD.pass (id := 15) rfl o59 hw) rfl (OwnC.pass (id := 5) rfl o23 hw) rfl (OwnC.pass (id := 6) rfl o27 hw) rfl (OwnD.pass (id := 7) rfl o31 hw) x61 e61) (yB rfl rfl)) rfl ?_)))))
 rintro _ _ ⟨_, ⟨rfl, rfl⟩, rfl⟩
 obtain ⟨y62, ey62, H0⟩ := bS H0
 refine oK rfl (oM rfl (ow_cutY 4 55 y62 ?_ ?_))
 ·rcases Bool.eq_false_or_eq_true (!x61) with hy62 | hy62
  ·have ey62 := cond_t ey62 hy62
   refine oO rfl hy62 rfl (oO rfl hy62 rfl (oO rfl hy62 rfl (oD (stp_pick_t rfl hy62 rfl) rfl ?_)))
   obtain rfl := sI ey62
   exact ow_nil (jy 4 0)
  have ey62 := cond_f ey62 hy62
  refine oG rfl hy62 (mv rfl) rfl (oG rfl hy62 (mv rfl) rfl (oG rfl hy62 (stp_neq rfl rfl) rfl (oD (stp_pick_f rfl hy62 rfl) rfl ?_)))
  obtain rfl := sI ey62
  exact ow_nil (jy 4 0)
 obtain ⟨y63, ey63, H0⟩ := bS H0
 refine oM rfl (ow_cutY 4 60 y63 ?_ ?_)
 ·rcases Bool.eq_false_or_eq_true y62 with hy63 | hy63
  ·have ey63 := cond_t ey63 hy63
   refine oO rfl hy63 rfl (oO rfl hy63 rfl (oO rfl hy63 rfl (oD (stp_pick_t rfl hy63 rfl) rfl ?_)))
   obtain rfl := sI ey63
   exact ow_nil (jy 4 0)
  have ey63 := cond_f ey63 hy63
  refine oG rfl hy63 (mv rfl) rfl (oG rfl hy63 (mv rfl) rfl (oG rfl hy63 (stp_neqB Tryd.underlying4 rfl rfl) rfl (oD (stp_pick_f rfl hy63 rfl) rfl ?_)))
  obtain rfl := sI ey63
  exact ow_nil (jy 4 0)
 refine ow_nil (kw_nx (cw_cond rfl (fun h64 => ?_) (fun h64 => ?_)))
 ·have H0 := cond_t H0 h64
  refine sr (oS rfl (nn (cw_ret (kw_nx_ret ?_))))
  obtain rfl := sI H0
  exact kr Tryd.results6 (rT rfl) [] ⟨rfl, rfl⟩
 have H0 := cond_f H0 h64
 obtain ⟨x65, e65, H0⟩ := bS H0
 obtain ⟨x78, e78, H0⟩ := bS H0
 refine cw_skip (kw_nx (cw_seq (cw_seq (rdq g_mixed [3, 11] [0, 9, 10, 11, 12] { dst := dS [62, 63, 64, 65, 66], pre := gA [] [[], [], [1], [0, 1, 2], rn 0 4], ids := gA [] [[], [], [17, 18, 19]], rs := rL [[(11, 0)], [(3, 0)], [(62, 2)], [(61, 1), (63, 3)], [(64, 4)]], rh := rL [[(12, 0)], [(0, 0)], [], [(9, 0), (10, 0), (11, 0), (17, 3), (18, 3), (19, 3)]], V := fun i g => gA undef [.agg #[.slice p34 ((x33.t.b).length) c36, .slice p38 ((x33.t.f).length) c40, .slice p42 ((x33.c).length) c44], .agg #[.slice p0_0 ((a0.t.b).length) c0_0, .slice p0_1 ((a0.t.f).length) c0_1, .slice p0_2 ((a0.c).length) c0_2], .agg #[.slice ((g 2).A 0) ((x65.t.b).length) ((g 2).C 0), .slice ((g 2).A 1) ((x65.t.f).length) ((g 2).C 1), .slice ((g 2).A 2) ((x65.c).length) ((g 2).C 2)], .bool x78, .bool (!x78)] i, U := fun i g => gA [] [[], [], [(17, ((g 2).R 0)), (18, ((g 2).R 1)), (19, ((g 2).R 2))]] i, Φ := fun i x => gA True [True, True, OwnC 3 (x.A 0) (x.C 0) x65.t.b (x.R 0) ∧ OwnC 71 (x.A 1) (x.C 1) x65.t.f (x.R 1) ∧ OwnD 53 55 (x.A 2) (x.C 2) x65.c (x.R 2)] i } ?_ ?_))))
 ·refine ⟨lc rfl rfl fun hs hh => stp_loadN (us := [_, _, _]) ts37 (sv hs 11 rfl) (Cells.box (id := 12) (hh.get 12 _ rfl) 3 rfl), lc rfl rfl fun hs hh => stp_loadN (us := [_, _, _]) ts28 (sv hs 3 rfl) (Cells.box (id := 0) (hh.get 0 _ rfl) 3 rfl), ?_, ?_, lc rfl rfl fun hs hh => stp_not (sv hs 64 rfl), trivial⟩
  ·refine le rfl rfl (fun g hΦ s h hs hh => (stpU_call (fun i => 17 + i) cf12 (fun w hw => c_l_toSystem fl w a0 rfl (RO.pass hr0_0 hw) rfl (RO.pass hr0_1 hw) rfl (ROD.pass hr0_2 hw) x65 e65) (yA (sv hs 62 rfl)))) ?_
   rintro g _ _ ⟨_, ⟨p66, _, c68, C69, p70, _, c72, C73, p74, _, c76, C77, rfl, rfl, rfl, o69, rfl, o73, rfl, o77⟩, rfl⟩
   exact ⟨⟨[p66, p70, p74], [c68, c72, c76], [C69, C73, C77]⟩, ⟨o69, o73, o77⟩, .inr rfl, rfl⟩
  refine le rfl rfl (fun g hΦ s h hs hh => (stpU_call (fun i => 20 + i) cf15 (fun w hw => c_l_eqSystem fl w x33 x65 rfl (OwnC.pass (id := 9) (hh.get 9 _ rfl) o37 hw) rfl (OwnC.pass (id := 10) (hh.get 10 _ rfl) o41 hw) rfl (OwnD.pass (id := 11) (hh.get 11 _ rfl) o45 hw) rfl (OwnC.pass (id := 17) (hh.get 17 _ rfl) (hΦ 2 rfl).1 hw) rfl (OwnC.pass (id := 18) (hh.get 18 _ rfl) (hΦ 2 rfl).2.1 hw) rfl (OwnD.pass (id := 19) (hh.get 19 _ rfl) (hΦ 2 rfl).2.2 hw) x78 e78) (yB (sv hs 61 rfl) (sv hs 63 rfl)))) ?_
  rintro g _ _ ⟨_, ⟨rfl, rfl⟩, rfl⟩
  exact ⟨⟨[], [], []⟩, trivial, .inr rfl, rfl⟩
 intro g hΦ
 refine kw_gen (ι := Option Addr × Option Addr × Option Addr × Nat × Nat × Nat × Res × Res × Res) (((g 2).A 0), ((g 2).A 1), ((g 2).A 2), ((g 2).C 0), ((g 2).C 1), ((g 2).C 2), ((g 2).R 0), ((g 2).R 1), ((g 2).R 2)) (fun | (p66, p70, p74, c68, c72, c76, C69, C73, C77) => OwnC 3 p66 c68 x65.t.b C69 ∧ OwnC 71 p70 c72 x65.t.f C73 ∧ OwnD 53 55 p74 c76 x65.c C77) (fun | (p66, p70, p74, c68, c72, c76, C69, C73, C77) => [(1, .int .i64 a1), (3, .pointer (some ⟨b1, 0, none⟩)), (5, .pointer (some ⟨b2, 0, none⟩)), (8, .pointer (some ⟨b32, 0, none⟩)), (9, .int .i64 x19.2.1), (10, .bool x19.2.2), (11, .pointer (some ⟨b46, 0, none⟩)), (12, .pointer (some ⟨b60, 0, none⟩)), (13, .int .i64 x47.2.1), (14, .bool x47.2.2), (65, .bool (!x78))]) (fun | (p66, p70, p74, c68, c72, c76, C69, C73, C77) => [(0, [(b1, .cells #[.slice p0_0 ((a0.t.b).length) c0_0, .slice p0_1 ((a0.t.f).length) c0_1, .slice p0_2 ((a0.c).length) c0_2] 28 (0, 0))]), (1, [(b2, .cells #[.int .i64 a2.s, .int .i64 a2.p] 30 (0, 0))]), (5, C23), (6, C27), (7, C31), (8, [(b32, .cells #[.slice p20 ((x19.1.t.b).length) c22, .slice p24 ((x19.1.t.f).length) c26, .slice p28 ((x19.1.c).length) c30] 37 (0, 0))]), (9, C37), (10, C41), (11, C45), (12, [(b46, .cells #[.slice p34 ((x33.t.b).length) c36, .slice p38 ((x33.t.f).length) c40, .slice p42 ((x33.c).length) c44] 37 (0, 0))]), (13, C51), (14, C55), (15, C59), (16, [(b60, .cells #[.slice p48 ((x47.1.t.b).length) c50, .slice p52 ((x47.1.t.f).length) c54, .slice p56 ((x47.1.c).length) c58] 37 (0, 0))])]) ⟨(hΦ 2 (by decide)).1, (hΦ 2 (by decide)).2.1, (hΦ 2 (by decide)).2.2⟩ ⟨rfl, rfl, rfl, rfl, rfl, rfl, rfl, rfl, rfl, rfl, rfl, trivial⟩ ⟨rfl, rfl, rfl, rfl, rfl, rfl, rfl, rfl, rfl, rfl, rfl, rfl, rfl, rfl, trivial⟩ ?_
 rintro ⟨p66, p70, p74, c68, c72, c76, C69, C73, C77⟩ ⟨o69, o73, o77⟩
 dsimp only
 refine kw_nx (cw_cond rfl (fun h79 => ?_) (fun h79 => ?_))
 ·have H0 := cond_t H0 h79
  refine sr (oS rfl (nn (cw_ret (kw_nx_ret ?_))))
  obtain rfl := sI H0
  exact kr Tryd.results6 (rT rfl) [] ⟨rfl, rfl⟩
 have H0 := cond_f H0 h79
 obtain ⟨x80, e80, H0⟩ := bS H0
 refine cw_skip (kw_nx (sr (oS rfl (nn (sr (oB3 12 ts37 rfl (oM rfl (oE (stpU_callM (fun i => bif Nat.beq i 0 then 9 else bif Nat.beq i 1 then 10 else bif Nat.beq i 2 then 11 else 20 + i) cf16 (fun w hw hb => c_l_markSystem fl w x33 1 rfl o37 rfl o41 rfl o45 (hw.pass (js := [9, 10, 11]) ⟨9, [10, 11], rfl, rfl, 10, [11], rfl, rfl, 11, [], rfl, rfl, trivial⟩ (by decide)) x80 e80) (yB rfl rfl) ⟨rfl, (fun _ _ hp => by obtain ⟨_, _, _, _, rfl, _⟩ := hp; exact ⟨_, rfl⟩), rfl, (fun _ _ hp => by obtain ⟨_, _, _, _, rfl, _⟩ := hp; exact ⟨_, rfl⟩), rfl, (fun _ _ hp => by obtain ⟨_, _, _, _, rfl, _⟩ := hp; exact ⟨_, rfl⟩), trivial⟩) rfl ?_))))))))
 rintro _ _ ⟨_, ⟨C81, C82, C83, rfl, rfl, hl81, o81, hl82, o82, hl83, o83⟩, rfl⟩
 obtain ⟨y84, ey84, H0⟩ := bS H0
 refine oS rfl (nn (cw_seq (sr (oM rfl (oW rfl (oM rfl (ow_cutY 5 76 y84 ?_ ?_)))))))
 ·rcases Bool.eq_false_or_eq_true (decide (x80.1 < 0)) with hy84 | hy84
  ·have ey84 := cond_t ey84 hy84
   refine oO rfl hy84 rfl (oO rfl hy84 rfl (oO rfl hy84 rfl (oO rfl hy84 rfl (oD (stp_pick_t rfl hy84 rfl) rfl ?_))))
   obtain rfl := sI ey84
   exact ow_nil (jy 5 0)
  have ey84 := cond_f ey84 hy84
  refine oG rfl hy84 (stp_loadN (us := [_, _, _]) ts37 rfl (Cells.box (id := 16) rfl 3 rfl)) rfl (oG rfl hy84 (stp_loadN (us := [_, _, _]) ts37 rfl (Cells.box (id := 8) rfl 3 rfl)) rfl (ow_eff (.some rfl hy84) (stpU_call (fun i => 23 + i) cf15 (fun w hw => c_l_eqSystem fl w x47.1 x19.1 rfl (OwnC.pass (id := 13) rfl o51 hw) rfl (OwnC.pass (id := 14) rfl o55 hw) rfl (OwnD.pass (id := 15) rfl o59 hw) rfl (OwnC.pass (id := 5) rfl o23 hw) rfl (OwnC.pass (id := 6) rfl o27 hw) rfl (OwnD.pass (id := 7) rfl o31 hw) x61 e61) (yB rfl rfl)) rfl ?_))
  rintro _ _ ⟨_, ⟨rfl, rfl⟩, rfl⟩
  refine oG rfl hy84 (stp_not rfl) rfl (oD (stp_pick_f rfl hy84 rfl) rfl ?_)
  obtain rfl := sI ey84
  exact ow_nil (jy 5 0)
 obtain ⟨y85, ey85, H0⟩ := bS H0
 refine oM rfl (ow_cutY 4 81 y85 ?_ ?_)
 ·rcases Bool.eq_false_or_eq_true y84 with hy85 | hy85
  ·have ey85 := cond_t ey85 hy85
   refine oO rfl hy85 rfl (oO rfl hy85 rfl (oO rfl hy85 rfl (oD (stp_pick_t rfl hy85 rfl) rfl ?_)))
   obtain rfl := sI ey85
   exact ow_nil (jy 4 0)
  have ey85 := cond_f ey85 hy85
  refine oG rfl hy85 (mv rfl) rfl (oG rfl hy85 (mv rfl) rfl (oG rfl hy85 (stp_neq rfl rfl) rfl (oD (stp_pick_f rfl hy85 rfl) rfl ?_)))
  obtain rfl := sI ey85
  exact ow_nil (jy 4 0)
 obtain ⟨y86, ey86, H0⟩ := bS H0
 refine oM rfl (ow_cutY 4 86 y86 ?_ ?_)
 ·rcases Bool.eq_false_or_eq_true y85 with hy86 | hy86
  ·have ey86 := cond_t ey86 hy86
   refine oO rfl hy86 rfl (oO rfl hy86 rfl (oO rfl hy86 rfl (oD (stp_pick_t rfl hy86 rfl) rfl ?_)))
   obtain rfl := sI ey86
   exact ow_nil (jy 4 0)
  have ey86 := cond_f ey86 hy86
  refine oG rfl hy86 (mv rfl) rfl (oG rfl hy86 (mv rfl) rfl (oG rfl hy86 (stp_neqB Tryd.underlying4 rfl rfl) rfl (oD (stp_pick_f rfl hy86 rfl) rfl ?_)))
  obtain rfl := sI ey86
  exact ow_nil (jy 4 0)
 refine ow_nil (kw_nx (cw_cond rfl (fun h87 => ?_) (fun h87 => ?_)))
 ·have H0 := cond_t H0 h87
  refine sr (oS rfl (nn (cw_ret (kw_nx_ret ?_))))
  obtain rfl := sI H0
  exact kr Tryd.results6 (rT rfl) [] ⟨rfl, rfl⟩
 have H0 := cond_f H0 h87
 obtain ⟨x88, e88, H0⟩ := bS H0
 refine cw_skip (kw_nx (sr (oS rfl (nn (sr (oB3 16 ts37 rfl (oM rfl (oE (stpU_callM (fun i => bif Nat.beq i 0 then 13 else bif Nat.beq i 1 then 14 else bif Nat.beq i 2 then 15 else 23 + i) cf16 (fun w hw hb => c_l_markSystem fl w x47.1 1 rfl o51 rfl o55 rfl o59 (hw.pass (js := [13, 14, 15]) ⟨13, [14, 15], rfl, rfl, 14, [15], rfl, rfl, 15, [], rfl, rfl, trivial⟩ (by decide)) x88 e88) (yB rfl rfl) ⟨rfl, (fun _ _ hp => by obtain ⟨_, _, _, _, rfl, _⟩ := hp; exact ⟨_, rfl⟩), rfl, (fun _ _ hp => by obtain ⟨_, _, _, _, rfl, _⟩ := hp; exact ⟨_, rfl⟩), rfl, (fun _ _ hp => by obtain ⟨_, _, _, _, rfl, _⟩ := hp; exact ⟨_, rfl⟩), trivial⟩) rfl ?_))))))))
 rintro _ _ ⟨_, ⟨C89, C90, C91, rfl, rfl, hl89, o89, hl90, o90, hl91, o91⟩, rfl⟩
 obtain ⟨x92, e92, H0⟩ := bS H0
 refine oS rfl (nn (sr (oS rfl (nn (sr (oB3 16 ts37 rfl (oM rfl (oE (stpU_call (fun i => 26 + i) cf17 (fun w hw => c_l_heldSystem fl w (⟨(⟨x88.2.1, x88.2.2.1⟩ : T), x88.2.2.2⟩ : Sy) 1 (by simp [hl89]) (OwnC.pass (id := 13) rfl o89 hw) (by simp [hl90]) (OwnC.pass (id := 14) rfl o90 hw) (by simp [hl91]) (OwnD.pass (id := 15) rfl o91 hw) x92 e92) (yB rfl rfl)) rfl ?_))))))))
 rintro _ _ ⟨_, ⟨rfl, rfl⟩, rfl⟩
 refine oS rfl (nn (cw_seq (sr (oM rfl (oW rfl (nn (cw_cond rfl (fun h93 => ?_) (fun h93 => ?_))))))))
 ·have H0 := cond_t H0 h93
  refine sr (oS rfl (nn (cw_ret (kw_nx_ret ?_))))
  obtain rfl := sI H0
  exact kr Tryd.results6 (rT rfl) [] ⟨rfl, rfl⟩
 have H0 := cond_f H0 h93
 refine cw_skip (kw_nx (cw_seq (sr (oM rfl (oM rfl (oU rfl (nn (cw_cond rfl (fun h94 => ?_) (fun h94 => ?_)))))))))
 ·have H0 := cond_t H0 h94
  refine sr (oS rfl (nn (cw_ret (kw_nx_ret ?_))))
  obtain rfl := sI H0
  exact kr Tryd.results6 (rT rfl) [] ⟨rfl, rfl⟩
 have H0 := cond_f H0 h94
 obtain ⟨x95, e95, H0⟩ := bS H0
 obtain ⟨x108, e108, H0⟩ := bS H0
 refine cw_skip (kw_nx (cw_seq (rdq g_mixed [1, 3, 5] [0, 1] { dst := dS [100, 101, 102, 103, 104, 105, 99, 106, 107, 108, 19, 0, 20, 21], pre := gA [] [[], [0], [], [], [0, 1, 3], rn 0 5, rn 0 6, rn 0 7, rn 0 7, rn 0 7, [], [0, 1, 2, 3, 4, 5, 6, 7, 10], [0, 1, 2, 3, 4, 5, 6, 7, 8, 10, 11], rn 0 13], ids := gA [] [[], [26, 27, 28], [], [], [], [29, 30, 31], [], [], [], [], [32], [32]], rs := rL [[(3, 0)], [(99, 1)], [(1, 0)], [(5, 0)], [(102, 4)], [(100, 2), (101, 3), (103, 5)], [(104, 6)], [(98, 7)], [(98, 7)], [(98, 7)], [], [(18, 11), (105, 8)], [(106, 9)], [(107, 10)]], rh := rL [[(0, 0)], [], [], [(1, 0)], [], [(26, 2), (27, 2), (28, 2)], [], [], [], [], [], [(32, 11)]], V := fun i g => gA undef [.agg #[.slice p0_0 ((a0.t.b).length) c0_0, .slice p0_1 ((a0.t.f).length) c0_1, .slice p0_2 ((a0.c).length) c0_2], .agg #[.slice ((g 1).A 0) ((x95.t.b).length) ((g 1).C 0), .slice ((g 1).A 1) ((x95.t.f).length) ((g 1).C 1), .slice ((g 1).A 2) ((x95.c).length) ((g 1).C 2)], .int .i64 a1, .agg #[.int .i64 a2.s, .int .i64 a2.p], .agg #[.int .i64 x18.s, .int .i64 x18.p], .tuple #[.agg #[.slice ((g 5).A 0) ((x108.1.t.b).length) ((g 5).C 0), .slice ((g 5).A 1) ((x108.1.t.f).length) ((g 5).C 1), .slice ((g 5).A 2) ((x108.1.c).length) ((g 5).C 2)], .int .i64 x108.2.1, .bool x108.2.2], .tuple #[.agg #[.slice ((g 5).A 0) ((x108.1.t.b).length) ((g 5).C 0), .slice ((g 5).A 1) ((x108.1.t.f).length) ((g 5).C 1), .slice ((g 5).A 2) ((x108.1.c).length) ((g 5).C 2)], .int .i64 x108.2.1, .bool x108.2.2], .agg #[.slice ((g 5).A 0) ((x108.1.t.b).length) ((g 5).C 0), .slice ((g 5).A 1) ((x108.1.t.f).length) ((g 5).C 1), .slice ((g 5).A 2) ((x108.1.c).length) ((g 5).C 2)], .int .i64 x108.2.1, .bool x108.2.2, .pointer (some ⟨((g 10).C 0), 0, none⟩), undef, .int .i64 x108.2.1, .bool x108.2.2] i, U := fun i g => gA [] [[], [(26, ((g 1).R 0)), (27, ((g 1).R 1)), (28, ((g 1).R 2))], [], [], [], [(29, ((g 5).R 0)), (30, ((g 5).R 1)), (31, ((g 5).R 2))], [], [], [], [], [(32, [(((g 10).C 0), .cells #[.slice none 0 0, .slice none 0 0, .slice none 0 0] 37 (0, 0))])], [(32, [(((g 10).C 0), .cells #[.slice ((g 5).A 0) ((x108.1.t.b).length) ((g 5).C 0), .slice ((g 5).A 1) ((x108.1.t.f).length) ((g 5).C 1), .slice ((g 5).A 2) ((x108.1.c).length) ((g 5).C 2)] 37 (0, 0))])]] i, Φ := fun i x => gA True [True, OwnC 3 (x.A 0) (x.C 0) x95.t.b (x.R 0) ∧ OwnC 71 (x.A 1) (x.C 1) x95.t.f (x.R 1) ∧ OwnD 53 55 (x.A 2) (x.C 2) x95.c (x.R 2), True, True, True, OwnC 3 (x.A 0) (x.C 0) x108.1.t.b (x.R 0) ∧ OwnC 71 (x.A 1) (x.C 1) x108.1.t.f (x.R 1) ∧ OwnD 53 55 (x.A 2) (x.C 2) x108.1.c (x.R 2)] i } ?_ ?_)))
 ·refine ⟨lc rfl rfl fun hs hh => stp_loadN (us := [_, _, _]) ts28 (sv hs 3 rfl) (Cells.box (id := 0) (hh.get 0 _ rfl) 3 rfl), ?_, lM, lc rfl rfl fun hs hh => stp_loadN (us := [_, _]) ts30 (sv hs 5 rfl) (Cells.box (id := 1) (hh.get 1 _ rfl) 2 rfl), ?_, ?_, lM, lT, lT, lT, ?_, ?_, lS, lS, trivial⟩
  ·refine le rfl rfl (fun g hΦ s h hs hh => (stpU_call (fun i => 26 + i) cf12 (fun w hw => c_l_toSystem fl w a0 rfl (RO.pass hr0_0 hw) rfl (RO.pass hr0_1 hw) rfl (ROD.pass hr0_2 hw) x95 e95) (yA (sv hs 99 rfl)))) ?_
   rintro g _ _ ⟨_, ⟨p96, _, c98, C99, p100, _, c102, C103, p104, _, c106, C107, rfl, rfl, rfl, o99, rfl, o103, rfl, o107⟩, rfl⟩
   exact ⟨⟨[p96, p100, p104], [c98, c102, c106], [C99, C103, C107]⟩, ⟨o99, o103, o107⟩, .inr rfl, rfl⟩
  ·refine le rfl rfl (fun g hΦ s h hs hh => (stpU_call (fun i => 29 + i) cf13 (fun w hw => c_l_toKey fl w a2 x18 e18) (yA (sv hs 102 rfl)))) ?_
   rintro g _ _ ⟨_, ⟨rfl, rfl⟩, rfl⟩
   exact ⟨⟨[], [], []⟩, trivial, .inr rfl, rfl⟩
  ·refine le rfl rfl (fun g hΦ s h hs hh => (stpU_call (fun i => 29 + i) cf22 (fun w hw => c_i_UnmapSystem fl w x95 a1 x18 rfl (OwnC.pass (id := 26) (hh.get 26 _ rfl) (hΦ 1 rfl).1 hw) rfl (OwnC.pass (id := 27) (hh.get 27 _ rfl) (hΦ 1 rfl).2.1 hw) rfl (OwnD.pass (id := 28) (hh.get 28 _ rfl) (hΦ 1 rfl).2.2 hw) (RO.pass hg hw) x108 e108) (yC (sv hs 100 rfl) (sv hs 101 rfl) (sv hs 103 rfl)))) ?_
   rintro g _ _ ⟨_, ⟨p109, _, c111, C112, p113, _, c115, C116, p117, _, c119, C120, rfl, rfl, rfl, o112, rfl, o116, rfl, o120⟩, rfl⟩
   exact ⟨⟨[p109, p113, p117], [c111, c115, c119], [C112, C116, C120]⟩, ⟨o112, o116, o120⟩, .inr rfl, rfl⟩
  ·refine le rfl rfl (fun g hΦ s h hs hh => (stpU_alloc 32 tz37 rfl)) ?_
   rintro g _ _ ⟨b121, rfl, rfl⟩
   exact ⟨⟨[], [b121], []⟩, trivial, .inr rfl, rfl⟩
  refine le rfl rfl (fun g hΦ s h hs hh => (stpU_store (id := 32) (cs' := [.slice ((g 5).A 0) ((x108.1.t.b).length) ((g 5).C 0), .slice ((g 5).A 1) ((x108.1.t.f).length) ((g 5).C 1), .slice ((g 5).A 2) ((x108.1.c).length) ((g 5).C 2)]) ts37 (sv hs 18 rfl) (sv hs 105 rfl) (hh.get 32 _ rfl) rfl rfl rfl rfl)) ?_
  rintro g _ _ rfl
  exact ⟨⟨[], [], []⟩, trivial, .inl rfl, rfl⟩
 intro g hΦ
 refine kw_gen (ι := Option Addr × Option Addr × Option Addr × Nat × Nat × Nat × Res × Res × Res × Option Addr × Option Addr × Option Addr × Nat × Nat × Nat × Res × Res × Res × Nat) (((g 1).A 0), ((g 1).A 1), ((g 1).A 2), ((g 1).C 0), ((g 1).C 1), ((g 1).C 2), ((g 1).R 0), ((g 1).R 1), ((g 1).R 2), ((g 5).A 0), ((g 5).A 1), ((g 5).A 2), ((g 5).C 0), ((g 5).C 1), ((g 5).C 2), ((g 5).R 0), ((g 5).R 1), ((g 5).R 2), ((g 10).C 0)) (fun | (p96, p100, p104, c98, c102, c106, C99, C103, C107, p109, p113, p117, c111, c115, c119, C112, C116, C120, b121) => OwnC 3 p96 c98 x95.t.b C99 ∧ OwnC 71 p100 c102 x95.t.f C103 ∧ OwnD 53 55 p104 c106 x95.c C107 ∧ OwnC 3 p109 c111 x108.1.t.b C112 ∧ OwnC 71 p113 c115 x108.1.t.f C116 ∧ OwnD 53 55 p117 c119 x108.1.c C120) (fun | (p96, p100, p104, c98, c102, c106, C99, C103, C107, p109, p113, p117, c111, c115, c119, C112, C116, C120, b121) => [(8, .pointer (some ⟨b32, 0, none⟩)), (9, .int .i64 x19.2.1), (10, .bool x19.2.2), (12, .pointer (some ⟨b60, 0, none⟩)), (16, .int .i64 x88.1), (18, .pointer (some ⟨b121, 0, none⟩)), (19, .int .i64 x108.2.1), (20, .bool x108.2.2)]) (fun | (p96, p100, p104, c98, c102, c106, C99, C103, C107, p109, p113, p117, c111, c115, c119, C112, C116, C120, b121) => [(5, C23), (6, C27), (7, C31), (8, [(b32, .cells #[.slice p20 ((x19.1.t.b).length) c22, .slice p24 ((x19.1.t.f).length) c26, .slice p28 ((x19.1.c).length) c30] 37 (0, 0))]), (13, C89), (14, C90), (15, C91), (16, [(b60, .cells #[.slice p48 ((x47.1.t.b).length) c50, .slice p52 ((x47.1.t.f).length) c54, .slice p56 ((x47.1.c).length) c58] 37 (0, 0))]), (29, C112), (30, C116), (31, C120), (32, [(b121, .cells #[.slice p109 ((x108.1.t.b).length) c111, .slice p113 ((x108.1.t.f).length) c115, .slice p117 ((x108.1.c).length) c119] 37 (0, 0))])]) ⟨(hΦ 1 (by decide)).1, (hΦ 1 (by decide)).2.1, (hΦ 1 (by decide)).2.2, (hΦ 5 (by decide)).1, (hΦ 5 (by decide)).2.1, (hΦ 5 (by decide)).2.2⟩ ⟨rfl, rfl, rfl, rfl, rfl, rfl, rfl, rfl, trivial⟩ ⟨rfl, rfl, rfl, rfl, rfl, rfl, rfl, rfl, rfl, rfl, rfl, rfl, trivial⟩ ?_
 rintro ⟨p96, p100, p104, c98, c102, c106, C99, C103, C107, p109, p113, p117, c111, c115, c119, C112, C116, C120, b121⟩ ⟨o99, o103, o107, o112, o116, o120⟩
 dsimp only
 obtain ⟨x122, e122, H0⟩ := bS H0
 refine kw_nx (cw_seq (sr (oB3 32 ts37 rfl (oB3 8 ts37 rfl (oE (stpU_call (fun i => 33 + i) cf15 (fun w hw => c_l_eqSystem fl w x108.1 x19.1 rfl (OwnC.pass (id := 29) rfl o112 hw) rfl (OwnC.pass (id := 30) rfl o116 hw) rfl (OwnD.pass (id := 31) rfl o120 hw) rfl (OwnC.pass (id := 5) rfl o23 hw) rfl (OwnC.pass (id := 6) rfl o27 hw) rfl (OwnD.pass (id := 7) rfl o31 hw) x122 e122) (yB rfl rfl)) rfl ?_)))))
 rintro _ _ ⟨_, ⟨rfl, rfl⟩, rfl⟩
 obtain ⟨y123, ey123, H0⟩ := bS H0
 refine oK rfl (oM rfl (ow_cutY 4 116 y123 ?_ ?_))
 ·rcases Bool.eq_false_or_eq_true (!x122) with hy123 | hy123
  ·have ey123 := cond_t ey123 hy123
   refine oO rfl hy123 rfl (oO rfl hy123 rfl (oO rfl hy123 rfl (oD (stp_pick_t rfl hy123 rfl) rfl ?_)))
   obtain rfl := sI ey123
   exact ow_nil (jy 4 0)
  have ey123 := cond_f ey123 hy123
  refine oG rfl hy123 (mv rfl) rfl (oG rfl hy123 (mv rfl) rfl (oG rfl hy123 (stp_neq rfl rfl) rfl (oD (stp_pick_f rfl hy123 rfl) rfl ?_)))
  obtain rfl := sI ey123
  exact ow_nil (jy 4 0)
 obtain ⟨y124, ey124, H0⟩ := bS H0
 refine oM rfl (ow_cutY 4 121 y124 ?_ ?_)
 ·rcases Bool.eq_false_or_eq_true y123 with hy124 | hy124
  ·have ey124 := cond_t ey124 hy124
   refine oO rfl hy124 rfl (oO rfl hy124 rfl (oO rfl hy124 rfl (oD (stp_pick_t rfl hy124 rfl) rfl ?_)))
   obtain rfl := sI ey124
   exact ow_nil (jy 4 0)
  have ey124 := cond_f ey124 hy124
  refine oG rfl hy124 (mv rfl) rfl (oG rfl hy124 (mv rfl) rfl (oG rfl hy124 (stp_neqB Tryd.underlying4 rfl rfl) rfl (oD (stp_pick_f rfl hy124 rfl) rfl ?_)))
  obtain rfl := sI ey124
  exact ow_nil (jy 4 0)
 refine ow_nil (kw_nx (cw_cond rfl (fun h125 => ?_) (fun h125 => ?_)))
 ·have H0 := cond_t H0 h125
  refine sr (oS rfl (nn (cw_ret (kw_nx_ret ?_))))
  obtain rfl := sI H0
  exact kr Tryd.results6 (rT rfl) [] ⟨rfl, rfl⟩
 have H0 := cond_f H0 h125
 refine cw_skip (kw_nx (sr (oS rfl (nn (sr (oB3 16 ts37 rfl (oM rfl (oE (stpU_call (fun i => 33 + i) cf17 (fun w hw => c_l_heldSystem fl w (⟨(⟨x88.2.1, x88.2.2.1⟩ : T), x88.2.2.2⟩ : Sy) 1 (by simp [hl89]) (OwnC.pass (id := 13) rfl o89 hw) (by simp [hl90]) (OwnC.pass (id := 14) rfl o90 hw) (by simp [hl91]) (OwnD.pass (id := 15) rfl o91 hw) x92 e92) (yB rfl rfl)) rfl ?_))))))))
 rintro _ _ ⟨_, ⟨rfl, rfl⟩, rfl⟩
 refine oS rfl (nn (cw_seq (sr (oM rfl (oW rfl (nn (cw_cond rfl (fun h126 => ?_) (fun h126 => ?_))))))))
 ·have H0 := cond_t H0 h126
  refine sr (oS rfl (nn (cw_ret (kw_nx_ret ?_))))
  obtain rfl := sI H0
  exact kr Tryd.results6 (rT rfl) [] ⟨rfl, rfl⟩
 have H0 := cond_f H0 h126
 refine cw_skip (kw_nx (cw_seq (sr (oM rfl (oM rfl (oU rfl (nn (cw_cond rfl (fun h127 => ?_) (fun h127 => ?_)))))))))
 ·have H0 := cond_t H0 h127
  refine sr (oS rfl (nn (cw_ret (kw_nx_ret ?_))))
  obtain rfl := sI H0
  exact kr Tryd.results6 (rT rfl) [] ⟨rfl, rfl⟩
 have H0 := cond_f H0 h127
 refine cw_skip (kw_nx (sr (oS rfl (nn (cw_ret ?_)))))
 obtain rfl := sI H0
 exact kr Tryd.results6 (rT rfl) [] ⟨rfl, rfl⟩
end Go.Proofs.YtfnliecmagnkdabDoor
