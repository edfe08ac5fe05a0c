/- The walks: functions of the program return what their pure functions say. Printed by a program (gen.py). -/
import Derived.Test.YtfnliecmagnkdabDoorBp
import Derived.Test.YtfnliecmagnkdabDoorBt
import Derived.Test.YtfnliecmagnkdabDoorMan
import Derived.Test.YtfnliecmagnkdabDoorMap
import Derived.Test.YtfnliecmagnkdabDoorCpy
import Derived.Test.YtfnliecmagnkdabDoorClr
import Derived.Test.YtfnliecmagnkdabDoorDp
import Derived.Test.YtfnliecmagnkdabDoorSrt
import Derived.Test.YtfnliecmagnkdabDoorE8
import Derived.Test.YtfnliecmagnkdabDoorBwab
set_option linter.unusedSimpArgs false
set_option linter.unusedVariables false
set_option linter.unusedSectionVars false
namespace Go.Proofs.YtfnliecmagnkdabDoor
open Go.RowKit
set_option maxHeartbeats 4000000
set_option maxRecDepth 20000
variable {p0_0 p0_1 p0_2 : Option Addr} {n0_0 n0_1 n0_2 : Nat} {c0_0 c0_1 c0_2 : Nat}
theorem c_s_l8Right (fl : Nat) (w : World) (a0 : Sy) (a1 : Int) (hn0_0 : n0_0 = (a0.t.b).length) (hr0_0 : RO w (hkeys []) (RdL p0_0 c0_0 a0.t.b)) (hn0_1 : n0_1 = (a0.t.f).length) (hr0_1 : RO w (hkeys []) (RdL p0_1 c0_1 a0.t.f)) (hn0_2 : n0_2 = (a0.c).length) (hr0_2 : ROD w (hkeys []) p0_2 c0_2 a0.c) (r : Bool) (H0 : s_l8Right fl a0 a1 = some r) :
  Ct Tryd.prog 37 [.agg #[.slice p0_0 n0_0 c0_0, .slice p0_1 n0_1 c0_1, .slice p0_2 n0_2 c0_2], .int .i64 a1] w [] (fun rv h' => rv = .bool r ∧ h' = []) := by
 subst hn0_0 hn0_1 hn0_2
 unfold s_l8Right at H0
 refine ct_of_cw Tryd.func37 rfl Tryd.ntmps37 rfl (Sat.refl _ _) ?_
 refine sr (oE (stpU_box 0 rfl rfl) rfl ?_)
 rintro _ _ ⟨b1, rfl, rfl⟩
 obtain ⟨x2, e2, H0⟩ := bS H0
 refine oS rfl (nn (sr (oB3 0 ts37 rfl (oE (stpU_call (fun i => 1 + i) cf66 (fun w hw => c_s_SystemValid fl w a0 rfl (RO.pass hr0_0 hw) rfl (RO.pass hr0_1 hw) rfl (ROD.pass hr0_2 hw) x2 e2) (yA rfl)) rfl ?_))))
 rintro _ _ ⟨_, ⟨rfl, rfl⟩, rfl⟩
 obtain ⟨y3, ey3, H0⟩ := bS H0
 refine oM rfl (ow_cutY 3 10 y3 ?_ ?_)
 ·rcases Bool.eq_false_or_eq_true x2 with hy3 | hy3
  ·have ey3 := cond_t ey3 hy3
   refine oG rfl hy3 (mv rfl) rfl (oG rfl hy3 (stp_geq rfl rfl) rfl (oD (stp_pick_t rfl hy3 rfl) rfl ?_))
   obtain rfl := sI ey3
   exact ow_nil (jy 3 0)
  have ey3 := cond_f ey3 hy3
  refine oO rfl hy3 rfl (oO rfl hy3 rfl (oD (stp_pick_f rfl hy3 rfl) rfl ?_))
  obtain rfl := sI ey3
  exact ow_nil (jy 3 0)
 obtain ⟨y4, ey4, H0⟩ := bS H0
 refine oM rfl (ow_cutY 6 17 y4 ?_ ?_)
 ·rcases Bool.eq_false_or_eq_true y3 with hy4 | hy4
  ·have ey4 := cond_t ey4 hy4
   refine oG rfl hy4 (mv rfl) rfl (oG rfl hy4 (fA 2 Tryd.underlying37 rfl ts35 rfl rfl rfl) rfl (oG rfl hy4 (lB 0 ts35 rfl rfl rfl) rfl (oG rfl hy4 (stp_len Tryd.underlying35 rfl) rfl (oG rfl hy4 (stp_lss rfl rfl) rfl (oD (stp_pick_t rfl hy4 rfl) rfl ?_)))))
   obtain rfl := sI ey4
   exact ow_nil (jy 6 0)
  have ey4 := cond_f ey4 hy4
  refine oO rfl hy4 rfl (oO rfl hy4 rfl (oO rfl hy4 rfl (oO rfl hy4 rfl (oO rfl hy4 rfl (oD (stp_pick_f rfl hy4 rfl) rfl ?_)))))
  obtain rfl := sI ey4
  exact ow_nil (jy 6 0)
 refine oS rfl (nn (cw_ret ?_))
 obtain rfl := sI H0
 exact kr Tryd.results37 (rT rfl) [] ⟨rfl, rfl⟩

theorem c_s_l3Copy (fl : Nat) (w : World) (a0 : T) (hn0_0 : n0_0 = (a0.b).length) (hr0_0 : RO w (hkeys []) (RdL p0_0 c0_0 a0.b)) (hn0_1 : n0_1 = (a0.f).length) (hr0_1 : RO w (hkeys []) (RdL p0_1 c0_1 a0.f)) (r : T) (H0 : s_l3Copy fl a0 = some r) :
  Ct Tryd.prog 89 [.agg #[.slice p0_0 n0_0 c0_0, .slice p0_1 n0_1 c0_1]] w [] (fun rv h' => ∃ (x0 : Option Addr) (y0 z0 : Nat) (C0 : Res) (x1 : Option Addr) (y1 z1 : Nat) (C1 : Res), rv = .agg #[.slice x0 y0 z0, .slice x1 y1 z1] ∧ h' = [(0, C0), (1, C1)] ∧ y0 = (r.b).length ∧ OwnC 3 x0 z0 r.b C0 ∧ y1 = (r.f).length ∧ OwnC 71 x1 z1 r.f C1) := by
 subst hn0_0 hn0_1
 unfold s_l3Copy at H0
 refine ct_of_cw Tryd.func89 rfl Tryd.ntmps89 rfl (Sat.refl _ _) ?_
 refine sr (oE (stpU_box 0 rfl rfl) rfl ?_)
 rintro _ _ ⟨b1, rfl, rfl⟩
 refine oE (stpU_alloc 1 tz34 rfl) rfl ?_
 rintro _ _ ⟨b2, rfl, rfl⟩
 obtain ⟨x5, e5, H0⟩ := bS H0
 obtain ⟨x11, e11, H0⟩ := bS H0
 refine nn (cw_seq (rdq g_mixed [1, 2] [0, 1] { dst := dS [4, 5, 6, 7, 8, 9, 10, 11, 12, 0], pre := gA [] [[], [], [1], [0, 1, 2], [], [], [5], rn 0 7, rn 0 8, rn 0 9], ids := gA [] [[2], [], [], [2], [3], [], [], [3], [], [1]], rs := rL [[], [(1, 0)], [(4, 2)], [(3, 1), (5, 3)], [], [(1, 0)], [(8, 6)], [(7, 5), (9, 7)], [(6, 4), (10, 8)], [(2, 0), (11, 9)]], rh := rL [[], [], [(0, 0)], [(2, 1)], [], [], [(0, 0)], [(3, 5)], [], [(1, 0)]], V := fun i g => gA undef [.slice ((g 0).A 0) 0 0, .pointer (some ⟨b1, 0, none⟩), .slice p0_0 ((a0.b).length) c0_0, .slice ((g 3).A 0) ((x5).length) ((g 3).C 0), .slice ((g 4).A 0) 0 0, .pointer (some ⟨b1, 1, none⟩), .slice p0_1 ((a0.f).length) c0_1, .slice ((g 7).A 0) ((x11).length) ((g 7).C 0), .agg #[.slice ((g 3).A 0) ((x5).length) ((g 3).C 0), .slice ((g 7).A 0) ((x11).length) ((g 7).C 0)]] i, U := fun i g => gA [] [[(2, ((g 0).R 0))], [], [], [(2, ((g 3).R 0))], [(3, ((g 4).R 0))], [], [], [(3, ((g 7).R 0))], [], [(1, [(b2, .cells #[.slice ((g 3).A 0) ((x5).length) ((g 3).C 0), .slice ((g 7).A 0) ((x11).length) ((g 7).C 0)] 34 (0, 0))])]] i, Φ := fun i x => gA True [OwnC (α := Int) 3 (x.A 0) 0 ([] : List Int) (x.R 0), True, True, OwnC 3 (x.A 0) (x.C 0) x5 (x.R 0), OwnC (α := F) 71 (x.A 0) 0 ([] : List F) (x.R 0), True, True, OwnC 71 (x.A 0) (x.C 0) x11 (x.R 0)] i } ?_ ?_))
 ·refine ⟨?_, lc rfl rfl fun hs hh => stp_fieldAddr (j := 0) Tryd.underlying34 rfl ts22 rfl (sv hs 1 rfl) rfl, lc rfl rfl fun hs hh => stp_load1 ts22 (sv hs 4 rfl) (Cells.box (id := 0) (hh.get 0 _ rfl) 1 rfl), ?_, ?_, lc rfl rfl fun hs hh => stp_fieldAddr (j := 1) Tryd.underlying34 rfl ts32 rfl (sv hs 1 rfl) rfl, lc rfl rfl fun hs hh => stp_load1 ts32 (sv hs 8 rfl) (Cells.box (id := 0) (hh.get 0 _ rfl) 1 rfl), ?_, ld rfl rfl fun g hΦ s h hs hh => stp_build (cs := #[.slice ((g 3).A 0) ((x5).length) ((g 3).C 0), .slice ((g 7).A 0) ((x11).length) ((g 7).C 0)]) (sevp_cons (sv hs 6 rfl) (sevp_cons (sv hs 10 rfl) sevp_nil)) bt34_1, ?_, trivial⟩
  ·refine le rfl rfl (fun g hΦ s h hs hh => (stpU_lit0 sl22 2)) ?_
   rintro g _ _ ⟨p3, C4, rfl, rfl, o4⟩
   exact ⟨⟨[p3], [], [C4]⟩, o4, .inr rfl, rfl⟩
  ·refine le rfl rfl (fun g hΦ s h hs hh => (stpU_append sl22 rfl (id := 2) (sv hs 3 rfl) (by simp) (sv hs 5 rfl) rfl (hh.get 2 _ rfl) (hΦ 0 rfl) (Rdb.ro hr0_0) e5)) ?_
   rintro g _ _ ⟨p6, c7, C8, rfl, rfl, o8⟩
   exact ⟨⟨[p6], [c7], [C8]⟩, o8, .inr rfl, rfl⟩
  ·refine le rfl rfl (fun g hΦ s h hs hh => (stpU_lit0 sl32 3)) ?_
   rintro g _ _ ⟨p9, C10, rfl, rfl, o10⟩
   exact ⟨⟨[p9], [], [C10]⟩, o10, .inr rfl, rfl⟩
  ·refine le rfl rfl (fun g hΦ s h hs hh => (stpU_append sl32 rfl (id := 3) (sv hs 7 rfl) (by simp) (sv hs 9 rfl) rfl (hh.get 3 _ rfl) (hΦ 4 rfl) (Rdb.ro hr0_1) e11)) ?_
   rintro g _ _ ⟨p12, c13, C14, rfl, rfl, o14⟩
   exact ⟨⟨[p12], [c13], [C14]⟩, o14, .inr rfl, rfl⟩
  refine le rfl rfl (fun g hΦ s h hs hh => (stpU_store (id := 1) (cs' := [.slice ((g 3).A 0) ((x5).length) ((g 3).C 0), .slice ((g 7).A 0) ((x11).length) ((g 7).C 0)]) ts34 (sv hs 2 rfl) (sv hs 11 rfl) (hh.get 1 _ rfl) rfl rfl rfl rfl)) ?_
  rintro g _ _ rfl
  exact ⟨⟨[], [], []⟩, trivial, .inl rfl, rfl⟩
 intro g hΦ
 refine kw_gen (ι := Option Addr × Res × Option Addr × Nat × Res × Option Addr × Res × Option Addr × Nat × Res) (((g 0).A 0), ((g 0).R 0), ((g 3).A 0), ((g 3).C 0), ((g 3).R 0), ((g 4).A 0), ((g 4).R 0), ((g 7).A 0), ((g 7).C 0), ((g 7).R 0)) (fun | (p3, C4, p6, c7, C8, p9, C10, p12, c13, C14) => OwnC (α := Int) 3 p3 0 ([] : List Int) C4 ∧ OwnC 3 p6 c7 x5 C8 ∧ OwnC (α := F) 71 p9 0 ([] : List F) C10 ∧ OwnC 71 p12 c13 x11 C14) (fun | (p3, C4, p6, c7, C8, p9, C10, p12, c13, C14) => [(2, .pointer (some ⟨b2, 0, none⟩))]) (fun | (p3, C4, p6, c7, C8, p9, C10, p12, c13, C14) => [(1, [(b2, .cells #[.slice p6 ((x5).length) c7, .slice p12 ((x11).length) c13] 34 (0, 0))]), (2, C8), (3, C14)]) ⟨(hΦ 0 (by decide)), (hΦ 3 (by decide)), (hΦ 4 (by decide)), (hΦ 7 (by decide))⟩ ⟨rfl, trivial⟩ ⟨rfl, rfl, rfl, trivial⟩ ?_
 rintro ⟨p3, C4, p6, c7, C8, p9, C10, p12, c13, C14⟩ ⟨o4, o8, o10, o14⟩
 dsimp only
 refine kw_nx (cw_ret ?_)
 obtain rfl := sI H0
 exact kr Tryd.results89 (rC2 1 ts34 rfl rfl) [2, 3] ⟨_, _, _, _, _, _, _, _, rfl, rfl, rfl, o8, rfl, o14⟩

theorem c_s_l8Copy (fl : Nat) (w : World) (a0 : Sy) (hn0_0 : n0_0 = (a0.t.b).length) (hr0_0 : RO w (hkeys []) (RdL p0_0 c0_0 a0.t.b)) (hn0_1 : n0_1 = (a0.t.f).length) (hr0_1 : RO w (hkeys []) (RdL p0_1 c0_1 a0.t.f)) (hn0_2 : n0_2 = (a0.c).length) (hr0_2 : ROD w (hkeys []) p0_2 c0_2 a0.c) (r : Sy) (H0 : s_l8Copy fl a0 = some r) :
  Ct Tryd.prog 39 [.agg #[.slice p0_0 n0_0 c0_0, .slice p0_1 n0_1 c0_1, .slice p0_2 n0_2 c0_2]] w [] (fun rv h' => ∃ (x0 : Option Addr) (y0 z0 : Nat) (C0 : Res) (x1 : Option Addr) (y1 z1 : Nat) (C1 : Res) (x2 : Option Addr) (y2 z2 : Nat) (C2 : Res), rv = .agg #[.slice x0 y0 z0, .slice x1 y1 z1, .slice x2 y2 z2] ∧ h' = [(0, C0), (1, C1), (2, C2)] ∧ y0 = (r.t.b).length ∧ OwnC 3 x0 z0 r.t.b C0 ∧ y1 = (r.t.f).length ∧ OwnC 71 x1 z1 r.t.f C1 ∧ y2 = (r.c).length ∧ OwnD 53 55 x2 z2 r.c C2) := by
 subst hn0_0 hn0_1 hn0_2
 unfold s_l8Copy at H0
 refine ct_of_cw Tryd.func39 rfl Tryd.ntmps39 rfl (Sat.refl _ _) ?_
 refine sr (oE (stpU_box 0 rfl rfl) rfl ?_)
 rintro _ _ ⟨b1, rfl, rfl⟩
 refine oE (stpU_alloc 1 tz37 rfl) rfl ?_
 rintro _ _ ⟨b2, rfl, rfl⟩
 obtain ⟨x3, e3, H0⟩ := bS H0
 refine nn (sr (oA 0 Tryd.underlying37 rfl ts34 rfl (oB2 0 ts34 rfl (oE (stpU_call (fun i => 2 + i) cf89 (fun w hw => c_s_l3Copy fl w a0.t rfl (RO.pass hr0_0 hw) rfl (RO.pass hr0_1 hw) x3 e3) (yA rfl)) rfl ?_))))
 rintro _ _ ⟨_, ⟨p4, _, c6, C7, p8, _, c10, C11, rfl, rfl, rfl, o7, rfl, o11⟩, rfl⟩
 refine oD (stp_build (cs := #[.slice p4 ((x3.b).length) c6, .slice p8 ((x3.f).length) c10, .slice none 0 0]) (sevp_cons rfl sevp_nil) bt37_2) rfl (oE (stpU_alloc 4 tz37 rfl) rfl ?_)
 rintro _ _ ⟨b12, rfl, rfl⟩
 obtain ⟨o0_0, eo0_0, H0⟩ := bS H0
 refine oC3 4 ts37 rfl rfl (nn (cw_seq (sr (oS rfl (nn (cw_addNil 5 (cw_join (ι := (List Cp) × Int × Option Addr × Nat × Nat × Res) (fun | (v13, v18, p14, n15, c16, C17) => o0_0 = .out (v13, v18) ∧ n15 = (v13).length ∧ OwnD 53 55 p14 c16 v13 C17) (fun | (v13, v18, p14, n15, c16, C17) => [(1, .pointer (some ⟨b1, 0, none⟩)), (2, .pointer (some ⟨b2, 0, none⟩)), (3, .pointer (some ⟨b12, 0, none⟩)), (4, .int .i64 v18)]) (fun | (v13, v18, p14, n15, c16, C17) => [(0, [(b1, .cells #[.slice p0_0 ((a0.t.b).length) c0_0, .slice p0_1 ((a0.t.f).length) c0_1, .slice p0_2 ((a0.c).length) c0_2] 37 (0, 0))]), (1, [(b2, .cells #[.slice none 0 0, .slice none 0 0, .slice none 0 0] 37 (0, 0))]), (2, C7), (3, C11), (4, [(b12, .cells #[.slice p4 ((x3.b).length) c6, .slice p8 ((x3.f).length) c10, .slice p14 n15 c16] 37 (0, 0))]), (1001, C17)]) ?_ ?_)))))))
 ·refine cw_block (cw_loopS (ι := Nat × (List Cp) × Int × Option Addr × Nat × Nat × Res) (js := [0, 1, 2, 3, 4, 5]) (fun x => x.1) (fun | (fuel, v13, v18, p14, n15, c16, C17) => s_l8Copy_L0 fl a0 fuel v13 v18 = some o0_0 ∧ n15 = (v13).length ∧ OwnD 53 55 p14 c16 v13 C17) (fun | (_, v13, v18, p14, n15, c16, C17) => [(1, .pointer (some ⟨b1, 0, none⟩)), (2, .pointer (some ⟨b2, 0, none⟩)), (3, .pointer (some ⟨b12, 0, none⟩)), (4, .int .i64 v18)]) (fun | (_, v13, v18, p14, n15, c16, C17) => [(0, [(b1, .cells #[.slice p0_0 ((a0.t.b).length) c0_0, .slice p0_1 ((a0.t.f).length) c0_1, .slice p0_2 ((a0.c).length) c0_2] 37 (0, 0))]), (1, [(b2, .cells #[.slice none 0 0, .slice none 0 0, .slice none 0 0] 37 (0, 0))]), (2, C7), (3, C11), (4, [(b12, .cells #[.slice p4 ((x3.b).length) c6, .slice p8 ((x3.f).length) c10, .slice p14 n15 c16] 37 (0, 0))]), (1001, C17)]) (fl, [], 0, none, 0, 0, []) ⟨eo0_0, rfl, (OwnD.nil _ _ _)⟩ ⟨rfl, rfl, rfl, rfl, trivial⟩ ⟨0, [1, 2, 3, 4, 5], rfl, rfl, 1, [2, 3, 4, 5], rfl, rfl, 2, [3, 4, 5], rfl, rfl, 3, [4, 5], rfl, rfl, 4, [5], rfl, rfl, 5, [], rfl, rfl, trivial⟩ (by decide) ?_)
  rintro ⟨fuel, v13, v18, p14, _, c16, C17⟩ ⟨H1, rfl, o17⟩
  have H1 : s_l8Copy_L0 fl a0 fuel v13 v18 = some o0_0 := H1
  rcases fuel with _ | fuel
  ·rw [s_l8Copy_L0.eq_1] at H1; cases H1
  rw [s_l8Copy_L0.eq_2] at H1
  dsimp only
  refine cw_seq (sr (oM rfl (oA 2 Tryd.underlying37 rfl ts35 rfl (oL 0 ts35 rfl (oD (stp_len Tryd.underlying35 rfl) rfl (oW rfl (nn (cw_cond rfl (fun h19 => ?_) (fun h19 => ?_)))))))))
  ·have H1 := cond_t H1 h19
   obtain ⟨x22, e22, H1⟩ := bS H1
   refine cw_skip (kw_nx (cw_seq (cw_block ?_)))
   obtain ⟨u23, p24, n25, c26, p27, n28, c29, hw23, hl23, hx23, rfl, hr23, rfl, hs23⟩ := ROD.get hr0_2 e22
   obtain ⟨x30, e30, H1⟩ := bS H1
   obtain ⟨x36, e36, H1⟩ := bS H1
   refine cw_row 1001 9 rfl o17 ?_
   rintro u48 C49 C50 o49 hb50
   obtain ⟨x51, e51, H1⟩ := bS H1
   refine rdq g_mixed [1, 3, 4] [0, 4, 1001] { dst := dS [17, 18, 19, 20, 21, 22, 23, 24, 25, 26, 27, 28, 29, 30, 31, 32, 33, 34, 35, 36, 37, 38, 0], pre := gA [] [[], [0], [], [], [3], [], [3, 4, 5], rn 3 4, rn 3 5, rn 2 7, [], [], [11], [], [11, 12, 13], rn 11 4, rn 11 5, rn 2 15, rn 2 16, rn 2 17, rn 0 20, rn 0 21, rn 0 22], ids := gA [] [[], [], [6], [], [], [], [], [], [], [6], [7], [], [], [], [], [], [], [7], [], [8, 6, 7], [1001, 6, 7], [], [4]], rs := rL [[(3, 0)], [(16, 1)], [], [(1, 0)], [(19, 4)], [(4, 0)], [(20, 5), (21, 6)], [(22, 7)], [(23, 8)], [(18, 3), (24, 9)], [], [(1, 0)], [(27, 12)], [(4, 0)], [(28, 13), (29, 14)], [(30, 15)], [(31, 16)], [(26, 11), (32, 17)], [(25, 10), (33, 18)], [(34, 19)], [(17, 2), (35, 20)], [(3, 0)], [(37, 22), (36, 21)]], rh := rL [[], [(4, 0)], [], [], [(0, 0)], [], [], [], [], [(6, 3)], [], [], [(0, 0)], [], [], [], [], [(7, 11)], [], [(6, 10), (7, 18)], [(6, 20), (7, 20), (8, 20), (1001, 0)], [], [(4, 0)]], V := fun i g => gA undef [.pointer (some ⟨b12, 2, none⟩), .slice p14 ((v13).length) c16, .slice ((g 2).A 0) 0 0, .pointer (some ⟨b1, 2, none⟩), .slice p0_2 ((a0.c).length) c0_2, .int .i64 v18, .pointer (some ⟨eB p0_2, eO p0_2 + Int.toNat v18 * Enc.sz CpS + 0, none⟩), .pointer (some ⟨eB p0_2, eO p0_2 + Int.toNat v18 * Enc.sz CpS + 0, none⟩), .slice p24 ((x22.n).length) c26, .slice ((g 9).A 0) ((x30).length) ((g 9).C 0), .slice ((g 10).A 0) 0 0, .pointer (some ⟨b1, 2, none⟩), .slice p0_2 ((a0.c).length) c0_2, .int .i64 v18, .pointer (some ⟨eB p0_2, eO p0_2 + Int.toNat v18 * Enc.sz CpS + 0, none⟩), .pointer (some ⟨eB p0_2, eO p0_2 + Int.toNat v18 * Enc.sz CpS + 1, none⟩), .slice p27 ((x22.w).length) c29, .slice ((g 17).A 0) ((x36).length) ((g 17).C 0), .agg #[.slice ((g 9).A 0) ((x30).length) ((g 9).C 0), .slice ((g 17).A 0) ((x36).length) ((g 17).C 0)], .slice ((g 19).A 0) 1 1, .slice ((g 20).A 0) ((x51).length) ((g 20).C 0), .pointer (some ⟨b12, 2, none⟩)] i, U := fun i g => match i with | 2 => [(6, ((g 2).R 0))] | 9 => [(6, ((g 9).R 0))] | 10 => [(7, ((g 10).R 0))] | 17 => [(7, ((g 17).R 0))] | 19 => [(8, ((g 19).R 0)), (6, ((g 19).R 1)), (7, ((g 19).R 2))] | 20 => [(1001, ((g 20).R 0)), (6, ((g 20).R 1)), (7, ((g 20).R 2))] | 22 => [(4, [(b12, .cells #[.slice p4 ((x3.b).length) c6, .slice p8 ((x3.f).length) c10, .slice ((g 20).A 0) ((x51).length) ((g 20).C 0)] 37 (0, 0))])] | _ => [], Φ := fun i x => match i with | 2 => OwnC (α := Nt) 55 (x.A 0) 0 ([] : List Nt) (x.R 0) | 9 => OwnC 55 (x.A 0) (x.C 0) x30 (x.R 0) | 10 => OwnC (α := Nt) 55 (x.A 0) 0 ([] : List Nt) (x.R 0) | 17 => OwnC 55 (x.A 0) (x.C 0) x36 (x.R 0) | 19 => OwnC (α := CpS) 53 (x.A 0) 1 ([(⟨(x.A 1), (x30).length, (x.C 0), (x.A 2), (x36).length, (x.C 1)⟩ : CpS)]) (x.R 0) ∧ OwnC 55 (x.A 1) (x.C 0) x30 (x.R 1) ∧ OwnC 55 (x.A 2) (x.C 1) x36 (x.R 2) | 20 => OwnC (α := CpS) 53 (x.A 0) (x.C 0) (u48 ++ [(⟨(x.A 1), (x30).length, (x.C 1), (x.A 2), (x36).length, (x.C 2)⟩ : CpS)]) (x.R 0) ∧ OwnC 55 (x.A 1) (x.C 1) x30 (x.R 1) ∧ OwnC 55 (x.A 2) (x.C 2) x36 (x.R 2) | _ => True } ?_ ?_
   ·refine ⟨lc rfl rfl fun hs hh => stp_fieldAddr (j := 2) Tryd.underlying37 rfl ts35 rfl (sv hs 3 rfl) rfl, lc rfl rfl fun hs hh => stp_load1 ts35 (sv hs 16 rfl) (Cells.box (id := 4) (hh.get 4 _ rfl) 1 rfl), ?_, lc rfl rfl fun hs hh => stp_fieldAddr (j := 2) Tryd.underlying37 rfl ts35 rfl (sv hs 1 rfl) rfl, lc rfl rfl fun hs hh => stp_load1 ts35 (sv hs 19 rfl) (Cells.box (id := 0) (hh.get 0 _ rfl) 1 rfl), lM, lc rfl rfl fun hs hh => stp_indexAddr Tryd.underlying35 ts53 (by decide) (sv hs 20 rfl) hl23 (sv hs 21 rfl) (Rdb.ro hw23) hx23, lc rfl rfl fun hs hh => stp_fieldAddr (j := 0) Tryd.underlying53 rfl ts51 rfl (sv hs 22 rfl) rfl, lc rfl rfl fun hs hh => stp_load1 ts51 (sv hs 23 rfl) (Cells.el (Rdb.ro hw23) (by decide) hx23 0 1 rfl), ?_, ?_, lc rfl rfl fun hs hh => stp_fieldAddr (j := 2) Tryd.underlying37 rfl ts35 rfl (sv hs 1 rfl) rfl, lc rfl rfl fun hs hh => stp_load1 ts35 (sv hs 27 rfl) (Cells.box (id := 0) (hh.get 0 _ rfl) 1 rfl), lM, lc rfl rfl fun hs hh => stp_indexAddr Tryd.underlying35 ts53 (by decide) (sv hs 28 rfl) hl23 (sv hs 29 rfl) (Rdb.ro hw23) hx23, lc rfl rfl fun hs hh => stp_fieldAddr (j := 1) Tryd.underlying53 rfl ts51 rfl (sv hs 30 rfl) rfl, lc rfl rfl fun hs hh => stp_load1 ts51 (sv hs 31 rfl) (Cells.el (Rdb.ro hw23) (by decide) hx23 1 1 rfl), ?_, ld rfl rfl fun g hΦ s h hs hh => stp_build (cs := #[.slice ((g 9).A 0) ((x30).length) ((g 9).C 0), .slice ((g 17).A 0) ((x36).length) ((g 17).C 0)]) (sevp_cons (sv hs 25 rfl) (sevp_cons (sv hs 33 rfl) sevp_nil)) bt53_3, ?_, ?_, lc rfl rfl fun hs hh => stp_fieldAddr (j := 2) Tryd.underlying37 rfl ts35 rfl (sv hs 3 rfl) rfl, ?_, trivial⟩
    ·refine le rfl rfl (fun g hΦ s h hs hh => (stpU_lit0 sl51 6)) ?_
     rintro g _ _ ⟨p20, C21, rfl, rfl, o21⟩
     exact ⟨⟨[p20], [], [C21]⟩, o21, .inr rfl, rfl⟩
    ·refine le rfl rfl (fun g hΦ s h hs hh => (stpU_append sl51 rfl (id := 6) (sv hs 18 rfl) (by simp) (sv hs 24 rfl) rfl (hh.get 6 _ rfl) (hΦ 2 rfl) (Rdb.ro hr23) e30)) ?_
     rintro g _ _ ⟨p31, c32, C33, rfl, rfl, o33⟩
     exact ⟨⟨[p31], [c32], [C33]⟩, o33, .inr rfl, rfl⟩
    ·refine le rfl rfl (fun g hΦ s h hs hh => (stpU_lit0 sl51 7)) ?_
     rintro g _ _ ⟨p34, C35, rfl, rfl, o35⟩
     exact ⟨⟨[p34], [], [C35]⟩, o35, .inr rfl, rfl⟩
    ·refine le rfl rfl (fun g hΦ s h hs hh => (stpU_append sl51 rfl (id := 7) (sv hs 26 rfl) (by simp) (sv hs 32 rfl) rfl (hh.get 7 _ rfl) (hΦ 10 rfl) (Rdb.ro hs23) e36)) ?_
     rintro g _ _ ⟨p37, c38, C39, rfl, rfl, o39⟩
     exact ⟨⟨[p37], [c38], [C39]⟩, o39, .inr rfl, rfl⟩
    ·refine le rfl rfl (fun g hΦ s h hs hh => (stpU_keep (hh.get 7 _ rfl) (stpU_keep (hh.get 6 _ rfl) (stpU_lit (sz := 2) (l := [(⟨((g 9).A 0), (x30).length, ((g 9).C 0), ((g 17).A 0), (x36).length, ((g 17).C 0)⟩ : CpS)]) [.agg #[.slice ((g 9).A 0) ((x30).length) ((g 9).C 0), .slice ((g 17).A 0) ((x36).length) ((g 17).C 0)]] sl35 8 (sevp_cons (sv hs 34 rfl) sevp_nil) rfl rfl rfl rfl rfl rfl rfl rfl rfl) (by rintro _ _ ⟨_, _, rfl, rfl, _⟩; rfl) (hΦ 9 rfl)) (by rintro _ _ ⟨_, ⟨_, _, rfl, rfl, _⟩, rfl, _⟩; rfl) (hΦ 17 rfl))) ?_
     rintro g _ _ ⟨_, ⟨_, ⟨p40, C41, rfl, rfl, o41⟩, rfl, o44⟩, rfl, o47⟩
     exact ⟨⟨[p40, ((g 9).A 0), ((g 17).A 0)], [((g 9).C 0), ((g 17).C 0)], [C41, ((g 9).R 0), ((g 17).R 0)]⟩, ⟨o41, o44, o47⟩, .inr rfl, rfl⟩
    ·refine le rfl rfl (fun g hΦ s h hs hh => (stpU_keep (hh.get 7 _ rfl) (stpU_keep (hh.get 6 _ rfl) (stpU_appendR sl35 rfl (id := 1001) (sv hs 17 rfl) rfl (sv hs 35 rfl) rfl (hh.get 1001 _ rfl) o49 (Rdb.own (id := 8) (hh.get 8 _ rfl) (hΦ 19 rfl).1) hb50 rfl e51) (by rintro _ _ ⟨_, _, _, rfl, rfl, _⟩; rfl) (hΦ 19 rfl).2.1) (by rintro _ _ ⟨_, ⟨_, _, _, rfl, rfl, _⟩, rfl, _⟩; rfl) (hΦ 19 rfl).2.2)) ?_
     rintro g _ _ ⟨_, ⟨_, ⟨p52, c53, C54, rfl, rfl, o54⟩, rfl, o57⟩, rfl, o60⟩
     exact ⟨⟨[p52, ((g 19).A 1), ((g 19).A 2)], [c53, ((g 19).C 0), ((g 19).C 1)], [C54, ((g 19).R 1), ((g 19).R 2)]⟩, ⟨o54, o57, o60⟩, .inr rfl, rfl⟩
    refine le rfl rfl (fun g hΦ s h hs hh => (stpU_store (id := 4) (cs' := [.slice p4 ((x3.b).length) c6, .slice p8 ((x3.f).length) c10, .slice ((g 20).A 0) ((x51).length) ((g 20).C 0)]) ts35 (sv hs 37 rfl) (sv hs 36 rfl) (hh.get 4 _ rfl) rfl rfl rfl rfl)) ?_
    rintro g _ _ rfl
    exact ⟨⟨[], [], []⟩, trivial, .inl rfl, rfl⟩
   intro g hΦ
   refine kw_gen (ι := Option Addr × Res × Option Addr × Nat × Res × Option Addr × Res × Option Addr × Nat × Res × Option Addr × Option Addr × Option Addr × Nat × Nat × Res × Res × Res × Option Addr × Option Addr × Option Addr × Nat × Nat × Nat × Res × Res × Res) (((g 2).A 0), ((g 2).R 0), ((g 9).A 0), ((g 9).C 0), ((g 9).R 0), ((g 10).A 0), ((g 10).R 0), ((g 17).A 0), ((g 17).C 0), ((g 17).R 0), ((g 19).A 0), ((g 19).A 1), ((g 19).A 2), ((g 19).C 0), ((g 19).C 1), ((g 19).R 0), ((g 19).R 1), ((g 19).R 2), ((g 20).A 0), ((g 20).A 1), ((g 20).A 2), ((g 20).C 0), ((g 20).C 1), ((g 20).C 2), ((g 20).R 0), ((g 20).R 1), ((g 20).R 2)) (fun | (p20, C21, p31, c32, C33, p34, C35, p37, c38, C39, p40, p42, p45, c43, c46, C41, C44, C47, p52, p55, p58, c53, c56, c59, C54, C57, C60) => OwnC (α := Nt) 55 p20 0 ([] : List Nt) C21 ∧ OwnC 55 p31 c32 x30 C33 ∧ OwnC (α := Nt) 55 p34 0 ([] : List Nt) C35 ∧ OwnC 55 p37 c38 x36 C39 ∧ OwnC (α := CpS) 53 p40 1 ([(⟨p42, (x30).length, c43, p45, (x36).length, c46⟩ : CpS)]) C41 ∧ OwnC 55 p42 c43 x30 C44 ∧ OwnC 55 p45 c46 x36 C47 ∧ OwnC (α := CpS) 53 p52 c53 (u48 ++ [(⟨p55, (x30).length, c56, p58, (x36).length, c59⟩ : CpS)]) C54 ∧ OwnC 55 p55 c56 x30 C57 ∧ OwnC 55 p58 c59 x36 C60) (fun | (p20, C21, p31, c32, C33, p34, C35, p37, c38, C39, p40, p42, p45, c43, c46, C41, C44, C47, p52, p55, p58, c53, c56, c59, C54, C57, C60) => [(1, .pointer (some ⟨b1, 0, none⟩)), (2, .pointer (some ⟨b2, 0, none⟩)), (3, .pointer (some ⟨b12, 0, none⟩)), (4, .int .i64 v18)]) (fun | (p20, C21, p31, c32, C33, p34, C35, p37, c38, C39, p40, p42, p45, c43, c46, C41, C44, C47, p52, p55, p58, c53, c56, c59, C54, C57, C60) => [(0, [(b1, .cells #[.slice p0_0 ((a0.t.b).length) c0_0, .slice p0_1 ((a0.t.f).length) c0_1, .slice p0_2 ((a0.c).length) c0_2] 37 (0, 0))]), (1, [(b2, .cells #[.slice none 0 0, .slice none 0 0, .slice none 0 0] 37 (0, 0))]), (2, C7), (3, C11), (4, [(b12, .cells #[.slice p4 ((x3.b).length) c6, .slice p8 ((x3.f).length) c10, .slice p52 ((x51).length) c53] 37 (0, 0))]), (6, C57), (7, C60), (9, C50), (1001, C54)]) ⟨(hΦ 2 (by decide)), (hΦ 9 (by decide)), (hΦ 10 (by decide)), (hΦ 17 (by decide)), (hΦ 19 (by decide)).1, (hΦ 19 (by decide)).2.1, (hΦ 19 (by decide)).2.2, (hΦ 20 (by decide)).1, (hΦ 20 (by decide)).2.1, (hΦ 20 (by decide)).2.2⟩ ⟨rfl, rfl, rfl, rfl, trivial⟩ ⟨rfl, rfl, rfl, rfl, rfl, rfl, rfl, rfl, rfl, trivial⟩ ?_
   rintro ⟨p20, C21, p31, c32, C33, p34, C35, p37, c38, C39, p40, p42, p45, c43, c46, C41, C44, C47, p52, p55, p58, c53, c56, c59, C54, C57, C60⟩ ⟨o21, o33, o35, o39, o41, o44, o47, o54, o57, o60⟩
   dsimp only
   obtain ⟨x61, e61, H1⟩ := bS H1
   refine kw_bl_normal (kw_nx (cw_region (oM rfl (oP e61 rfl (oS rfl (ow_nil (kw_shut 1001 9 6 7 o54 (Bun.appZ hb50 e51) (app_get (Bun.len hb50)) (app_getZ e51) rfl o57 rfl o60 ?_)))))))
   rintro C62 o62
   exact kw_lqS (js := [0, 1, 2, 3, 4, 1001]) (fuel, x51, x61, p52, ((x51).length), c53, C62) ⟨H1, rfl, o62⟩ (Nat.lt_succ_self _) ⟨rfl, rfl, rfl, rfl, trivial⟩ ⟨0, [1, 2, 3, 4, 1001], rfl, rfl, 1, [2, 3, 4, 1001], rfl, rfl, 2, [3, 4, 1001], rfl, rfl, 3, [4, 1001], rfl, rfl, 4, [1001], rfl, rfl, 1001, [], rfl, rfl, trivial⟩ (by decide)
  have H1 := cond_f H1 h19
  refine cw_exit (kw_nx_exit (kw_lq_exit (kw_bl ?_)))
  obtain rfl := sI H1
  exact kw_joinS (js := [0, 1, 2, 3, 4, 1001]) (v13, v18, p14, ((v13).length), c16, C17) ⟨rfl, rfl, o17⟩ ⟨rfl, rfl, rfl, rfl, trivial⟩ ⟨0, [1, 2, 3, 4, 1001], rfl, rfl, 1, [2, 3, 4, 1001], rfl, rfl, 2, [3, 4, 1001], rfl, rfl, 3, [4, 1001], rfl, rfl, 4, [1001], rfl, rfl, 1001, [], rfl, rfl, trivial⟩ (by decide)
 rintro ⟨v13, v18, p14, _, c16, C17⟩ ⟨rfl, rfl, o17⟩
 dsimp only
 refine kw_nx (sr (oB3 4 ts37 rfl (oC3 1 ts37 rfl rfl (nn (cw_ret ?_)))))
 obtain rfl := sI H0
 exact kr Tryd.results39 (rC3 1 ts37 rfl rfl) [2, 3, 1001] ⟨_, _, _, _, _, _, _, _, _, _, _, _, rfl, rfl, rfl, o7, rfl, o11, rfl, o17⟩

theorem c_s_l8Without (fl : Nat) (w : World) (a0 : (List Nt)) (a1 : K) (hn0_0 : n0_0 = (a0).length) (hr0_0 : RO w (hkeys []) (RdL p0_0 c0_0 a0)) (r : (List Nt)) (H0 : s_l8Without fl a0 a1 = some r) :
  Ct Tryd.prog 42 [.slice p0_0 n0_0 c0_0, .agg #[.int .i64 a1.s, .int .i64 a1.p]] w [] (fun rv h' => ∃ (x0 : Option Addr) (y0 z0 : Nat) (C0 : Res), rv = .slice x0 y0 z0 ∧ h' = [(0, C0)] ∧ y0 = (r).length ∧ OwnC 55 x0 z0 r C0) := by
 subst hn0_0
 unfold s_l8Without at H0
 refine ct_of_cw Tryd.func42 rfl Tryd.ntmps42 rfl (Sat.refl _ _) ?_
 refine sr (oE (stpU_box 0 rfl rfl) rfl ?_)
 rintro _ _ ⟨b1, rfl, rfl⟩
 refine oS rfl (nn (sr (oE (stpU_lit0 sl51 1) rfl ?_)))
 rintro _ _ ⟨p2, C3, rfl, rfl, o3⟩
 obtain ⟨o0_0, eo0_0, H0⟩ := bS H0
 refine oS rfl (nn (cw_seq (sr (oS rfl (nn (cw_join (ι := (List Nt) × Int × Option Addr × Nat × Nat × Res) (fun | (v4, v9, p5, n6, c7, C8) => o0_0 = .out (v4, v9) ∧ n6 = (v4).length ∧ OwnC 55 p5 c7 v4 C8) (fun | (v4, v9, p5, n6, c7, C8) => [(0, .slice p0_0 ((a0).length) c0_0), (3, .pointer (some ⟨b1, 0, none⟩)), (5, .slice p5 n6 c7), (6, .int .i64 v9)]) (fun | (v4, v9, p5, n6, c7, C8) => [(0, [(b1, .cells #[.int .i64 a1.s, .int .i64 a1.p] 41 (0, 0))]), (1, C8)]) ?_ ?_))))))
 ·refine cw_block (cw_loopS (ι := Nat × (List Nt) × Int × Option Addr × Nat × Nat × Res) (js := [0, 1]) (fun x => x.1) (fun | (fuel, v4, v9, p5, n6, c7, C8) => s_l8Without_L0 fl a0 a1 fuel v4 v9 = some o0_0 ∧ n6 = (v4).length ∧ OwnC 55 p5 c7 v4 C8) (fun | (_, v4, v9, p5, n6, c7, C8) => [(0, .slice p0_0 ((a0).length) c0_0), (3, .pointer (some ⟨b1, 0, none⟩)), (5, .slice p5 n6 c7), (6, .int .i64 v9)]) (fun | (_, v4, v9, p5, n6, c7, C8) => [(0, [(b1, .cells #[.int .i64 a1.s, .int .i64 a1.p] 41 (0, 0))]), (1, C8)]) (fl, ([] : List Nt), 0, p2, 0, 0, C3) ⟨eo0_0, (by simp), o3⟩ ⟨rfl, rfl, rfl, rfl, trivial⟩ ⟨0, [1], rfl, rfl, 1, [], rfl, rfl, trivial⟩ (by decide) ?_)
  rintro ⟨fuel, v4, v9, p5, _, c7, C8⟩ ⟨H1, rfl, o8⟩
  have H1 : s_l8Without_L0 fl a0 a1 fuel v4 v9 = some o0_0 := H1
  rcases fuel with _ | fuel
  ·rw [s_l8Without_L0.eq_1] at H1; cases H1
  rw [s_l8Without_L0.eq_2] at H1
  dsimp only
  refine cw_seq (sr (oM rfl (oM rfl (oD (stp_len Tryd.underlying51 rfl) rfl (oW rfl (nn (cw_cond rfl (fun h10 => ?_) (fun h10 => ?_))))))))
  ·have H1 := cond_t H1 h10
   obtain ⟨x11, e11, H1⟩ := bS H1
   refine cw_skip (kw_nx (cw_seq (cw_block (cw_seq (rdq g_mixed [0, 3, 6] [0] { dst := dS [15, 16, 17, 18, 19, 20, 21], pre := gA [] [[], [], [0, 1], [0, 1, 2], rn 0 4, [], rn 0 6], ids := fun _ => [], rs := rL [[(0, 0)], [(6, 0)], [(14, 1), (15, 2)], [(16, 3)], [(17, 4)], [(3, 0)], [(18, 5), (19, 6)]], rh := rL [[], [], [], [], [], [(0, 0)]], V := fun i g => gA undef [.slice p0_0 ((a0).length) c0_0, .int .i64 v9, .pointer (some ⟨eB p0_0, eO p0_0 + Int.toNat v9 * Enc.sz Nt + 0, none⟩), .pointer (some ⟨eB p0_0, eO p0_0 + Int.toNat v9 * Enc.sz Nt + 0, none⟩), .agg #[.int .i64 x11.k.s, .int .i64 x11.k.p], .agg #[.int .i64 a1.s, .int .i64 a1.p], .bool (x11.k != a1)] i, U := fun _ _ => [], Φ := fun _ _ => True } ?_ ?_)))))
   ·exact ⟨lM, lM, lc rfl rfl fun hs hh => stp_indexAddr Tryd.underlying51 ts55 (by decide) (sv hs 14 rfl) rfl (sv hs 15 rfl) (Rdb.ro hr0_0) e11, lc rfl rfl fun hs hh => stp_fieldAddr (j := 0) Tryd.underlying55 rfl ts41 rfl (sv hs 16 rfl) rfl, lc rfl rfl fun hs hh => stp_loadN (us := [_, _]) ts41 (sv hs 17 rfl) (Cells.el (Rdb.ro hr0_0) (by decide) e11 0 2 rfl), lc rfl rfl fun hs hh => stp_loadN (us := [_, _]) ts41 (sv hs 3 rfl) (Cells.box (id := 0) (hh.get 0 _ rfl) 2 rfl), lc rfl rfl fun hs hh => stp_neqS te41 x11.k a1 (sv hs 18 rfl) (sv hs 19 rfl), trivial⟩
   intro g hΦ
   refine KW.sub (s' := [(0, .slice p0_0 ((a0).length) c0_0), (3, .pointer (some ⟨b1, 0, none⟩)), (5, .slice p5 ((v4).length) c7), (6, .int .i64 v9), (20, .bool (x11.k != a1))]) (h' := [(0, [(b1, .cells #[.int .i64 a1.s, .int .i64 a1.p] 41 (0, 0))]), (1, C8)]) ?_ ⟨rfl, rfl, rfl, rfl, rfl, trivial⟩ ⟨rfl, rfl, trivial⟩
   refine kw_nx (cw_cond rfl (fun h12 => ?_) (fun h12 => ?_))
   ·have H1 := cond_t H1 h12
    refine cw_region (oM rfl (oM rfl (oM rfl (oD (stp_indexAddr Tryd.underlying51 ts55 (by decide) rfl rfl rfl (Rdb.ro hr0_0) e11) rfl (oD (stp_loadN (us := [_, _, _]) ts55 rfl (Cells.el (Rdb.ro hr0_0) (by decide) e11 0 3 rfl)) rfl (oE (stpU_lit (sz := 3) (l := [x11]) [.agg #[.int .i64 x11.k.s, .int .i64 x11.k.p, .int .i64 x11.fr]] sl51 2 (sevp_cons rfl sevp_nil) rfl rfl rfl rfl rfl rfl rfl rfl rfl) rfl ?_))))))
    rintro _ _ ⟨p13, C14, rfl, rfl, o14⟩
    obtain ⟨x15, e15, H1⟩ := bS H1
    refine oE (stpU_append sl51 rfl (id := 1) rfl rfl rfl (by simp) rfl o8 (Rdb.own (id := 2) rfl o14) e15) rfl ?_
    rintro _ _ ⟨p16, c17, C18, rfl, rfl, o18⟩
    obtain ⟨x19, e19, H1⟩ := bS H1
    exact oS rfl (ow_nil (kw_bl_normal (kw_nx (cw_region (oM rfl (oP e19 rfl (oS rfl (ow_nil (kw_lqS (js := [0, 1]) (fuel, x15, x19, p16, ((x15).length), c17, C18) ⟨H1, rfl, o18⟩ (Nat.lt_succ_self _) ⟨rfl, rfl, rfl, rfl, trivial⟩ ⟨0, [1], rfl, rfl, 1, [], rfl, rfl, trivial⟩ (by decide))))))))))
   have H1 := cond_f H1 h12
   obtain ⟨x20, e20, H1⟩ := bS H1
   exact cw_skip (kw_bl_normal (kw_nx (cw_region (oM rfl (oP e20 rfl (oS rfl (ow_nil (kw_lqS (js := [0, 1]) (fuel, v4, x20, p5, ((v4).length), c7, C8) ⟨H1, rfl, o8⟩ (Nat.lt_succ_self _) ⟨rfl, rfl, rfl, rfl, trivial⟩ ⟨0, [1], rfl, rfl, 1, [], rfl, rfl, trivial⟩ (by decide)))))))))
  have H1 := cond_f H1 h10
  refine cw_exit (kw_nx_exit (kw_lq_exit (kw_bl ?_)))
  obtain rfl := sI H1
  exact kw_joinS (js := [0, 1]) (v4, v9, p5, ((v4).length), c7, C8) ⟨rfl, rfl, o8⟩ ⟨rfl, rfl, rfl, rfl, trivial⟩ ⟨0, [1], rfl, rfl, 1, [], rfl, rfl, trivial⟩ (by decide)
 rintro ⟨v4, v9, p5, _, c7, C8⟩ ⟨rfl, rfl, o8⟩
 dsimp only
 refine kw_nx (sr (oM rfl (oS rfl (nn (cw_ret ?_)))))
 obtain rfl := sI H0
 exact kr Tryd.results42 (rT rfl) [1] ⟨_, _, _, _, rfl, rfl, rfl, o8⟩
end Go.Proofs.YtfnliecmagnkdabDoor
