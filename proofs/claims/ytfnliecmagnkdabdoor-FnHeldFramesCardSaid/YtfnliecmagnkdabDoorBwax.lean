/- The walks: functions of the program return what their pure functions say. Printed by a program (gen.py). -/
import Derived.Test.YtfnliecmagnkdabDoorBp
import Derived.Test.YtfnliecmagnkdabDoorBt
import Derived.Test.YtfnliecmagnkdabDoorMan
import Derived.Test.YtfnliecmagnkdabDoorMap
import Derived.Test.YtfnliecmagnkdabDoorCpy
import Derived.Test.YtfnliecmagnkdabDoorClr
import Derived.Test.YtfnliecmagnkdabDoorDp
import Derived.Test.YtfnliecmagnkdabDoorSrt
import Derived.Test.YtfnliecmagnkdabDoorE8
import Derived.Test.YtfnliecmagnkdabDoorBwab
import Derived.Test.YtfnliecmagnkdabDoorBwan
import Derived.Test.YtfnliecmagnkdabDoorBwat
import Derived.Test.YtfnliecmagnkdabDoorBwav
set_option linter.unusedSimpArgs false
set_option linter.unusedVariables false
set_option linter.unusedSectionVars false
namespace Go.Proofs.YtfnliecmagnkdabDoor
open Go.RowKit
set_option maxHeartbeats 4000000
set_option maxRecDepth 20000
variable {p0_0 : Option Addr} {n0_0 : Nat} {c0_0 : Nat}
theorem c_l_FnHeldFrames (fl : Nat) (w : World) (a0 : (List UInt8)) (hn0_0 : n0_0 = (a0).length) (hr0_0 : RO w (hkeys []) (RdL p0_0 c0_0 a0)) (hg : RO w (hkeys []) (fun w' => w'.rangeAt 0 0 [.bool false, .int .i64 0, .int .i64 0, .int .i64 0, .int .i64 (-1)])) (r : Bool) (H0 : l_FnHeldFrames fl a0 = some r) :
  Ct Tryd.prog 9 [.slice p0_0 n0_0 c0_0] w [] (fun rv h' => rv = .bool r ∧ h' = []) := by
 subst hn0_0
 unfold l_FnHeldFrames at H0
 refine ct_of_cw Tryd.func9 rfl Tryd.ntmps9 rfl (Sat.refl _ _) ?_
 refine sr (oS rfl (nn (cw_seq (sr (oM rfl (oD (stp_len Tryd.underlying46 rfl) rfl (oJ rfl (nn (cw_cond rfl (fun h1 => ?_) (fun h1 => ?_))))))))))
 ·have H0 := cond_t H0 h1
  refine sr (oS rfl (nn (cw_ret (kw_nx_ret ?_))))
  obtain rfl := sI H0
  exact kr Tryd.results9 (rT rfl) [] ⟨rfl, rfl⟩
 have H0 := cond_f H0 h1
 obtain ⟨x2, e2, H0⟩ := bS H0
 refine cw_skip (kw_nx (sr (oM rfl (oE (stpU_call (fun i => 0 + i) cf33 (fun w hw => c_s_DrawHeldFrames fl w a0 rfl (RO.pass hr0_0 hw) x2 e2) (yA rfl)) rfl ?_))))
 rintro _ _ ⟨_, ⟨p3, _, c5, C6, p7, _, c9, C10, p11, _, c13, C14, rfl, rfl, rfl, o6, rfl, o10, rfl, o14⟩, rfl⟩
 refine oE (stpU_alloc 3 tz37 rfl) rfl ?_
 rintro _ _ ⟨b15, rfl, rfl⟩
 obtain ⟨x16, e16, H0⟩ := bS H0
 refine oC3 3 ts37 rfl rfl (nn (sr (oB3 3 ts37 rfl (oE (stpU_call (fun i => 4 + i) cf29 (fun w hw => c_i_HeldFrames fl w x2 rfl (OwnC.pass (id := 0) rfl o6 hw) rfl (OwnC.pass (id := 1) rfl o10 hw) rfl (OwnD.pass (id := 2) rfl o14 hw) (RO.pass hg hw) x16 e16) (yA rfl)) rfl ?_))))
 rintro _ _ ⟨_, ⟨p17, _, c19, C20, rfl, rfl, rfl, o20⟩, rfl⟩
 obtain ⟨x21, e21, H0⟩ := bS H0
 refine oS rfl (nn (cw_seq (sr (oM rfl (oB3 3 ts37 rfl (oE (stpU_call (fun i => 5 + i) cf28 (fun w hw => c_s_HeldFrames fl w x2 rfl (OwnC.pass (id := 0) rfl o6 hw) rfl (OwnC.pass (id := 1) rfl o10 hw) rfl (OwnD.pass (id := 2) rfl o14 hw) x21 e21) (yA rfl)) rfl ?_))))))
 rintro _ _ ⟨_, ⟨p22, _, c24, C25, rfl, rfl, rfl, o25⟩, rfl⟩
 obtain ⟨x26, e26, H0⟩ := bS H0
 refine oE (stpU_call (fun i => 6 + i) cf34 (fun w hw => c_l_ipInts fl w x16 x21 rfl (OwnC.pass (id := 4) rfl o20 hw) rfl (OwnC.pass (id := 5) rfl o25 hw) x26 e26) (yB rfl rfl)) rfl ?_
 rintro _ _ ⟨_, ⟨rfl, rfl⟩, rfl⟩
 obtain ⟨y27, ey27, H0⟩ := bS H0
 refine oK rfl (oM rfl (ow_cutY 4 24 y27 ?_ ?_))
 ·rcases Bool.eq_false_or_eq_true (!x26) with hy27 | hy27
  ·have ey27 := cond_t ey27 hy27
   refine oO rfl hy27 rfl (oO rfl hy27 rfl (oO rfl hy27 rfl (oD (stp_pick_t rfl hy27 rfl) rfl ?_)))
   obtain rfl := sI ey27
   exact ow_nil (jy 4 0)
  have ey27 := cond_f ey27 hy27
  obtain ⟨x28, e28, ey27⟩ := bS ey27
  refine oG rfl hy27 (stp_loadN (us := [_, _, _]) ts37 rfl (Cells.box (id := 3) rfl 3 rfl)) rfl (ow_eff (.some rfl hy27) (stpU_call (fun i => 6 + i) cf23 (fun w hw => c_i_SystemValid fl w x2 rfl (OwnC.pass (id := 0) rfl o6 hw) rfl (OwnC.pass (id := 1) rfl o10 hw) rfl (OwnD.pass (id := 2) rfl o14 hw) (RO.pass hg hw) x28 e28) (yA rfl)) rfl ?_)
  rintro _ _ ⟨_, ⟨rfl, rfl⟩, rfl⟩
  refine oG rfl hy27 (stp_not rfl) rfl (oD (stp_pick_f rfl hy27 rfl) rfl ?_)
  obtain rfl := sI ey27
  exact ow_nil (jy 4 0)
 refine ow_nil (kw_nx (cw_cond rfl (fun h29 => ?_) (fun h29 => ?_)))
 ·have H0 := cond_t H0 h29
  obtain ⟨x30, e30, H0⟩ := bS H0
  refine sr (oM rfl (oB3 3 ts37 rfl (oE (stpU_call (fun i => 6 + i) cf28 (fun w hw => c_s_HeldFrames fl w x2 rfl (OwnC.pass (id := 0) rfl o6 hw) rfl (OwnC.pass (id := 1) rfl o10 hw) rfl (OwnD.pass (id := 2) rfl o14 hw) x30 e30) (yA rfl)) rfl ?_)))
  rintro _ _ ⟨_, ⟨p31, _, c33, C34, rfl, rfl, rfl, o34⟩, rfl⟩
  obtain ⟨x35, e35, H0⟩ := bS H0
  refine oE (stpU_call (fun i => 7 + i) cf34 (fun w hw => c_l_ipInts fl w x16 x30 rfl (OwnC.pass (id := 4) rfl o20 hw) rfl (OwnC.pass (id := 6) rfl o34 hw) x35 e35) (yB rfl rfl)) rfl ?_
  rintro _ _ ⟨_, ⟨rfl, rfl⟩, rfl⟩
  obtain ⟨y36, ey36, H0⟩ := bS H0
  refine oM rfl (ow_cutY 4 33 y36 ?_ ?_)
  ·rcases Bool.eq_false_or_eq_true x35 with hy36 | hy36
   ·have ey36 := cond_t ey36 hy36
    refine oG rfl hy36 (mv rfl) rfl (oG rfl hy36 (stp_len Tryd.underlying22 rfl) rfl (oG rfl hy36 (stp_eql rfl rfl) rfl (oD (stp_pick_t rfl hy36 rfl) rfl ?_)))
    obtain rfl := sI ey36
    exact ow_nil (jy 4 0)
   have ey36 := cond_f ey36 hy36
   refine oO rfl hy36 rfl (oO rfl hy36 rfl (oO rfl hy36 rfl (oD (stp_pick_f rfl hy36 rfl) rfl ?_)))
   obtain rfl := sI ey36
   exact ow_nil (jy 4 0)
  refine oS rfl (nn (cw_ret (kw_nx_ret ?_)))
  obtain rfl := sI H0
  exact kr Tryd.results9 (rT rfl) [] ⟨rfl, rfl⟩
 have H0 := cond_f H0 h29
 obtain ⟨o0_0, eo0_0, H0⟩ := bS H0
 refine cw_skip (kw_nx (cw_seq (sr (oS rfl (nn (cw_join (ι := Int) (fun | v37 => o0_0 = .out v37) (fun | v37 => [(3, .pointer (some ⟨b15, 0, none⟩)), (4, .slice p17 ((x16).length) c19), (5, .int .i64 v37)]) (fun | v37 => [(0, C6), (1, C10), (2, C14), (3, [(b15, .cells #[.slice p3 ((x2.t.b).length) c5, .slice p7 ((x2.t.f).length) c9, .slice p11 ((x2.c).length) c13] 37 (0, 0))]), (4, C20)]) ?_ ?_))))))
 ·refine cw_block (cw_loopS (ι := Nat × Int) (js := [0, 1, 2, 3, 4]) (fun x => x.1) (fun | (fuel, v37) => l_FnHeldFrames_L0 fl x2 x16 fuel v37 = some o0_0) (fun | (_, v37) => [(3, .pointer (some ⟨b15, 0, none⟩)), (4, .slice p17 ((x16).length) c19), (5, .int .i64 v37)]) (fun | (_, v37) => [(0, C6), (1, C10), (2, C14), (3, [(b15, .cells #[.slice p3 ((x2.t.b).length) c5, .slice p7 ((x2.t.f).length) c9, .slice p11 ((x2.c).length) c13] 37 (0, 0))]), (4, C20)]) (fl, 0) eo0_0 ⟨rfl, rfl, rfl, trivial⟩ ⟨0, [1, 2, 3, 4], rfl, rfl, 1, [2, 3, 4], rfl, rfl, 2, [3, 4], rfl, rfl, 3, [4], rfl, rfl, 4, [], rfl, rfl, trivial⟩ (by decide) ?_)
  rintro ⟨fuel, v37⟩ H1
  have H1 : l_FnHeldFrames_L0 fl x2 x16 fuel v37 = some o0_0 := H1
  rcases fuel with _ | fuel
  ·rw [l_FnHeldFrames_L0.eq_1] at H1; cases H1
  rw [l_FnHeldFrames_L0.eq_2] at H1
  dsimp only
  refine cw_seq (sr (oM rfl (oM rfl (oD (stp_len Tryd.underlying22 rfl) rfl (oW rfl (nn (cw_cond rfl (fun h38 => ?_) (fun h38 => ?_))))))))
  ·have H1 := cond_t H1 h38
   obtain ⟨x39, e39, H1⟩ := bS H1
   obtain ⟨x40, e40, H1⟩ := bS H1
   refine cw_skip (kw_nx (cw_seq (cw_block (cw_seq (rdq g_mixed [3, 4, 5] [0, 1, 2, 3, 4] { dst := dS [42, 43, 44, 45, 46, 47, 48, 41, 49, 50, 7, 0, 8], pre := gA [] [[], [], [], [], [2, 3], [2, 3, 4], rn 0 6, rn 0 7, rn 0 8, rn 0 8, [], [0, 1, 2, 3, 4, 5, 6, 7, 8, 10], rn 0 12], ids := gA [] [[], [], [], [], [], [], [7, 8, 9], [], [], [], [10], [10]], rs := rL [[(3, 0)], [], [(4, 0)], [(5, 0)], [(43, 3), (44, 4)], [(45, 5)], [(41, 1), (42, 2), (46, 6)], [(47, 7)], [(40, 8)], [(40, 8)], [], [(6, 11), (48, 9)], [(49, 10)]], rh := rL [[(3, 0)], [], [], [], [(4, 0)], [(4, 0)], [(0, 0), (1, 0), (2, 0)], [], [], [], [], [(10, 11)]], V := fun i g => gA undef [.agg #[.slice p3 ((x2.t.b).length) c5, .slice p7 ((x2.t.f).length) c9, .slice p11 ((x2.c).length) c13], .agg #[.int .i64 15, .int .i64 99], .slice p17 ((x16).length) c19, .int .i64 v37, .pointer (some ⟨eB p17, eO p17 + Int.toNat v37 * Enc.sz Int + 0, none⟩), .int .i64 x39, .tuple #[.agg #[.slice ((g 6).A 0) ((x40.1.t.b).length) ((g 6).C 0), .slice ((g 6).A 1) ((x40.1.t.f).length) ((g 6).C 1), .slice ((g 6).A 2) ((x40.1.c).length) ((g 6).C 2)], .bool x40.2], .tuple #[.agg #[.slice ((g 6).A 0) ((x40.1.t.b).length) ((g 6).C 0), .slice ((g 6).A 1) ((x40.1.t.f).length) ((g 6).C 1), .slice ((g 6).A 2) ((x40.1.c).length) ((g 6).C 2)], .bool x40.2], .agg #[.slice ((g 6).A 0) ((x40.1.t.b).length) ((g 6).C 0), .slice ((g 6).A 1) ((x40.1.t.f).length) ((g 6).C 1), .slice ((g 6).A 2) ((x40.1.c).length) ((g 6).C 2)], .bool x40.2, .pointer (some ⟨((g 10).C 0), 0, none⟩), undef, .bool x40.2] i, U := fun i g => match i with | 6 => [(7, ((g 6).R 0)), (8, ((g 6).R 1)), (9, ((g 6).R 2))] | 10 => [(10, [(((g 10).C 0), .cells #[.slice none 0 0, .slice none 0 0, .slice none 0 0] 37 (0, 0))])] | 11 => [(10, [(((g 10).C 0), .cells #[.slice ((g 6).A 0) ((x40.1.t.b).length) ((g 6).C 0), .slice ((g 6).A 1) ((x40.1.t.f).length) ((g 6).C 1), .slice ((g 6).A 2) ((x40.1.c).length) ((g 6).C 2)] 37 (0, 0))])] | _ => [], Φ := fun i x => match i with | 6 => OwnC 3 (x.A 0) (x.C 0) x40.1.t.b (x.R 0) ∧ OwnC 71 (x.A 1) (x.C 1) x40.1.t.f (x.R 1) ∧ OwnD 53 55 (x.A 2) (x.C 2) x40.1.c (x.R 2) | _ => True } ?_ ?_)))))
   ·refine ⟨lc rfl rfl fun hs hh => stp_loadN (us := [_, _, _]) ts37 (sv hs 3 rfl) (Cells.box (id := 3) (hh.get 3 _ rfl) 3 rfl), lc rfl rfl fun hs hh => stp_build (cs := #[.int .i64 15, .int .i64 99]) (sevp_cons rfl (sevp_cons rfl sevp_nil)) bt41_8, lM, lM, lc rfl rfl fun hs hh => stp_indexAddr Tryd.underlying22 ts3 (by decide) (sv hs 43 rfl) rfl (sv hs 44 rfl) (Rdb.own (id := 4) (hh.get 4 _ rfl) o20) e39, lc rfl rfl fun hs hh => stp_load1 ts3 (sv hs 45 rfl) (Cells.el (Rdb.own (id := 4) (hh.get 4 _ rfl) o20) (by decide) e39 0 1 rfl), ?_, lM, lT, lT, ?_, ?_, lS, trivial⟩
    ·refine le rfl rfl (fun g hΦ s h hs hh => (stpU_call (fun i => 7 + i) cf19 (fun w hw => c_i_MapSystem fl w x2 (⟨15, 99⟩ : K) x39 1 rfl (OwnC.pass (id := 0) (hh.get 0 _ rfl) o6 hw) rfl (OwnC.pass (id := 1) (hh.get 1 _ rfl) o10 hw) rfl (OwnD.pass (id := 2) (hh.get 2 _ rfl) o14 hw) (RO.pass hg hw) x40 e40) (yD (sv hs 41 rfl) (sv hs 42 rfl) (sv hs 46 rfl) rfl))) ?_
     rintro g _ _ ⟨_, ⟨p41, _, c43, C44, p45, _, c47, C48, p49, _, c51, C52, rfl, rfl, rfl, o44, rfl, o48, rfl, o52⟩, rfl⟩
     exact ⟨⟨[p41, p45, p49], [c43, c47, c51], [C44, C48, C52]⟩, ⟨o44, o48, o52⟩, .inr rfl, rfl⟩
    ·refine le rfl rfl (fun g hΦ s h hs hh => (stpU_alloc 10 tz37 rfl)) ?_
     rintro g _ _ ⟨b53, rfl, rfl⟩
     exact ⟨⟨[], [b53], []⟩, trivial, .inr rfl, rfl⟩
    refine le rfl rfl (fun g hΦ s h hs hh => (stpU_store (id := 10) (cs' := [.slice ((g 6).A 0) ((x40.1.t.b).length) ((g 6).C 0), .slice ((g 6).A 1) ((x40.1.t.f).length) ((g 6).C 1), .slice ((g 6).A 2) ((x40.1.c).length) ((g 6).C 2)]) ts37 (sv hs 6 rfl) (sv hs 48 rfl) (hh.get 10 _ rfl) rfl rfl rfl rfl)) ?_
    rintro g _ _ rfl
    exact ⟨⟨[], [], []⟩, trivial, .inl rfl, rfl⟩
   intro g hΦ
   refine kw_gen (ι := Option Addr × Option Addr × Option Addr × Nat × Nat × Nat × Res × Res × Res × Nat) (((g 6).A 0), ((g 6).A 1), ((g 6).A 2), ((g 6).C 0), ((g 6).C 1), ((g 6).C 2), ((g 6).R 0), ((g 6).R 1), ((g 6).R 2), ((g 10).C 0)) (fun | (p41, p45, p49, c43, c47, c51, C44, C48, C52, b53) => OwnC 3 p41 c43 x40.1.t.b C44 ∧ OwnC 71 p45 c47 x40.1.t.f C48 ∧ OwnD 53 55 p49 c51 x40.1.c C52) (fun | (p41, p45, p49, c43, c47, c51, C44, C48, C52, b53) => [(3, .pointer (some ⟨b15, 0, none⟩)), (4, .slice p17 ((x16).length) c19), (5, .int .i64 v37), (7, .bool x40.2)]) (fun | (p41, p45, p49, c43, c47, c51, C44, C48, C52, b53) => [(0, C6), (1, C10), (2, C14), (3, [(b15, .cells #[.slice p3 ((x2.t.b).length) c5, .slice p7 ((x2.t.f).length) c9, .slice p11 ((x2.c).length) c13] 37 (0, 0))]), (4, C20)]) ⟨(hΦ 6 (by decide)).1, (hΦ 6 (by decide)).2.1, (hΦ 6 (by decide)).2.2⟩ ⟨rfl, rfl, rfl, rfl, trivial⟩ ⟨rfl, rfl, rfl, rfl, rfl, trivial⟩ ?_
   rintro ⟨p41, p45, p49, c43, c47, c51, C44, C48, C52, b53⟩ ⟨o44, o48, o52⟩
   dsimp only
   obtain ⟨x54, e54, H1⟩ := bS H1
   obtain ⟨y55, ey55, H1⟩ := bS H1
   obtain ⟨y56, ey56, H1⟩ := bS H1
   refine kw_nx (cw_seq (cw_join (ι := Unit) (fun | _ => True) (fun | _ => [(3, .pointer (some ⟨b15, 0, none⟩)), (4, .slice p17 ((x16).length) c19), (5, .int .i64 v37), (78, .bool y56)]) (fun | _ => [(0, C6), (1, C10), (2, C14), (3, [(b15, .cells #[.slice p3 ((x2.t.b).length) c5, .slice p7 ((x2.t.f).length) c9, .slice p11 ((x2.c).length) c13] 37 (0, 0))]), (4, C20)]) ?_ ?_))
   ·rcases Bool.eq_false_or_eq_true x54.u with hy55 | hy55
    ·have ey55 := cond_t ey55 hy55
     have qy55 := sI ey55
     have hy56 : y55 = true := by rw [← qy55]
     have ey56 := cond_t ey56 hy56
     have qy56 := sI ey56
     refine rdq g_mixed [3, 4, 5] [1, 3, 4] { dst := dS [51, 52, 53, 54, 55, 56, 57, 58, 59, 60, 61, 62, 63, 64, 65, 66, 67, 68, 69, 70, 71, 72, 73, 74, 75, 76, 77, 78, 79], pre := gA [] [[], [0], [0, 1], [], [], [3, 4], [3, 4, 5], rn 0 7, rn 0 8, rn 0 9, rn 0 10, rn 0 11, rn 0 12, rn 0 13, rn 0 14, rn 0 15, rn 0 16, rn 0 17, rn 0 17, rn 0 19, rn 0 20, rn 0 17, rn 0 17, [0, 1, 2, 3, 4, 5, 6, 7, 8, 9, 10, 11, 12, 13, 14, 15, 16, 22], [0, 1, 2, 3, 4, 5, 6, 7, 8, 9, 10, 11, 12, 13, 14, 15, 16, 21, 22, 23], [0, 1, 2, 3, 4, 5, 6, 7, 8, 9, 10, 11, 12, 13, 14, 15, 16, 21, 22, 23, 24], rn 0 26, rn 0 27, rn 0 28], ids := fun _ => [], rs := rL [[(3, 0)], [(50, 1)], [(51, 2)], [(4, 0)], [(5, 0)], [(53, 4), (54, 5)], [(55, 6)], [(52, 3), (56, 7)], [(57, 8)], [(58, 9)], [(59, 10)], [(60, 11)], [(60, 11), (61, 12)], [(62, 13)], [(63, 14)], [(63, 14)], [(63, 14)], [(66, 17)], [(66, 17)], [(66, 17)], [(66, 17)], [(66, 17)], [(66, 17)], [(66, 17)], [(66, 17)], [(66, 17)], [(66, 17)], [(63, 14)], [(63, 14), (77, 28)]], rh := rL [[], [], [(3, 0)], [], [], [(4, 0)], [(4, 0)], [(1, 0)], [], [(1, 0)]], V := fun i g => gA undef [.pointer (some ⟨b15, 0, none⟩), .pointer (some ⟨b15, 1, none⟩), .slice p7 ((x2.t.f).length) c9, .slice p17 ((x16).length) c19, .int .i64 v37, .pointer (some ⟨eB p17, eO p17 + Int.toNat v37 * Enc.sz Int + 0, none⟩), .int .i64 x39, .pointer (some ⟨eB p7, eO p7 + Int.toNat x39 * Enc.sz F + 0, none⟩), .pointer (some ⟨eB p7, eO p7 + Int.toNat x39 * Enc.sz F + 0, none⟩), .bool x54.u, .bool x54.u, undef, .bool y55, .bool y55, undef, undef, undef, undef, undef, undef, undef, undef, undef, undef, undef, undef, undef, undef, .bool y56] i, U := fun _ _ => [], Φ := fun _ _ => True } ?_ ?_
     ·exact ⟨lc rfl rfl fun hs hh => stp_fieldAddr (j := 0) Tryd.underlying37 rfl ts34 rfl (sv hs 3 rfl) rfl, lc rfl rfl fun hs hh => stp_fieldAddr (j := 1) Tryd.underlying34 rfl ts32 rfl (sv hs 50 rfl) rfl, lc rfl rfl fun hs hh => stp_load1 ts32 (sv hs 51 rfl) (Cells.box (id := 3) (hh.get 3 _ rfl) 1 rfl), lM, lM, lc rfl rfl fun hs hh => stp_indexAddr Tryd.underlying22 ts3 (by decide) (sv hs 53 rfl) rfl (sv hs 54 rfl) (Rdb.own (id := 4) (hh.get 4 _ rfl) o20) e39, lc rfl rfl fun hs hh => stp_load1 ts3 (sv hs 55 rfl) (Cells.el (Rdb.own (id := 4) (hh.get 4 _ rfl) o20) (by decide) e39 0 1 rfl), lc rfl rfl fun hs hh => stp_indexAddr Tryd.underlying32 ts71 (by decide) (sv hs 52 rfl) rfl (sv hs 56 rfl) (Rdb.own (id := 1) (hh.get 1 _ rfl) o10) e54, lc rfl rfl fun hs hh => stp_fieldAddr (j := 0) Tryd.underlying71 rfl ts4 rfl (sv hs 57 rfl) rfl, lc rfl rfl fun hs hh => stp_load1 ts4 (sv hs 58 rfl) (Cells.el (Rdb.own (id := 1) (hh.get 1 _ rfl) o10) (by decide) e54 0 1 rfl), lM, lo rfl rfl 60 hy55, lc rfl rfl fun hs hh => stp_pick_tB (sv hs 60 rfl) hy55 rfl qy55, lM, lo rfl rfl 63 hy56, lo rfl rfl 63 hy56, lo rfl rfl 63 hy56, lx rfl rfl 66, lx rfl rfl 66, lx rfl rfl 66, lx rfl rfl 66, lx rfl rfl 66, lx rfl rfl 66, lx rfl rfl 66, lx rfl rfl 66, lx rfl rfl 66, lx rfl rfl 66, lo rfl rfl 63 hy56, lc rfl rfl fun hs hh => stp_pick_tB (sv hs 63 rfl) hy56 rfl qy56, trivial⟩
     intro g hΦ
     exact kw_join () trivial ⟨rfl, rfl, rfl, rfl, trivial⟩ ⟨rfl, rfl, rfl, rfl, rfl, trivial⟩
    have ey55 := cond_f ey55 hy55
    have qy55 := sI ey55
    rcases Bool.eq_false_or_eq_true y55 with hy56 | hy56
    ·have ey56 := cond_t ey56 hy56
     have qy56 := sI ey56
     refine rdq g_mixed [3, 4, 5, 7] [1, 3, 4] { dst := dS [51, 52, 53, 54, 55, 56, 57, 58, 59, 60, 61, 62, 63, 64, 65, 66, 67, 68, 69, 70, 71, 72, 73, 74, 75, 76, 77, 78, 79], pre := gA [] [[], [0], [0, 1], [], [], [3, 4], [3, 4, 5], rn 0 7, rn 0 8, rn 0 9, rn 0 10, rn 0 11, rn 0 12, rn 0 13, rn 0 14, rn 0 15, rn 0 16, rn 0 17, rn 0 17, rn 0 19, rn 0 20, rn 0 17, rn 0 17, [0, 1, 2, 3, 4, 5, 6, 7, 8, 9, 10, 11, 12, 13, 14, 15, 16, 22], [0, 1, 2, 3, 4, 5, 6, 7, 8, 9, 10, 11, 12, 13, 14, 15, 16, 21, 22, 23], [0, 1, 2, 3, 4, 5, 6, 7, 8, 9, 10, 11, 12, 13, 14, 15, 16, 21, 22, 23, 24], rn 0 26, rn 0 27, rn 0 28], ids := fun _ => [], rs := rL [[(3, 0)], [(50, 1)], [(51, 2)], [(4, 0)], [(5, 0)], [(53, 4), (54, 5)], [(55, 6)], [(52, 3), (56, 7)], [(57, 8)], [(58, 9)], [(59, 10)], [(7, 0), (60, 11)], [(60, 11), (61, 12)], [(62, 13)], [(63, 14)], [(63, 14)], [(63, 14)], [(66, 17)], [(66, 17)], [(66, 17)], [(66, 17)], [(66, 17)], [(66, 17)], [(66, 17)], [(66, 17)], [(66, 17)], [(66, 17)], [(63, 14)], [(63, 14), (77, 28)]], rh := rL [[], [], [(3, 0)], [], [], [(4, 0)], [(4, 0)], [(1, 0)], [], [(1, 0)]], V := fun i g => gA undef [.pointer (some ⟨b15, 0, none⟩), .pointer (some ⟨b15, 1, none⟩), .slice p7 ((x2.t.f).length) c9, .slice p17 ((x16).length) c19, .int .i64 v37, .pointer (some ⟨eB p17, eO p17 + Int.toNat v37 * Enc.sz Int + 0, none⟩), .int .i64 x39, .pointer (some ⟨eB p7, eO p7 + Int.toNat x39 * Enc.sz F + 0, none⟩), .pointer (some ⟨eB p7, eO p7 + Int.toNat x39 * Enc.sz F + 0, none⟩), .bool x54.u, .bool x54.u, .bool x40.2, .bool y55, .bool y55, undef, undef, undef, undef, undef, undef, undef, undef, undef, undef, undef, undef, undef, undef, .bool y56] i, U := fun _ _ => [], Φ := fun _ _ => True } ?_ ?_
     ·exact ⟨lc rfl rfl fun hs hh => stp_fieldAddr (j := 0) Tryd.underlying37 rfl ts34 rfl (sv hs 3 rfl) rfl, lc rfl rfl fun hs hh => stp_fieldAddr (j := 1) Tryd.underlying34 rfl ts32 rfl (sv hs 50 rfl) rfl, lc rfl rfl fun hs hh => stp_load1 ts32 (sv hs 51 rfl) (Cells.box (id := 3) (hh.get 3 _ rfl) 1 rfl), lM, lM, lc rfl rfl fun hs hh => stp_indexAddr Tryd.underlying22 ts3 (by decide) (sv hs 53 rfl) rfl (sv hs 54 rfl) (Rdb.own (id := 4) (hh.get 4 _ rfl) o20) e39, lc rfl rfl fun hs hh => stp_load1 ts3 (sv hs 55 rfl) (Cells.el (Rdb.own (id := 4) (hh.get 4 _ rfl) o20) (by decide) e39 0 1 rfl), lc rfl rfl fun hs hh => stp_indexAddr Tryd.underlying32 ts71 (by decide) (sv hs 52 rfl) rfl (sv hs 56 rfl) (Rdb.own (id := 1) (hh.get 1 _ rfl) o10) e54, lc rfl rfl fun hs hh => stp_fieldAddr (j := 0) Tryd.underlying71 rfl ts4 rfl (sv hs 57 rfl) rfl, lc rfl rfl fun hs hh => stp_load1 ts4 (sv hs 58 rfl) (Cells.el (Rdb.own (id := 1) (hh.get 1 _ rfl) o10) (by decide) e54 0 1 rfl), lM, lg rfl rfl 60 hy55 fun hs hh => stp_move (sv hs 7 rfl), lc rfl rfl fun hs hh => stp_pick_fB (sv hs 60 rfl) hy55 (sv hs 61 rfl) qy55, lM, lo rfl rfl 63 hy56, lo rfl rfl 63 hy56, lo rfl rfl 63 hy56, lx rfl rfl 66, lx rfl rfl 66, lx rfl rfl 66, lx rfl rfl 66, lx rfl rfl 66, lx rfl rfl 66, lx rfl rfl 66, lx rfl rfl 66, lx rfl rfl 66, lx rfl rfl 66, lo rfl rfl 63 hy56, lc rfl rfl fun hs hh => stp_pick_tB (sv hs 63 rfl) hy56 rfl qy56, trivial⟩
     intro g hΦ
     exact kw_join () trivial ⟨rfl, rfl, rfl, rfl, trivial⟩ ⟨rfl, rfl, rfl, rfl, rfl, trivial⟩
    have ey56 := cond_f ey56 hy56
    obtain ⟨y57, ey57, ey56⟩ := bS ey56
    rcases Bool.eq_false_or_eq_true (decide (0 < v37)) with hy57 | hy57
    ·have ey57 := cond_t ey57 hy57
     obtain ⟨x58, e58, ey57⟩ := bS ey57
     obtain ⟨x59, e59, ey57⟩ := bS ey57
     have qy57 := sI ey57
     have qy56 := sI ey56
     refine rdq g_mixed [3, 4, 5, 7] [1, 3, 4] { dst := dS [51, 52, 53, 54, 55, 56, 57, 58, 59, 60, 61, 62, 63, 64, 65, 66, 67, 68, 69, 70, 71, 72, 73, 74, 75, 76, 77, 78, 79], pre := gA [] [[], [0], [0, 1], [], [], [3, 4], [3, 4, 5], rn 0 7, rn 0 8, rn 0 9, rn 0 10, rn 0 11, rn 0 12, rn 0 13, rn 0 14, rn 0 15, rn 0 16, rn 0 17, rn 0 17, rn 0 19, rn 0 20, rn 0 17, rn 0 17, [0, 1, 2, 3, 4, 5, 6, 7, 8, 9, 10, 11, 12, 13, 14, 15, 16, 22], [0, 1, 2, 3, 4, 5, 6, 7, 8, 9, 10, 11, 12, 13, 14, 15, 16, 21, 22, 23], [0, 1, 2, 3, 4, 5, 6, 7, 8, 9, 10, 11, 12, 13, 14, 15, 16, 21, 22, 23, 24], rn 0 26, rn 0 27, rn 0 28], ids := fun _ => [], rs := rL [[(3, 0)], [(50, 1)], [(51, 2)], [(4, 0)], [(5, 0)], [(53, 4), (54, 5)], [(55, 6)], [(52, 3), (56, 7)], [(57, 8)], [(58, 9)], [(59, 10)], [(7, 0), (60, 11)], [(60, 11), (61, 12)], [(62, 13)], [(5, 0), (63, 14)], [(64, 15), (63, 14)], [(65, 16), (63, 14)], [(4, 0), (66, 17)], [(5, 0), (66, 17)], [(67, 18), (68, 19), (66, 17)], [(69, 20), (66, 17)], [(4, 0), (66, 17)], [(5, 0), (66, 17)], [(72, 23), (66, 17)], [(71, 22), (73, 24), (66, 17)], [(74, 25), (66, 17)], [(70, 21), (75, 26), (66, 17)], [(66, 17), (76, 27), (63, 14)], [(63, 14), (77, 28)]], rh := rL [[], [], [(3, 0)], [], [], [(4, 0)], [(4, 0)], [(1, 0)], [], [(1, 0)], [], [], [], [], [], [], [], [], [], [(4, 0)], [(4, 0)], [], [], [], [(4, 0)], [(4, 0)]], V := fun i g => gA undef [.pointer (some ⟨b15, 0, none⟩), .pointer (some ⟨b15, 1, none⟩), .slice p7 ((x2.t.f).length) c9, .slice p17 ((x16).length) c19, .int .i64 v37, .pointer (some ⟨eB p17, eO p17 + Int.toNat v37 * Enc.sz Int + 0, none⟩), .int .i64 x39, .pointer (some ⟨eB p7, eO p7 + Int.toNat x39 * Enc.sz F + 0, none⟩), .pointer (some ⟨eB p7, eO p7 + Int.toNat x39 * Enc.sz F + 0, none⟩), .bool x54.u, .bool x54.u, .bool x40.2, .bool y55, .bool y55, .int .i64 v37, .bool (decide (0 < v37)), .bool (decide (0 < v37)), .slice p17 ((x16).length) c19, .int .i64 v37, .pointer (some ⟨eB p17, eO p17 + Int.toNat v37 * Enc.sz Int + 0, none⟩), .int .i64 x39, .slice p17 ((x16).length) c19, .int .i64 v37, .int .i64 x58, .pointer (some ⟨eB p17, eO p17 + Int.toNat x58 * Enc.sz Int + 0, none⟩), .int .i64 x59, .bool (decide (x39 ≤ x59)), .bool y57, .bool y56] i, U := fun _ _ => [], Φ := fun _ _ => True } ?_ ?_
     ·exact ⟨lc rfl rfl fun hs hh => stp_fieldAddr (j := 0) Tryd.underlying37 rfl ts34 rfl (sv hs 3 rfl) rfl, lc rfl rfl fun hs hh => stp_fieldAddr (j := 1) Tryd.underlying34 rfl ts32 rfl (sv hs 50 rfl) rfl, lc rfl rfl fun hs hh => stp_load1 ts32 (sv hs 51 rfl) (Cells.box (id := 3) (hh.get 3 _ rfl) 1 rfl), lM, lM, lc rfl rfl fun hs hh => stp_indexAddr Tryd.underlying22 ts3 (by decide) (sv hs 53 rfl) rfl (sv hs 54 rfl) (Rdb.own (id := 4) (hh.get 4 _ rfl) o20) e39, lc rfl rfl fun hs hh => stp_load1 ts3 (sv hs 55 rfl) (Cells.el (Rdb.own (id := 4) (hh.get 4 _ rfl) o20) (by decide) e39 0 1 rfl), lc rfl rfl fun hs hh => stp_indexAddr Tryd.underlying32 ts71 (by decide) (sv hs 52 rfl) rfl (sv hs 56 rfl) (Rdb.own (id := 1) (hh.get 1 _ rfl) o10) e54, lc rfl rfl fun hs hh => stp_fieldAddr (j := 0) Tryd.underlying71 rfl ts4 rfl (sv hs 57 rfl) rfl, lc rfl rfl fun hs hh => stp_load1 ts4 (sv hs 58 rfl) (Cells.el (Rdb.own (id := 1) (hh.get 1 _ rfl) o10) (by decide) e54 0 1 rfl), lM, lg rfl rfl 60 hy55 fun hs hh => stp_move (sv hs 7 rfl), lc rfl rfl fun hs hh => stp_pick_fB (sv hs 60 rfl) hy55 (sv hs 61 rfl) qy55, lM, lg rfl rfl 63 hy56 fun hs hh => stp_move (sv hs 5 rfl), lg rfl rfl 63 hy56 fun hs hh => stp_gtr (sv hs 64 rfl) rfl, lg rfl rfl 63 hy56 fun hs hh => stp_move (sv hs 65 rfl), lg rfl rfl 66 hy57 fun hs hh => stp_move (sv hs 4 rfl), lg rfl rfl 66 hy57 fun hs hh => stp_move (sv hs 5 rfl), lg rfl rfl 66 hy57 fun hs hh => stp_indexAddr Tryd.underlying22 ts3 (by decide) (sv hs 67 rfl) rfl (sv hs 68 rfl) (Rdb.own (id := 4) (hh.get 4 _ rfl) o20) e39, lg rfl rfl 66 hy57 fun hs hh => stp_load1 ts3 (sv hs 69 rfl) (Cells.el (Rdb.own (id := 4) (hh.get 4 _ rfl) o20) (by decide) e39 0 1 rfl), lg rfl rfl 66 hy57 fun hs hh => stp_move (sv hs 4 rfl), lg rfl rfl 66 hy57 fun hs hh => stp_move (sv hs 5 rfl), lg rfl rfl 66 hy57 fun hs hh => stp_sub (sv hs 72 rfl) rfl e58, lg rfl rfl 66 hy57 fun hs hh => stp_indexAddr Tryd.underlying22 ts3 (by decide) (sv hs 71 rfl) rfl (sv hs 73 rfl) (Rdb.own (id := 4) (hh.get 4 _ rfl) o20) e59, lg rfl rfl 66 hy57 fun hs hh => stp_load1 ts3 (sv hs 74 rfl) (Cells.el (Rdb.own (id := 4) (hh.get 4 _ rfl) o20) (by decide) e59 0 1 rfl), lg rfl rfl 66 hy57 fun hs hh => stp_leq (sv hs 70 rfl) (sv hs 75 rfl), lg rfl rfl 63 hy56 fun hs hh => stp_pick_tB (sv hs 66 rfl) hy57 (sv hs 76 rfl) qy57, lc rfl rfl fun hs hh => stp_pick_fB (sv hs 63 rfl) hy56 (sv hs 77 rfl) qy56, trivial⟩
     intro g hΦ
     exact kw_join () trivial ⟨rfl, rfl, rfl, rfl, trivial⟩ ⟨rfl, rfl, rfl, rfl, rfl, trivial⟩
    have ey57 := cond_f ey57 hy57
    have qy57 := sI ey57
    have qy56 := sI ey56
    refine rdq g_mixed [3, 4, 5, 7] [1, 3, 4] { dst := dS [51, 52, 53, 54, 55, 56, 57, 58, 59, 60, 61, 62, 63, 64, 65, 66, 67, 68, 69, 70, 71, 72, 73, 74, 75, 76, 77, 78, 79], pre := gA [] [[], [0], [0, 1], [], [], [3, 4], [3, 4, 5], rn 0 7, rn 0 8, rn 0 9, rn 0 10, rn 0 11, rn 0 12, rn 0 13, rn 0 14, rn 0 15, rn 0 16, rn 0 17, rn 0 17, rn 0 19, rn 0 20, rn 0 17, rn 0 17, [0, 1, 2, 3, 4, 5, 6, 7, 8, 9, 10, 11, 12, 13, 14, 15, 16, 22], [0, 1, 2, 3, 4, 5, 6, 7, 8, 9, 10, 11, 12, 13, 14, 15, 16, 21, 22, 23], [0, 1, 2, 3, 4, 5, 6, 7, 8, 9, 10, 11, 12, 13, 14, 15, 16, 21, 22, 23, 24], rn 0 26, rn 0 27, rn 0 28], ids := fun _ => [], rs := rL [[(3, 0)], [(50, 1)], [(51, 2)], [(4, 0)], [(5, 0)], [(53, 4), (54, 5)], [(55, 6)], [(52, 3), (56, 7)], [(57, 8)], [(58, 9)], [(59, 10)], [(7, 0), (60, 11)], [(60, 11), (61, 12)], [(62, 13)], [(5, 0), (63, 14)], [(64, 15), (63, 14)], [(65, 16), (63, 14)], [(66, 17)], [(66, 17)], [(66, 17)], [(66, 17)], [(66, 17)], [(66, 17)], [(66, 17)], [(66, 17)], [(66, 17)], [(66, 17)], [(66, 17), (76, 27), (63, 14)], [(63, 14), (77, 28)]], rh := rL [[], [], [(3, 0)], [], [], [(4, 0)], [(4, 0)], [(1, 0)], [], [(1, 0)]], V := fun i g => gA undef [.pointer (some ⟨b15, 0, none⟩), .pointer (some ⟨b15, 1, none⟩), .slice p7 ((x2.t.f).length) c9, .slice p17 ((x16).length) c19, .int .i64 v37, .pointer (some ⟨eB p17, eO p17 + Int.toNat v37 * Enc.sz Int + 0, none⟩), .int .i64 x39, .pointer (some ⟨eB p7, eO p7 + Int.toNat x39 * Enc.sz F + 0, none⟩), .pointer (some ⟨eB p7, eO p7 + Int.toNat x39 * Enc.sz F + 0, none⟩), .bool x54.u, .bool x54.u, .bool x40.2, .bool y55, .bool y55, .int .i64 v37, .bool (decide (0 < v37)), .bool (decide (0 < v37)), undef, undef, undef, undef, undef, undef, undef, undef, undef, undef, .bool y57, .bool y56] i, U := fun _ _ => [], Φ := fun _ _ => True } ?_ ?_
    ·exact ⟨lc rfl rfl fun hs hh => stp_fieldAddr (j := 0) Tryd.underlying37 rfl ts34 rfl (sv hs 3 rfl) rfl, lc rfl rfl fun hs hh => stp_fieldAddr (j := 1) Tryd.underlying34 rfl ts32 rfl (sv hs 50 rfl) rfl, lc rfl rfl fun hs hh => stp_load1 ts32 (sv hs 51 rfl) (Cells.box (id := 3) (hh.get 3 _ rfl) 1 rfl), lM, lM, lc rfl rfl fun hs hh => stp_indexAddr Tryd.underlying22 ts3 (by decide) (sv hs 53 rfl) rfl (sv hs 54 rfl) (Rdb.own (id := 4) (hh.get 4 _ rfl) o20) e39, lc rfl rfl fun hs hh => stp_load1 ts3 (sv hs 55 rfl) (Cells.el (Rdb.own (id := 4) (hh.get 4 _ rfl) o20) (by decide) e39 0 1 rfl), lc rfl rfl fun hs hh => stp_indexAddr Tryd.underlying32 ts71 (by decide) (sv hs 52 rfl) rfl (sv hs 56 rfl) (Rdb.own (id := 1) (hh.get 1 _ rfl) o10) e54, lc rfl rfl fun hs hh => stp_fieldAddr (j := 0) Tryd.underlying71 rfl ts4 rfl (sv hs 57 rfl) rfl, lc rfl rfl fun hs hh => stp_load1 ts4 (sv hs 58 rfl) (Cells.el (Rdb.own (id := 1) (hh.get 1 _ rfl) o10) (by decide) e54 0 1 rfl), lM, lg rfl rfl 60 hy55 fun hs hh => stp_move (sv hs 7 rfl), lc rfl rfl fun hs hh => stp_pick_fB (sv hs 60 rfl) hy55 (sv hs 61 rfl) qy55, lM, lg rfl rfl 63 hy56 fun hs hh => stp_move (sv hs 5 rfl), lg rfl rfl 63 hy56 fun hs hh => stp_gtr (sv hs 64 rfl) rfl, lg rfl rfl 63 hy56 fun hs hh => stp_move (sv hs 65 rfl), lo rfl rfl 66 hy57, lo rfl rfl 66 hy57, lo rfl rfl 66 hy57, lo rfl rfl 66 hy57, lo rfl rfl 66 hy57, lo rfl rfl 66 hy57, lo rfl rfl 66 hy57, lo rfl rfl 66 hy57, lo rfl rfl 66 hy57, lo rfl rfl 66 hy57, lg rfl rfl 63 hy56 fun hs hh => stp_pick_fB (sv hs 66 rfl) hy57 rfl qy57, lc rfl rfl fun hs hh => stp_pick_fB (sv hs 63 rfl) hy56 (sv hs 77 rfl) qy56, trivial⟩
    intro g hΦ
    exact kw_join () trivial ⟨rfl, rfl, rfl, rfl, trivial⟩ ⟨rfl, rfl, rfl, rfl, rfl, trivial⟩
   rintro _ -
   dsimp only
   refine kw_nx (cw_cond rfl (fun h60 => ?_) (fun h60 => ?_))
   ·have H1 := cond_t H1 h60
    refine sr (oS rfl (nn (cw_ret (kw_bl_ret (kw_nx_ret (kw_lq_ret (kw_bl_ret (kw_join_ret (kw_nx_ret ?_)))))))))
    obtain rfl := sI H1
    obtain rfl := sI H0
    exact kr Tryd.results9 (rT rfl) [] ⟨rfl, rfl⟩
   have H1 := cond_f H1 h60
   obtain ⟨x61, e61, H1⟩ := bS H1
   exact cw_skip (kw_bl_normal (kw_nx (cw_region (oM rfl (oP e61 rfl (oS rfl (ow_nil (kw_lqS (js := [0, 1, 2, 3, 4]) (fuel, x61) H1 (Nat.lt_succ_self _) ⟨rfl, rfl, rfl, trivial⟩ ⟨0, [1, 2, 3, 4], rfl, rfl, 1, [2, 3, 4], rfl, rfl, 2, [3, 4], rfl, rfl, 3, [4], rfl, rfl, 4, [], rfl, rfl, trivial⟩ (by decide)))))))))
  have H1 := cond_f H1 h38
  refine cw_exit (kw_nx_exit (kw_lq_exit (kw_bl ?_)))
  obtain rfl := sI H1
  exact kw_joinS (js := [0, 1, 2, 3, 4]) v37 rfl ⟨rfl, rfl, rfl, trivial⟩ ⟨0, [1, 2, 3, 4], rfl, rfl, 1, [2, 3, 4], rfl, rfl, 2, [3, 4], rfl, rfl, 3, [4], rfl, rfl, 4, [], rfl, rfl, trivial⟩ (by decide)
 rintro v37 rfl
 dsimp only
 refine kw_nx (sr (oS rfl (nn (cw_ret ?_))))
 obtain rfl := sI H0
 exact kr Tryd.results9 (rT rfl) [] ⟨rfl, rfl⟩
end Go.Proofs.YtfnliecmagnkdabDoor
