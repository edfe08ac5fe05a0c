/- The walks: functions of the program return what their pure functions say. Printed by a program (gen.py). -/
import Derived.Test.YtfnliecmagnkdabDoorBp
import Derived.Test.YtfnliecmagnkdabDoorBt
import Derived.Test.YtfnliecmagnkdabDoorMan
import Derived.Test.YtfnliecmagnkdabDoorMap
import Derived.Test.YtfnliecmagnkdabDoorCpy
import Derived.Test.YtfnliecmagnkdabDoorClr
import Derived.Test.YtfnliecmagnkdabDoorDp
import Derived.Test.YtfnliecmagnkdabDoorSrt
import Derived.Test.YtfnliecmagnkdabDoorE8
import Derived.Test.YtfnliecmagnkdabDoorBwab
import Derived.Test.YtfnliecmagnkdabDoorBwae
import Derived.Test.YtfnliecmagnkdabDoorBwaf
import Derived.Test.YtfnliecmagnkdabDoorBwaj
import Derived.Test.YtfnliecmagnkdabDoorBwal
import Derived.Test.YtfnliecmagnkdabDoorBwan
import Derived.Test.YtfnliecmagnkdabDoorBwao
import Derived.Test.YtfnliecmagnkdabDoorBwap
import Derived.Test.YtfnliecmagnkdabDoorBwaq
import Derived.Test.YtfnliecmagnkdabDoorBws
set_option linter.unusedSimpArgs false
set_option linter.unusedVariables false
set_option linter.unusedSectionVars false
namespace Go.Proofs.YtfnliecmagnkdabDoor
open Go.RowKit
set_option maxHeartbeats 4000000
set_option maxRecDepth 20000
variable {p0_0 p0_1 p0_2 : Option Addr} {n0_0 n0_1 n0_2 : Nat} {c0_0 c0_1 c0_2 : Nat} {C0_0 : Res}
theorem c_s_DrawUnmapSystem (fl : Nat) (w : World) (a0 : (List UInt8)) (hn0_0 : n0_0 = (a0).length) (hr0_0 : RO w (hkeys []) (RdL p0_0 c0_0 a0)) (r : Sy × Int × K) (H0 : s_DrawUnmapSystem fl a0 = some r) :
  Ct Tryd.prog 24 [.slice p0_0 n0_0 c0_0] w [] (fun rv h' => ∃ (x0 : Option Addr) (y0 z0 : Nat) (C0 : Res) (x1 : Option Addr) (y1 z1 : Nat) (C1 : Res) (x2 : Option Addr) (y2 z2 : Nat) (C2 : Res), rv = .tuple #[.agg #[.slice x0 y0 z0, .slice x1 y1 z1, .slice x2 y2 z2], .int .i64 r.2.1, .agg #[.int .i64 r.2.2.s, .int .i64 r.2.2.p]] ∧ h' = [(0, C0), (1, C1), (2, C2)] ∧ y0 = (r.1.t.b).length ∧ OwnC 3 x0 z0 r.1.t.b C0 ∧ y1 = (r.1.t.f).length ∧ OwnC 71 x1 z1 r.1.t.f C1 ∧ y2 = (r.1.c).length ∧ OwnD 53 55 x2 z2 r.1.c C2) := by
 subst hn0_0
 unfold s_DrawUnmapSystem at H0
 refine ct_of_cw Tryd.func24 rfl Tryd.ntmps24 rfl (Sat.refl _ _) ?_
 refine sr (oE (stpU_alloc 0 tz37 rfl) rfl ?_)
 rintro _ _ ⟨b1, rfl, rfl⟩
 refine oS rfl (oE (stpU_alloc 1 tz41 rfl) rfl ?_)
 rintro _ _ ⟨b2, rfl, rfl⟩
 obtain ⟨x3, e3, H0⟩ := bS H0
 refine nn (sr (oM rfl (oE (stpU_call (fun i => 2 + i) cf58 (fun w hw => c_s_l8At fl w a0 rfl (RO.pass hr0_0 hw) x3 e3) (yA rfl)) rfl ?_)))
 rintro _ _ ⟨_, ⟨p4, _, c6, C7, p8, _, c10, C11, p12, _, c14, C15, rfl, rfl, rfl, o7, rfl, o11, rfl, o15⟩, rfl⟩
 refine oT rfl (oT rfl (oT rfl (oC3 0 ts37 rfl rfl (oS rfl (oC2 1 ts41 rfl rfl (nn (cw_ret ?_)))))))
 obtain rfl := sI H0
 exact kr Tryd.results24 (.cons (.cellN (us := [_, _, _]) ts37 rfl (Cells.box (id := 0) rfl 3 rfl)) (.cons (.tmp rfl) (rC2 1 ts41 rfl rfl))) [2, 3, 4] ⟨_, _, _, _, _, _, _, _, _, _, _, _, rfl, rfl, rfl, o7, rfl, o11, rfl, o15⟩

theorem c_i_Table_chain (fl : Nat) (w : World) (a0 : T) (a1 : Int) (hn0_0 : n0_0 = (a0.b).length) (hr0_0 : RO w (hkeys []) (RdL p0_0 c0_0 a0.b)) (hn0_1 : n0_1 = (a0.f).length) (hr0_1 : RO w (hkeys []) (RdL p0_1 c0_1 a0.f)) (r : (List Int)) (H0 : i_Table_chain fl a0 a1 = some r) :
  Ct Tryd.prog 78 [.agg #[.slice p0_0 n0_0 c0_0, .slice p0_1 n0_1 c0_1], .int .i64 a1] w [] (fun rv h' => ∃ (x0 : Option Addr) (y0 z0 : Nat) (C0 : Res), rv = .slice x0 y0 z0 ∧ h' = [(0, C0)] ∧ y0 = (r).length ∧ OwnC 3 x0 z0 r C0) := by
 subst hn0_0 hn0_1
 unfold i_Table_chain at H0
 refine ct_of_cw Tryd.func78 rfl Tryd.ntmps78 rfl (Sat.refl _ _) ?_
 refine sr (oE (stpU_box 0 rfl rfl) rfl ?_)
 rintro _ _ ⟨b1, rfl, rfl⟩
 obtain ⟨x2, e2, H0⟩ := bS H0
 refine oS rfl (nn (sr (oS rfl (nn (cw_seq (sr (oA 0 Tryd.underlying34 rfl ts22 rfl (oL 0 ts22 rfl (oM rfl (oD (stp_indexAddr Tryd.underlying22 ts3 (by decide) rfl rfl rfl (Rdb.ro hr0_0) e2) rfl (oD (stp_load1 ts3 rfl (Cells.el (Rdb.ro hr0_0) (by decide) e2 0 1 rfl)) rfl (oS rfl (nn ?_)))))))))))))
 obtain ⟨o0_0, eo0_0, H0⟩ := bS H0
 refine cw_addNil 1 (cw_join (ι := (List Int) × Int × Option Addr × Nat × Nat × Res) (fun | (v3, v8, p4, n5, c6, C7) => o0_0 = .out (v3, v8) ∧ n5 = (v3).length ∧ OwnC 3 p4 c6 v3 C7) (fun | (v3, v8, p4, n5, c6, C7) => [(2, .pointer (some ⟨b1, 0, none⟩)), (5, .slice p4 n5 c6), (6, .int .i64 v8)]) (fun | (v3, v8, p4, n5, c6, C7) => [(0, [(b1, .cells #[.slice p0_0 ((a0.b).length) c0_0, .slice p0_1 ((a0.f).length) c0_1] 34 (0, 0))]), (1001, C7)]) ?_ ?_)
 ·refine cw_block (cw_loopS (ι := Nat × (List Int) × Int × Option Addr × Nat × Nat × Res) (js := [0, 1]) (fun x => x.1) (fun | (fuel, v3, v8, p4, n5, c6, C7) => i_Table_chain_L0 fl a0 fuel v3 v8 = some o0_0 ∧ n5 = (v3).length ∧ OwnC 3 p4 c6 v3 C7) (fun | (_, v3, v8, p4, n5, c6, C7) => [(2, .pointer (some ⟨b1, 0, none⟩)), (5, .slice p4 n5 c6), (6, .int .i64 v8)]) (fun | (_, v3, v8, p4, n5, c6, C7) => [(0, [(b1, .cells #[.slice p0_0 ((a0.b).length) c0_0, .slice p0_1 ((a0.f).length) c0_1] 34 (0, 0))]), (1001, C7)]) (fl, [], x2, none, 0, 0, []) ⟨eo0_0, rfl, (OwnC.nil _ _)⟩ ⟨rfl, rfl, rfl, trivial⟩ ⟨0, [1], rfl, rfl, 1, [], rfl, rfl, trivial⟩ (by decide) ?_)
  rintro ⟨fuel, v3, v8, p4, _, c6, C7⟩ ⟨H1, rfl, o7⟩
  have H1 : i_Table_chain_L0 fl a0 fuel v3 v8 = some o0_0 := H1
  rcases fuel with _ | fuel
  ·rw [i_Table_chain_L0.eq_1] at H1; cases H1
  rw [i_Table_chain_L0.eq_2] at H1
  dsimp only
  refine cw_seq (sr (oM rfl (oU rfl (nn (cw_cond rfl (fun h9 => ?_) (fun h9 => ?_))))))
  ·have H1 := cond_t H1 h9
   refine cw_skip (kw_nx (cw_seq (cw_block (cw_region (oM rfl (oM rfl (oE (stpU_lit (sz := 1) (l := [v8]) [.int .i64 v8] sl22 2 (sevp_cons rfl sevp_nil) rfl rfl rfl rfl rfl rfl rfl rfl rfl) rfl ?_)))))))
   rintro _ _ ⟨p10, C11, rfl, rfl, o11⟩
   obtain ⟨x12, e12, H1⟩ := bS H1
   refine oE (stpU_append sl22 rfl (id := 1001) rfl rfl rfl (by simp) rfl o7 (Rdb.own (id := 2) rfl o11) e12) rfl ?_
   rintro _ _ ⟨p13, c14, C15, rfl, rfl, o15⟩
   obtain ⟨x16, e16, H1⟩ := bS H1
   exact oS rfl (ow_nil (kw_bl_normal (kw_nx (cw_region (oA 1 Tryd.underlying34 rfl ts32 rfl (oL 0 ts32 rfl (oM rfl (oD (stp_indexAddr Tryd.underlying32 ts71 (by decide) rfl rfl rfl (Rdb.ro hr0_1) e16) rfl (oA 4 Tryd.underlying71 rfl ts3 rfl (oD (stp_load1 ts3 rfl (Cells.el (Rdb.ro hr0_1) (by decide) e16 4 1 rfl)) rfl (oS rfl (ow_nil (kw_lqS (js := [0, 1001]) (fuel, x12, x16.nx, p13, ((x12).length), c14, C15) ⟨H1, rfl, o15⟩ (Nat.lt_succ_self _) ⟨rfl, rfl, rfl, trivial⟩ ⟨0, [1001], rfl, rfl, 1001, [], rfl, rfl, trivial⟩ (by decide))))))))))))))
  have H1 := cond_f H1 h9
  refine cw_exit (kw_nx_exit (kw_lq_exit (kw_bl ?_)))
  obtain rfl := sI H1
  exact kw_joinS (js := [0, 1001]) (v3, v8, p4, ((v3).length), c6, C7) ⟨rfl, rfl, o7⟩ ⟨rfl, rfl, rfl, trivial⟩ ⟨0, [1001], rfl, rfl, 1001, [], rfl, rfl, trivial⟩ (by decide)
 rintro ⟨v3, v8, p4, _, c6, C7⟩ ⟨rfl, rfl, o7⟩
 dsimp only
 refine kw_nx (sr (oM rfl (oE (stpU_call (fun i => i) cf82 (fun w hw => c_clip82 w p4 ((v3).length) c6 (OwnC.len o7).1) (yA rfl)) rfl ?_)))
 rintro _ _ ⟨_, ⟨rfl, rfl⟩, rfl⟩
 refine oS rfl (nn (cw_ret ?_))
 obtain rfl := sI H0
 exact kr Tryd.results78 (rT rfl) [1001] ⟨_, _, _, _, rfl, rfl, rfl, (OwnC.clip o7)⟩

theorem c_i_FindPage (fl : Nat) (w : World) (a0 : T) (a1 : K) (hn0_0 : n0_0 = (a0.b).length) (hr0_0 : RO w (hkeys []) (RdL p0_0 c0_0 a0.b)) (hn0_1 : n0_1 = (a0.f).length) (hr0_1 : RO w (hkeys []) (RdL p0_1 c0_1 a0.f)) (hg : RO w (hkeys []) (fun w' => w'.rangeAt 0 0 [.bool false, .int .i64 0, .int .i64 0, .int .i64 0, .int .i64 (-1)])) (r : Int × Int × Bool) (H0 : i_FindPage fl a0 a1 = some r) :
  Ct Tryd.prog 26 [.agg #[.slice p0_0 n0_0 c0_0, .slice p0_1 n0_1 c0_1], .agg #[.int .i64 a1.s, .int .i64 a1.p]] w [] (fun rv h' => rv = .tuple #[.int .i64 r.1, .int .i64 r.2.1, .bool r.2.2] ∧ h' = []) := by
 subst hn0_0 hn0_1
 unfold i_FindPage at H0
 refine ct_of_cw Tryd.func26 rfl Tryd.ntmps26 rfl (Sat.refl _ _) ?_
 refine sr (oE (stpU_box 0 rfl rfl) rfl ?_)
 rintro _ _ ⟨b1, rfl, rfl⟩
 refine oE (stpU_box 1 rfl rfl) rfl ?_
 rintro _ _ ⟨b2, rfl, rfl⟩
 obtain ⟨x3, e3, H0⟩ := bS H0
 refine oS rfl (oS rfl (oS rfl (nn (cw_seq (sr (oB2 0 ts34 rfl (oE (stpU_call (fun i => 2 + i) cf74 (fun w hw => c_i_TableValid fl w a0 rfl (RO.pass hr0_0 hw) rfl (RO.pass hr0_1 hw) (RO.pass hg hw) x3 e3) (yA rfl)) rfl ?_)))))))
 rintro _ _ ⟨_, ⟨rfl, rfl⟩, rfl⟩
 obtain ⟨y4, ey4, H0⟩ := bS H0
 refine oK rfl (oM rfl (ow_cutY 4 17 y4 ?_ ?_))
 ·rcases Bool.eq_false_or_eq_true (!x3) with hy4 | hy4
  ·have ey4 := cond_t ey4 hy4
   refine oO rfl hy4 rfl (oO rfl hy4 rfl (oO rfl hy4 rfl (oD (stp_pick_t rfl hy4 rfl) rfl ?_)))
   obtain rfl := sI ey4
   exact ow_nil (jy 4 0)
  have ey4 := cond_f ey4 hy4
  obtain ⟨x5, e5, ey4⟩ := bS ey4
  refine oG rfl hy4 (stp_loadN (us := [_, _]) ts41 rfl (Cells.box (id := 1) rfl 2 rfl)) rfl (ow_eff (.some rfl hy4) (stpU_call (fun i => 2 + i) cf46 (fun w hw => c_i_KeyValid fl w a1 x5 e5) (yA rfl)) rfl ?_)
  rintro _ _ ⟨_, ⟨rfl, rfl⟩, rfl⟩
  refine oG rfl hy4 (stp_not rfl) rfl (oD (stp_pick_f rfl hy4 rfl) rfl ?_)
  obtain rfl := sI ey4
  exact ow_nil (jy 4 0)
 refine ow_nil (kw_nx (cw_cond rfl (fun h6 => ?_) (fun h6 => ?_)))
 ·have H0 := cond_t H0 h6
  refine sr (oS rfl (oS rfl (oS rfl (nn (cw_ret (kw_nx_ret ?_))))))
  obtain rfl := sI H0
  exact kr Tryd.results26 (.cons (.tmp rfl) (.cons (.tmp rfl) (rT rfl))) [] ⟨rfl, rfl⟩
 have H0 := cond_f H0 h6
 obtain ⟨x7, e7, H0⟩ := bS H0
 obtain ⟨x8, e8, H0⟩ := bS H0
 refine cw_skip (kw_nx (cw_seq (rdq g_mixed [2, 3] [0, 1] { dst := dS [19, 20, 21, 22, 23, 24, 25, 8], pre := gA [] [[], [], [], [2], [2, 3], rn 1 4, rn 0 6, rn 0 7], ids := gA [] [[], [], [], [], [], [], [2]], rs := rL [[(2, 0)], [(3, 0)], [(2, 0)], [(20, 3)], [(21, 4)], [(19, 2), (22, 5)], [(18, 1), (23, 6)], [(24, 7)]], rh := rL [[(0, 0)], [(1, 0)], [], [(0, 0)]], V := fun i g => gA undef [.agg #[.slice p0_0 ((a0.b).length) c0_0, .slice p0_1 ((a0.f).length) c0_1], .agg #[.int .i64 a1.s, .int .i64 a1.p], .pointer (some ⟨b1, 0, none⟩), .slice p0_0 ((a0.b).length) c0_0, .int .i64 ((a0.b).length : Int), .int .i64 x7, .slice ((g 6).A 0) ((x8).length) ((g 6).C 0), .slice ((g 6).A 0) ((x8).length) ((g 6).C 0)] i, U := fun i g => match i with | 6 => [(2, ((g 6).R 0))] | _ => [], Φ := fun i x => match i with | 6 => OwnC 3 (x.A 0) (x.C 0) x8 (x.R 0) | _ => True } ?_ ?_)))
 ·refine ⟨lc rfl rfl fun hs hh => stp_loadN (us := [_, _]) ts34 (sv hs 2 rfl) (Cells.box (id := 0) (hh.get 0 _ rfl) 2 rfl), lc rfl rfl fun hs hh => stp_loadN (us := [_, _]) ts41 (sv hs 3 rfl) (Cells.box (id := 1) (hh.get 1 _ rfl) 2 rfl), lc rfl rfl fun hs hh => stp_fieldAddr (j := 0) Tryd.underlying34 rfl ts22 rfl (sv hs 2 rfl) rfl, lc rfl rfl fun hs hh => stp_load1 ts22 (sv hs 20 rfl) (Cells.box (id := 0) (hh.get 0 _ rfl) 1 rfl), lc rfl rfl fun hs hh => stp_len Tryd.underlying22 (sv hs 21 rfl), ?_, ?_, lS, trivial⟩
  ·refine le rfl rfl (fun g hΦ s h hs hh => (stpU_call (fun i => 2 + i) cf79 (fun w hw => c_i_hash fl w a1 ((a0.b).length : Int) x7 e7) (yB (sv hs 19 rfl) (sv hs 22 rfl)))) ?_
   rintro g _ _ ⟨_, ⟨rfl, rfl⟩, rfl⟩
   exact ⟨⟨[], [], []⟩, trivial, .inr rfl, rfl⟩
  refine le rfl rfl (fun g hΦ s h hs hh => (stpU_call (fun i => 2 + i) cf78 (fun w hw => c_i_Table_chain fl w a0 x7 rfl (RO.pass hr0_0 hw) rfl (RO.pass hr0_1 hw) x8 e8) (yB (sv hs 18 rfl) (sv hs 23 rfl)))) ?_
  rintro g _ _ ⟨_, ⟨p9, _, c11, C12, rfl, rfl, rfl, o12⟩, rfl⟩
  exact ⟨⟨[p9], [c11], [C12]⟩, o12, .inr rfl, rfl⟩
 intro g hΦ
 refine kw_gen (ι := Option Addr × Nat × Res) (((g 6).A 0), ((g 6).C 0), ((g 6).R 0)) (fun | (p9, c11, C12) => OwnC 3 p9 c11 x8 C12) (fun | (p9, c11, C12) => [(2, .pointer (some ⟨b1, 0, none⟩)), (3, .pointer (some ⟨b2, 0, none⟩)), (7, .slice p9 ((x8).length) c11)]) (fun | (p9, c11, C12) => [(0, [(b1, .cells #[.slice p0_0 ((a0.b).length) c0_0, .slice p0_1 ((a0.f).length) c0_1] 34 (0, 0))]), (1, [(b2, .cells #[.int .i64 a1.s, .int .i64 a1.p] 41 (0, 0))]), (2, C12)]) (hΦ 6 (by decide)) ⟨rfl, rfl, rfl, trivial⟩ ⟨rfl, rfl, rfl, trivial⟩ ?_
 rintro ⟨p9, c11, C12⟩ o12
 have o12 : OwnC 3 p9 c11 x8 C12 := o12
 dsimp only
 obtain ⟨o0_0, eo0_0, H0⟩ := bS H0
 refine kw_nx (cw_seq (sr (oM rfl (oD (stp_len Tryd.underlying22 rfl) rfl (oM rfl (nn (cw_join (ι := Int) (fun | v13 => o0_0 = .out v13) (fun | v13 => [(2, .pointer (some ⟨b1, 0, none⟩)), (3, .pointer (some ⟨b2, 0, none⟩)), (7, .slice p9 ((x8).length) c11), (25, .slice p9 ((x8).length) c11), (26, .int .i64 ((x8).length : Int)), (27, .int .i64 v13)]) (fun | v13 => [(0, [(b1, .cells #[.slice p0_0 ((a0.b).length) c0_0, .slice p0_1 ((a0.f).length) c0_1] 34 (0, 0))]), (1, [(b2, .cells #[.int .i64 a1.s, .int .i64 a1.p] 41 (0, 0))]), (2, C12)]) ?_ ?_)))))))
 ·refine cw_block (cw_loopS (ι := Nat × Int) (js := [0, 1, 2]) (fun x => x.1) (fun | (fuel, v13) => i_FindPage_L0 fl a0 a1 x8 fuel v13 = some o0_0) (fun | (_, v13) => [(2, .pointer (some ⟨b1, 0, none⟩)), (3, .pointer (some ⟨b2, 0, none⟩)), (7, .slice p9 ((x8).length) c11), (25, .slice p9 ((x8).length) c11), (26, .int .i64 ((x8).length : Int)), (27, .int .i64 v13)]) (fun | (_, v13) => [(0, [(b1, .cells #[.slice p0_0 ((a0.b).length) c0_0, .slice p0_1 ((a0.f).length) c0_1] 34 (0, 0))]), (1, [(b2, .cells #[.int .i64 a1.s, .int .i64 a1.p] 41 (0, 0))]), (2, C12)]) (fl, 0) eo0_0 ⟨rfl, rfl, rfl, rfl, rfl, rfl, trivial⟩ ⟨0, [1, 2], rfl, rfl, 1, [2], rfl, rfl, 2, [], rfl, rfl, trivial⟩ (by decide) ?_)
  rintro ⟨fuel, v13⟩ H1
  have H1 : i_FindPage_L0 fl a0 a1 x8 fuel v13 = some o0_0 := H1
  rcases fuel with _ | fuel
  ·rw [i_FindPage_L0.eq_1] at H1; cases H1
  rw [i_FindPage_L0.eq_2] at H1
  dsimp only
  refine sr (oW rfl (nn (cw_seq (cw_cond rfl (fun h14 => ?_) (fun h14 => ?_)))))
  ·have H1 := cond_t H1 h14
   obtain ⟨x15, e15, H1⟩ := bS H1
   obtain ⟨x16, e16, H1⟩ := bS H1
   refine cw_skip (kw_nx (cw_seq (cw_block (sr (oM rfl (oD (stp_indexAddr Tryd.underlying22 ts3 (by decide) rfl rfl rfl (Rdb.own (id := 2) rfl o12) e15) rfl (oD (stp_load1 ts3 rfl (Cells.el (Rdb.own (id := 2) rfl o12) (by decide) e15 0 1 rfl)) rfl (oS rfl (oS rfl (nn (cw_seq (rdq g_mixed [2, 3, 9] [0, 1] { dst := dS [33, 34, 35, 36, 37, 38, 39, 40], pre := gA [] [[], [0], [], [0, 1, 2], rn 0 4, rn 0 5, [], rn 0 7], ids := fun _ => [], rs := rL [[(2, 0)], [(32, 1)], [(9, 0)], [(33, 2), (34, 3)], [(35, 4)], [(36, 5)], [(3, 0)], [(37, 6), (38, 7)]], rh := rL [[], [(0, 0)], [], [], [], [], [(1, 0)]], V := fun i g => gA undef [.pointer (some ⟨b1, 1, none⟩), .slice p0_1 ((a0.f).length) c0_1, .int .i64 x15, .pointer (some ⟨eB p0_1, eO p0_1 + Int.toNat x15 * Enc.sz F + 0, none⟩), .pointer (some ⟨eB p0_1, eO p0_1 + Int.toNat x15 * Enc.sz F + 1, none⟩), .agg #[.int .i64 x16.k.s, .int .i64 x16.k.p], .agg #[.int .i64 a1.s, .int .i64 a1.p], .bool (x16.k == a1)] i, U := fun _ _ => [], Φ := fun _ _ => True } ?_ ?_))))))))))))
   ·exact ⟨lc rfl rfl fun hs hh => stp_fieldAddr (j := 1) Tryd.underlying34 rfl ts32 rfl (sv hs 2 rfl) rfl, lc rfl rfl fun hs hh => stp_load1 ts32 (sv hs 32 rfl) (Cells.box (id := 0) (hh.get 0 _ rfl) 1 rfl), lM, lc rfl rfl fun hs hh => stp_indexAddr Tryd.underlying32 ts71 (by decide) (sv hs 33 rfl) rfl (sv hs 34 rfl) (Rdb.ro hr0_1) e16, lc rfl rfl fun hs hh => stp_fieldAddr (j := 1) Tryd.underlying71 rfl ts41 rfl (sv hs 35 rfl) rfl, lc rfl rfl fun hs hh => stp_loadN (us := [_, _]) ts41 (sv hs 36 rfl) (Cells.el (Rdb.ro hr0_1) (by decide) e16 1 2 rfl), lc rfl rfl fun hs hh => stp_loadN (us := [_, _]) ts41 (sv hs 3 rfl) (Cells.box (id := 1) (hh.get 1 _ rfl) 2 rfl), lc rfl rfl fun hs hh => stp_eqlS te41 x16.k a1 (sv hs 37 rfl) (sv hs 38 rfl), trivial⟩
   intro g hΦ
   refine KW.sub (s' := [(2, .pointer (some ⟨b1, 0, none⟩)), (3, .pointer (some ⟨b2, 0, none⟩)), (7, .slice p9 ((x8).length) c11), (8, .int .i64 v13), (9, .int .i64 x15), (25, .slice p9 ((x8).length) c11), (26, .int .i64 ((x8).length : Int)), (27, .int .i64 v13), (39, .bool (x16.k == a1))]) (h' := [(0, [(b1, .cells #[.slice p0_0 ((a0.b).length) c0_0, .slice p0_1 ((a0.f).length) c0_1] 34 (0, 0))]), (1, [(b2, .cells #[.int .i64 a1.s, .int .i64 a1.p] 41 (0, 0))]), (2, C12)]) ?_ ⟨rfl, rfl, rfl, rfl, rfl, rfl, rfl, rfl, rfl, trivial⟩ ⟨rfl, rfl, rfl, trivial⟩
   refine kw_nx (cw_cond rfl (fun h17 => ?_) (fun h17 => ?_))
   ·have H1 := cond_t H1 h17
    obtain ⟨x18, e18, H1⟩ := bS H1
    refine sr (oM rfl (oM rfl (oP e18 rfl (oS rfl (oS rfl (oS rfl (nn (cw_ret (kw_bl_ret (kw_nx_ret (kw_lq_ret (kw_bl_ret (kw_join_ret ?_)))))))))))))
    refine kw_nx_ret ?_
    obtain rfl := sI H1
    obtain rfl := sI H0
    exact kr Tryd.results26 (.cons (.tmp rfl) (.cons (.tmp rfl) (rT rfl))) [] ⟨rfl, rfl⟩
   have H1 := cond_f H1 h17
   obtain ⟨x19, e19, H1⟩ := bS H1
   exact cw_skip (kw_bl_normal (kw_nx (cw_region (oP e19 rfl (oM rfl (ow_nil (kw_lqS (js := [0, 1, 2]) (fuel, x19) H1 (Nat.lt_succ_self _) ⟨rfl, rfl, rfl, rfl, rfl, rfl, trivial⟩ ⟨0, [1, 2], rfl, rfl, 1, [2], rfl, rfl, 2, [], rfl, rfl, trivial⟩ (by decide))))))))
  have H1 := cond_f H1 h14
  refine cw_exit (kw_nx_exit (kw_lq_exit (kw_bl ?_)))
  obtain rfl := sI H1
  exact kw_joinS (js := [0, 1, 2]) v13 rfl ⟨rfl, rfl, rfl, rfl, rfl, rfl, trivial⟩ ⟨0, [1, 2], rfl, rfl, 1, [2], rfl, rfl, 2, [], rfl, rfl, trivial⟩ (by decide)
 rintro v13 rfl
 dsimp only
 refine kw_nx (sr (oM rfl (oD (stp_len Tryd.underlying22 rfl) rfl (oS rfl (oS rfl (oS rfl (nn (cw_ret ?_))))))))
 obtain rfl := sI H0
 exact kr Tryd.results26 (.cons (.tmp rfl) (.cons (.tmp rfl) (rT rfl))) [] ⟨rfl, rfl⟩

theorem c_i_Cpu_ack (fl : Nat) (w : World) (a0 : List Cp) (k0 : Int) (hn0_0 : n0_0 = (a0).length) (ho0_0 : OwnD 53 55 p0_0 c0_0 a0 C0_0) (hM : Sat w (hkeys [(0, C0_0)]) w [(0, C0_0)]) (r : (List Cp)) (H0 : i_Cpu_ack fl a0 k0 = some r) :
  Ct Tryd.prog 80 [.pointer (some ⟨eB p0_0, eO p0_0 + Int.toNat k0 * Enc.sz CpS + 0, none⟩)] w [(0, C0_0)] (fun rv h' => ∃ (D0 : Res), rv = .tuple #[] ∧ h' = [(0, D0)] ∧ n0_0 = (r).length ∧ OwnD 53 55 p0_0 c0_0 r D0) := by
 subst hn0_0
 unfold i_Cpu_ack at H0
 refine ct_of_cw Tryd.func80 rfl Tryd.ntmps80 rfl hM ?_
 obtain ⟨x1, e1, H0⟩ := bS H0
 refine cw_seq (sr (oM rfl (oZ rfl (oA 1 Tryd.underlying53 rfl ts51 rfl (ow_open 0 1 2 3 rfl ho0_0 e1 ?_)))))
 rintro u2 p3 n4 c5 p6 n7 c8 C9 C10 C11 C12 o9 hb10 hx2 rfl o11 rfl o12
 obtain ⟨o0_0, eo0_0, H0⟩ := bS H0
 refine oD (stp_load1 ts51 rfl (Cells.el (Rdb.own (id := 0) rfl o9) (by decide) hx2 1 1 rfl)) rfl (oD (stp_len Tryd.underlying51 rfl) rfl (oM rfl (nn (cw_join (ι := (List Nt) × Int × Option Addr × Nat × Nat × Res × (List CpS) × Res) (fun | (v13, v18, p14, n15, c16, C17, u19, C20) => o0_0 = .out (v13, v18) ∧ n15 = (v13).length ∧ OwnC 55 p14 c16 v13 C17 ∧ Bun 55 u19 a0 (Int.toNat k0) C10 ∧ idx u19 k0 = some (⟨p14, n15, c16, p6, (x1.w).length, c8⟩ : CpS) ∧ OwnC (α := CpS) 53 p0_0 c0_0 u19 C20) (fun | (v13, v18, p14, n15, c16, C17, u19, C20) => [(0, .pointer (some ⟨eB p0_0, eO p0_0 + Int.toNat k0 * Enc.sz CpS + 0, none⟩)), (7, .slice p6 ((x1.w).length) c8), (8, .int .i64 ((x1.w).length : Int)), (9, .int .i64 v18)]) (fun | (v13, v18, p14, n15, c16, C17, u19, C20) => [(0, C20), (1, C10), (2, C17), (3, C12)]) ?_ ?_))))
 ·refine cw_block (cw_loopS (ι := Nat × (List Nt) × Int × Option Addr × Nat × Nat × Res × (List CpS) × Res) (js := [0, 1, 2, 3]) (fun x => x.1) (fun | (fuel, v13, v18, p14, n15, c16, C17, u19, C20) => i_Cpu_ack_L0 fl x1 fuel v13 v18 = some o0_0 ∧ n15 = (v13).length ∧ OwnC 55 p14 c16 v13 C17 ∧ Bun 55 u19 a0 (Int.toNat k0) C10 ∧ idx u19 k0 = some (⟨p14, n15, c16, p6, (x1.w).length, c8⟩ : CpS) ∧ OwnC (α := CpS) 53 p0_0 c0_0 u19 C20) (fun | (_, v13, v18, p14, n15, c16, C17, u19, C20) => [(0, .pointer (some ⟨eB p0_0, eO p0_0 + Int.toNat k0 * Enc.sz CpS + 0, none⟩)), (7, .slice p6 ((x1.w).length) c8), (8, .int .i64 ((x1.w).length : Int)), (9, .int .i64 v18)]) (fun | (_, v13, v18, p14, n15, c16, C17, u19, C20) => [(0, C20), (1, C10), (2, C17), (3, C12)]) (fl, x1.n, 0, p3, ((x1.n).length), c5, C11, u2, C9) ⟨eo0_0, rfl, o11, hb10, hx2, o9⟩ ⟨rfl, rfl, rfl, rfl, trivial⟩ ⟨0, [1, 2, 3], rfl, rfl, 1, [2, 3], rfl, rfl, 2, [3], rfl, rfl, 3, [], rfl, rfl, trivial⟩ (by decide) ?_)
  rintro ⟨fuel, v13, v18, p14, _, c16, C17, u19, C20⟩ ⟨H1, rfl, o17, hb20, hx20, o20⟩
  have H1 : i_Cpu_ack_L0 fl x1 fuel v13 v18 = some o0_0 := H1
  rcases fuel with _ | fuel
  ·rw [i_Cpu_ack_L0.eq_1] at H1; cases H1
  rw [i_Cpu_ack_L0.eq_2] at H1
  dsimp only
  refine sr (oW rfl (nn (cw_seq (cw_cond rfl (fun h21 => ?_) (fun h21 => ?_)))))
  ·have H1 := cond_t H1 h21
   obtain ⟨x22, e22, H1⟩ := bS H1
   refine cw_skip (kw_nx (cw_seq (cw_block (sr (oD (stp_indexAddr Tryd.underlying51 ts55 (by decide) rfl rfl rfl (Rdb.own (id := 3) rfl o12) e22) rfl (oD (stp_loadN (us := [_, _, _]) ts55 rfl (Cells.el (Rdb.own (id := 3) rfl o12) (by decide) e22 0 3 rfl)) rfl (oE (stpU_alloc 4 tz55 rfl) rfl ?_)))))))
   rintro _ _ ⟨b23, rfl, rfl⟩
   obtain ⟨x24, e24, H1⟩ := bS H1
   refine oC3 4 ts55 rfl rfl (nn (rdq g_mixed [0, 3] [0, 2, 4] { dst := dS [14, 15, 16, 17, 18, 19, 20, 21, 22, 23, 0], pre := gA [] [[], [], [1], [1, 2], [1, 2, 3], [], [5], rn 1 6, rn 0 8, rn 0 9, rn 0 10], ids := gA [] [[], [], [], [], [], [], [], [5], [], [], [0, 5]], rs := rL [[(0, 0)], [(0, 0)], [(14, 2)], [(15, 3)], [(16, 4)], [(3, 0)], [(18, 6)], [(17, 5), (19, 7)], [(13, 1)], [(21, 9)], [(22, 10), (20, 8)]], rh := rL [[], [], [], [], [(0, 0)], [], [(4, 0)], [(2, 0)], [], [], [(0, 0), (5, 8)]], V := fun i g => gA undef [.pointer (some ⟨eB p0_0, eO p0_0 + Int.toNat k0 * Enc.sz CpS + 0, none⟩), .pointer (some ⟨eB p0_0, eO p0_0 + Int.toNat k0 * Enc.sz CpS + 0, none⟩), .pointer (some ⟨eB p0_0, eO p0_0 + Int.toNat k0 * Enc.sz CpS + 0, none⟩), .pointer (some ⟨eB p0_0, eO p0_0 + Int.toNat k0 * Enc.sz CpS + 0, none⟩), .slice p14 ((v13).length) c16, .pointer (some ⟨b23, 0, none⟩), .agg #[.int .i64 x22.k.s, .int .i64 x22.k.p], .slice ((g 7).A 0) ((x24).length) ((g 7).C 0), .pointer (some ⟨eB p0_0, eO p0_0 + Int.toNat k0 * Enc.sz CpS + 0, none⟩), .pointer (some ⟨eB p0_0, eO p0_0 + Int.toNat k0 * Enc.sz CpS + 0, none⟩)] i, U := fun i g => match i with | 7 => [(5, ((g 7).R 0))] | 10 => [(0, ((g 10).R 0)), (5, ((g 10).R 1))] | _ => [], Φ := fun i x => match i with | 7 => OwnC 55 (x.A 0) (x.C 0) x24 (x.R 0) | 10 => OwnC (α := CpS) 53 p0_0 c0_0 (u19.set (Int.toNat k0) (⟨(x.A 0), (x24).length, (x.C 0), p6, (x1.w).length, c8⟩ : CpS)) (x.R 0) ∧ OwnC 55 (x.A 0) (x.C 0) x24 (x.R 1) | _ => True } ?_ ?_))
   ·refine ⟨lM, lM, lc rfl rfl fun hs hh => stp_nilCheck (sv hs 14 rfl), lc rfl rfl fun hs hh => stp_fieldAddr (j := 0) Tryd.underlying53 rfl ts51 rfl (sv hs 15 rfl) rfl, lc rfl rfl fun hs hh => stp_load1 ts51 (sv hs 16 rfl) (Cells.el (Rdb.own (id := 0) (hh.get 0 _ rfl) o20) (by decide) hx20 0 1 rfl), lc rfl rfl fun hs hh => stp_fieldAddr (j := 0) Tryd.underlying55 rfl ts41 rfl (sv hs 3 rfl) rfl, lc rfl rfl fun hs hh => stp_loadN (us := [_, _]) ts41 (sv hs 18 rfl) (Cells.box (id := 4) (hh.get 4 _ rfl) 2 rfl), ?_, lc rfl rfl fun hs hh => stp_nilCheck (sv hs 13 rfl), lc rfl rfl fun hs hh => stp_fieldAddr (j := 0) Tryd.underlying53 rfl ts51 rfl (sv hs 21 rfl) rfl, ?_, trivial⟩
    ·refine le rfl rfl (fun g hΦ s h hs hh => (stpU_call (fun i => 5 + i) cf50 (fun w hw => c_i_drop fl w v13 x22.k rfl (OwnC.pass (id := 2) (hh.get 2 _ rfl) o17 hw) x24 e24) (yB (sv hs 17 rfl) (sv hs 19 rfl)))) ?_
     rintro g _ _ ⟨_, ⟨p25, _, c27, C28, rfl, rfl, rfl, o28⟩, rfl⟩
     exact ⟨⟨[p25], [c27], [C28]⟩, o28, .inr rfl, rfl⟩
    refine le rfl rfl (fun g hΦ s h hs hh => (stpU_keep (hh.get 5 _ rfl) (stpU_storeEl (id := 0) (i := 0) (⟨((g 7).A 0), (x24).length, ((g 7).C 0), p6, (x1.w).length, c8⟩ : CpS) (by decide) ts51 (sv hs 22 rfl) (sv hs 20 rfl) (hh.get 0 _ rfl) o20 hx20 rfl rfl rfl rfl) (by rintro _ _ ⟨_, rfl, _⟩; rfl) (hΦ 7 rfl))) ?_
    rintro g _ _ ⟨_, ⟨C29, rfl, o29⟩, rfl, o32⟩
    exact ⟨⟨[((g 7).A 0)], [((g 7).C 0)], [C29, ((g 7).R 0)]⟩, ⟨o29, o32⟩, .inl rfl, rfl⟩
   intro g hΦ
   refine kw_gen (ι := Option Addr × Nat × Res × Option Addr × Nat × Res × Res) (((g 7).A 0), ((g 7).C 0), ((g 7).R 0), ((g 10).A 0), ((g 10).C 0), ((g 10).R 0), ((g 10).R 1)) (fun | (p25, c27, C28, p30, c31, C29, C32) => OwnC 55 p25 c27 x24 C28 ∧ OwnC (α := CpS) 53 p0_0 c0_0 (u19.set (Int.toNat k0) (⟨p30, (x24).length, c31, p6, (x1.w).length, c8⟩ : CpS)) C29 ∧ OwnC 55 p30 c31 x24 C32) (fun | (p25, c27, C28, p30, c31, C29, C32) => [(0, .pointer (some ⟨eB p0_0, eO p0_0 + Int.toNat k0 * Enc.sz CpS + 0, none⟩)), (7, .slice p6 ((x1.w).length) c8), (8, .int .i64 ((x1.w).length : Int)), (9, .int .i64 v18)]) (fun | (p25, c27, C28, p30, c31, C29, C32) => [(0, C29), (1, C10), (3, C12), (5, C32)]) ⟨(hΦ 7 (by decide)), (hΦ 10 (by decide)).1, (hΦ 10 (by decide)).2⟩ ⟨rfl, rfl, rfl, rfl, trivial⟩ ⟨rfl, rfl, rfl, rfl, trivial⟩ ?_
   rintro ⟨p25, c27, C28, p30, c31, C29, C32⟩ ⟨o28, o29, o32⟩
   dsimp only
   obtain ⟨x33, e33, H1⟩ := bS H1
   exact kw_bl_normal (kw_nx (cw_region (oP e33 rfl (oM rfl (ow_nil (kw_lqS (js := [0, 1, 5, 3]) (fuel, x24, x33, p30, ((x24).length), c31, C32, (u19.set (Int.toNat k0) (⟨p30, (x24).length, c31, p6, (x1.w).length, c8⟩ : CpS)), C29) ⟨H1, rfl, o32, (Bun.set hb20 _), (idx_set hx20), o29⟩ (Nat.lt_succ_self _) ⟨rfl, rfl, rfl, rfl, trivial⟩ ⟨0, [1, 5, 3], rfl, rfl, 1, [5, 3], rfl, rfl, 5, [3], rfl, rfl, 3, [], rfl, rfl, trivial⟩ (by decide)))))))
  have H1 := cond_f H1 h21
  refine cw_exit (kw_nx_exit (kw_lq_exit (kw_bl ?_)))
  obtain rfl := sI H1
  exact kw_joinS (js := [0, 1, 2, 3]) (v13, v18, p14, ((v13).length), c16, C17, u19, C20) ⟨rfl, rfl, o17, hb20, hx20, o20⟩ ⟨rfl, rfl, rfl, rfl, trivial⟩ ⟨0, [1, 2, 3], rfl, rfl, 1, [2, 3], rfl, rfl, 2, [3], rfl, rfl, 3, [], rfl, rfl, trivial⟩ (by decide)
 rintro ⟨v13, v18, p14, _, c16, C17, u19, C20⟩ ⟨rfl, rfl, o17, hb20, hx20, o20⟩
 dsimp only
 refine kw_nx (cw_region (oM rfl (oZ rfl (oA 1 Tryd.underlying53 rfl ts51 rfl (oF (stpU_storeEl (id := 0) (i := 1) (⟨p14, (v13).length, c16, none, 0, 0⟩ : CpS) (by decide) ts51 rfl rfl rfl o20 hx20 rfl rfl rfl rfl) ?_)))))
 rintro _ _ ⟨C34, rfl, o34⟩
 refine ow_nil (kw_addNil 6 (kw_shut 0 1 2 6 o34 (Bun.setL (Bun.set hb20 _) _) (idx_some (idx_set hx20)).2.2 (idx_setD e1 (⟨v13, ([] : List Nt)⟩ : Cp)) rfl o17 rfl (OwnC.nil 55 none) ?_))
 rintro C35 o35
 obtain rfl := sI H0
 exact ke Tryd.results80 .nil [0] ⟨_, rfl, rfl, (by simp), o35⟩

theorem c_i_SettleSystem (fl : Nat) (w : World) (a0 : Sy) (hn0_0 : n0_0 = (a0.t.b).length) (hr0_0 : RO w (hkeys []) (RdL p0_0 c0_0 a0.t.b)) (hn0_1 : n0_1 = (a0.t.f).length) (hr0_1 : RO w (hkeys []) (RdL p0_1 c0_1 a0.t.f)) (hn0_2 : n0_2 = (a0.c).length) (hr0_2 : ROD w (hkeys []) p0_2 c0_2 a0.c) (hg : RO w (hkeys []) (fun w' => w'.rangeAt 0 0 [.bool false, .int .i64 0, .int .i64 0, .int .i64 0, .int .i64 (-1)])) (r : Sy × Bool) (H0 : i_SettleSystem fl a0 = some r) :
  Ct Tryd.prog 27 [.agg #[.slice p0_0 n0_0 c0_0, .slice p0_1 n0_1 c0_1, .slice p0_2 n0_2 c0_2]] w [] (fun rv h' => ∃ (x0 : Option Addr) (y0 z0 : Nat) (C0 : Res) (x1 : Option Addr) (y1 z1 : Nat) (C1 : Res) (x2 : Option Addr) (y2 z2 : Nat) (C2 : Res), rv = .tuple #[.agg #[.slice x0 y0 z0, .slice x1 y1 z1, .slice x2 y2 z2], .bool r.2] ∧ h' = [(0, C0), (1, C1), (2, C2)] ∧ y0 = (r.1.t.b).length ∧ OwnC 3 x0 z0 r.1.t.b C0 ∧ y1 = (r.1.t.f).length ∧ OwnC 71 x1 z1 r.1.t.f C1 ∧ y2 = (r.1.c).length ∧ OwnD 53 55 x2 z2 r.1.c C2) := by
 subst hn0_0 hn0_1 hn0_2
 unfold i_SettleSystem at H0
 refine ct_of_cw Tryd.func27 rfl Tryd.ntmps27 rfl (Sat.refl _ _) ?_
 refine sr (oE (stpU_box 0 rfl rfl) rfl ?_)
 rintro _ _ ⟨b1, rfl, rfl⟩
 refine oE (stpU_alloc 1 tz37 rfl) rfl ?_
 rintro _ _ ⟨b2, rfl, rfl⟩
 obtain ⟨x3, e3, H0⟩ := bS H0
 refine oS rfl (nn (cw_seq (sr (oB3 0 ts37 rfl (oE (stpU_call (fun i => 2 + i) cf23 (fun w hw => c_i_SystemValid fl w a0 rfl (RO.pass hr0_0 hw) rfl (RO.pass hr0_1 hw) rfl (ROD.pass hr0_2 hw) (RO.pass hg hw) x3 e3) (yA rfl)) rfl ?_)))))
 rintro _ _ ⟨_, ⟨rfl, rfl⟩, rfl⟩
 refine oK rfl (nn (cw_cond rfl (fun h4 => ?_) (fun h4 => ?_)))
 ·have H0 := cond_t H0 h4
  refine sr (oD (stp_build (cs := #[.slice none 0 0, .slice none 0 0, .slice none 0 0]) sevp_nil bt37_0) rfl (oC3 1 ts37 rfl rfl (oS rfl (nn (cw_ret (kw_nx_ret (kw_addNil 2 (kw_addNil 3 (kw_addNil 4 ?_)))))))))
  obtain rfl := sI H0
  exact kr Tryd.results27 (.cons (.cellN (us := [_, _, _]) ts37 rfl (Cells.box (id := 1) rfl 3 rfl)) (rT rfl)) [2, 3, 4] ⟨_, _, _, _, _, _, _, _, _, _, _, _, rfl, rfl, rfl, (OwnC.nil _ _), rfl, (OwnC.nil _ _), rfl, (OwnD.nil _ _ _)⟩
 have H0 := cond_f H0 h4
 obtain ⟨x5, e5, H0⟩ := bS H0
 refine cw_skip (kw_nx (sr (oB3 0 ts37 rfl (oE (stpU_call (fun i => 5 + i) cf47 (fun w hw => c_i_System_clone fl w a0 rfl (RO.pass hr0_0 hw) rfl (RO.pass hr0_1 hw) rfl (ROD.pass hr0_2 hw) x5 e5) (yA rfl)) rfl ?_))))
 rintro _ _ ⟨_, ⟨p6, _, c8, C9, p10, _, c12, C13, p14, _, c16, C17, rfl, rfl, rfl, o9, rfl, o13, rfl, o17⟩, rfl⟩
 refine oE (stpU_alloc 8 tz37 rfl) rfl ?_
 rintro _ _ ⟨b18, rfl, rfl⟩
 obtain ⟨o0_0, eo0_0, H0⟩ := bS H0
 refine oC3 8 ts37 rfl rfl (nn (cw_seq (sr (oA 2 Tryd.underlying37 rfl ts35 rfl (oL 8 ts35 rfl (oD (stp_len Tryd.underlying35 rfl) rfl (oM rfl (nn (cw_join (ι := (List Cp) × Int × Res) (fun | (v19, v21, C20) => o0_0 = .out (v19, v21) ∧ (x5.c).length = (v19).length ∧ OwnD 53 55 p14 c16 v19 C20) (fun | (v19, v21, C20) => [(2, .pointer (some ⟨b2, 0, none⟩)), (4, .pointer (some ⟨b18, 0, none⟩)), (14, .int .i64 ((x5.c).length : Int)), (15, .int .i64 v21)]) (fun | (v19, v21, C20) => [(1, [(b2, .cells #[.slice none 0 0, .slice none 0 0, .slice none 0 0] 37 (0, 0))]), (5, C9), (6, C13), (7, C20), (8, [(b18, .cells #[.slice p6 ((x5.t.b).length) c8, .slice p10 ((x5.t.f).length) c12, .slice p14 ((x5.c).length) c16] 37 (0, 0))])]) ?_ ?_)))))))))
 ·refine cw_block (cw_loopS (ι := Nat × (List Cp) × Int × Res) (js := [1, 5, 6, 7, 8]) (fun x => x.1) (fun | (fuel, v19, v21, C20) => i_SettleSystem_L0 fl x5 fuel v19 v21 = some o0_0 ∧ (x5.c).length = (v19).length ∧ OwnD 53 55 p14 c16 v19 C20) (fun | (_, v19, v21, C20) => [(2, .pointer (some ⟨b2, 0, none⟩)), (4, .pointer (some ⟨b18, 0, none⟩)), (14, .int .i64 ((x5.c).length : Int)), (15, .int .i64 v21)]) (fun | (_, v19, v21, C20) => [(1, [(b2, .cells #[.slice none 0 0, .slice none 0 0, .slice none 0 0] 37 (0, 0))]), (5, C9), (6, C13), (7, C20), (8, [(b18, .cells #[.slice p6 ((x5.t.b).length) c8, .slice p10 ((x5.t.f).length) c12, .slice p14 ((x5.c).length) c16] 37 (0, 0))])]) (fl, x5.c, 0, C17) ⟨eo0_0, rfl, o17⟩ ⟨rfl, rfl, rfl, rfl, trivial⟩ ⟨1, [5, 6, 7, 8], rfl, rfl, 5, [6, 7, 8], rfl, rfl, 6, [7, 8], rfl, rfl, 7, [8], rfl, rfl, 8, [], rfl, rfl, trivial⟩ (by decide) ?_)
  rintro ⟨fuel, v19, v21, C20⟩ ⟨H1, hl20, o20⟩
  have H1 : i_SettleSystem_L0 fl x5 fuel v19 v21 = some o0_0 := H1
  rcases fuel with _ | fuel
  ·rw [i_SettleSystem_L0.eq_1] at H1; cases H1
  rw [i_SettleSystem_L0.eq_2] at H1
  dsimp only
  refine sr (oW rfl (nn (cw_seq (cw_cond rfl (fun h22 => ?_) (fun h22 => ?_)))))
  ·have H1 := cond_t H1 h22
   obtain ⟨x23, e23, H1⟩ := bS H1
   refine cw_skip (kw_nx (cw_seq (cw_block (sr (oM rfl (oS rfl (nn (cw_region (oA 2 Tryd.underlying37 rfl ts35 rfl (oL 8 ts35 rfl (oM rfl (ow_open 7 9 10 11 rfl o20 e23 ?_))))))))))))
   rintro u24 p25 n26 c27 p28 n29 c30 C31 C32 C33 C34 o31 hb32 hx24 rfl o33 rfl o34
   refine oD (stp_indexAddr Tryd.underlying35 ts53 (by decide) rfl (Eq.trans (a := (x5.c).length) (b := (v19).length) (by simp [hl20]) (Bun.len hb32)) rfl (Rdb.own (id := 7) rfl o31) hx24) rfl (ow_shut 7 9 10 11 o31 hb32 (idx_some hx24).2.2 (idx_some e23).2.2 rfl o33 rfl o34 ?_)
   rintro C35 o35
   obtain ⟨x36, e36, H1⟩ := bS H1
   refine oE (stpU_callM (fun i => bif Nat.beq i 0 then 7 else 12 + i) cf80 (fun w hw hb => c_i_Cpu_ack fl w v19 v21 rfl o35 (hw.pass (js := [7]) ⟨7, [], rfl, rfl, trivial⟩ (by decide)) x36 e36) (yA rfl) ⟨rfl, (fun _ _ hp => by obtain ⟨_, _, rfl, _⟩ := hp; exact ⟨_, rfl⟩), trivial⟩) rfl ?_
   rintro _ _ ⟨_, ⟨C37, rfl, rfl, hl37, o37⟩, rfl⟩
   obtain ⟨x38, e38, H1⟩ := bS H1
   exact ow_nil (kw_bl_normal (kw_nx (cw_region (oP e38 rfl (oM rfl (ow_nil (kw_lqS (js := [1, 5, 6, 7, 8]) (fuel, x36, x38, C37) ⟨H1, (by simp [hl37, hl20]), o37⟩ (Nat.lt_succ_self _) ⟨rfl, rfl, rfl, rfl, trivial⟩ ⟨1, [5, 6, 7, 8], rfl, rfl, 5, [6, 7, 8], rfl, rfl, 6, [7, 8], rfl, rfl, 7, [8], rfl, rfl, 8, [], rfl, rfl, trivial⟩ (by decide))))))))
  have H1 := cond_f H1 h22
  refine cw_exit (kw_nx_exit (kw_lq_exit (kw_bl ?_)))
  obtain rfl := sI H1
  exact kw_joinS (js := [1, 5, 6, 7, 8]) (v19, v21, C20) ⟨rfl, (by simp [hl20]), o20⟩ ⟨rfl, rfl, rfl, rfl, trivial⟩ ⟨1, [5, 6, 7, 8], rfl, rfl, 5, [6, 7, 8], rfl, rfl, 6, [7, 8], rfl, rfl, 7, [8], rfl, rfl, 8, [], rfl, rfl, trivial⟩ (by decide)
 rintro ⟨v19, v21, C20⟩ ⟨rfl, hl20, o20⟩
 dsimp only
 refine kw_nx (sr (oB3 8 ts37 rfl (oC3 1 ts37 rfl rfl (oS rfl (nn (cw_ret ?_))))))
 obtain rfl := sI H0
 exact kr Tryd.results27 (.cons (.cellN (us := [_, _, _]) ts37 rfl (Cells.box (id := 1) rfl 3 rfl)) (rT rfl)) [5, 6, 7] ⟨_, _, _, _, _, _, _, _, _, _, _, _, rfl, rfl, rfl, o9, rfl, o13, (by simp [hl20]), o20⟩

theorem c_l_FnUnmapSettle (fl : Nat) (w : World) (a0 : (List UInt8)) (hn0_0 : n0_0 = (a0).length) (hr0_0 : RO w (hkeys []) (RdL p0_0 c0_0 a0)) (hg : RO w (hkeys []) (fun w' => w'.rangeAt 0 0 [.bool false, .int .i64 0, .int .i64 0, .int .i64 0, .int .i64 (-1)])) (r : Bool) (H0 : l_FnUnmapSettle fl a0 = some r) :
  Ct Tryd.prog 5 [.slice p0_0 n0_0 c0_0] w [] (fun rv h' => rv = .bool r ∧ h' = []) := by
 subst hn0_0
 unfold l_FnUnmapSettle at H0
 refine ct_of_cw Tryd.func5 rfl Tryd.ntmps5 rfl (Sat.refl _ _) ?_
 refine sr (oS rfl (nn (cw_seq (sr (oM rfl (oD (stp_len Tryd.underlying46 rfl) rfl (oJ rfl (nn (cw_cond rfl (fun h1 => ?_) (fun h1 => ?_))))))))))
 ·have H0 := cond_t H0 h1
  refine sr (oS rfl (nn (cw_ret (kw_nx_ret ?_))))
  obtain rfl := sI H0
  exact kr Tryd.results5 (rT rfl) [] ⟨rfl, rfl⟩
 have H0 := cond_f H0 h1
 obtain ⟨x2, e2, H0⟩ := bS H0
 refine cw_skip (kw_nx (sr (oM rfl (oE (stpU_call (fun i => 0 + i) cf24 (fun w hw => c_s_DrawUnmapSystem fl w a0 rfl (RO.pass hr0_0 hw) x2 e2) (yA rfl)) rfl ?_))))
 rintro _ _ ⟨_, ⟨p3, _, c5, C6, p7, _, c9, C10, p11, _, c13, C14, rfl, rfl, rfl, o6, rfl, o10, rfl, o14⟩, rfl⟩
 refine oM rfl (oT rfl (oT rfl (oT rfl (oE (stpU_alloc 3 tz37 rfl) rfl ?_))))
 rintro _ _ ⟨b15, rfl, rfl⟩
 refine oE (stpU_alloc 4 tz41 rfl) rfl ?_
 rintro _ _ ⟨b16, rfl, rfl⟩
 obtain ⟨x17, e17, H0⟩ := bS H0
 refine oC3 3 ts37 rfl rfl (oS rfl (oC2 4 ts41 rfl rfl (nn (sr (oB3 3 ts37 rfl (oM rfl (oB2 4 ts41 rfl (oE (stpU_call (fun i => 5 + i) cf22 (fun w hw => c_i_UnmapSystem fl w x2.1 x2.2.1 x2.2.2 rfl (OwnC.pass (id := 0) rfl o6 hw) rfl (OwnC.pass (id := 1) rfl o10 hw) rfl (OwnD.pass (id := 2) rfl o14 hw) (RO.pass hg hw) x17 e17) (yC rfl rfl rfl)) rfl ?_))))))))
 rintro _ _ ⟨_, ⟨p18, _, c20, C21, p22, _, c24, C25, p26, _, c28, C29, rfl, rfl, rfl, o21, rfl, o25, rfl, o29⟩, rfl⟩
 refine oM rfl (oT rfl (oT rfl (oT rfl (oE (stpU_alloc 8 tz37 rfl) rfl ?_))))
 rintro _ _ ⟨b30, rfl, rfl⟩
 obtain ⟨x31, e31, H0⟩ := bS H0
 refine oC3 8 ts37 rfl rfl (oS rfl (oS rfl (nn (sr (oB3 3 ts37 rfl (oM rfl (oB2 4 ts41 rfl (oE (stpU_call (fun i => 9 + i) cf25 (fun w hw => c_s_UnmapSystem fl w x2.1 x2.2.1 x2.2.2 rfl (OwnC.pass (id := 0) rfl o6 hw) rfl (OwnC.pass (id := 1) rfl o10 hw) rfl (OwnD.pass (id := 2) rfl o14 hw) x31 e31) (yC rfl rfl rfl)) rfl ?_))))))))
 rintro _ _ ⟨_, ⟨p32, _, c34, C35, p36, _, c38, C39, p40, _, c42, C43, rfl, rfl, rfl, o35, rfl, o39, rfl, o43⟩, rfl⟩
 refine oM rfl (oT rfl (oT rfl (oT rfl (oE (stpU_alloc 12 tz37 rfl) rfl ?_))))
 rintro _ _ ⟨b44, rfl, rfl⟩
 obtain ⟨x45, e45, H0⟩ := bS H0
 refine oC3 12 ts37 rfl rfl (oS rfl (oS rfl (nn (cw_seq (sr (oB3 8 ts37 rfl (oB3 12 ts37 rfl (oE (stpU_call (fun i => 13 + i) cf21 (fun w hw => c_i_SystemSame fl w x17.1 x31.1 rfl (OwnC.pass (id := 5) rfl o21 hw) rfl (OwnC.pass (id := 6) rfl o25 hw) rfl (OwnD.pass (id := 7) rfl o29 hw) rfl (OwnC.pass (id := 9) rfl o35 hw) rfl (OwnC.pass (id := 10) rfl o39 hw) rfl (OwnD.pass (id := 11) rfl o43 hw) x45 e45) (yB rfl rfl)) rfl ?_))))))))
 rintro _ _ ⟨_, ⟨rfl, rfl⟩, rfl⟩
 obtain ⟨y46, ey46, H0⟩ := bS H0
 refine oK rfl (oM rfl (ow_cutY 4 54 y46 ?_ ?_))
 ·rcases Bool.eq_false_or_eq_true (!x45) with hy46 | hy46
  ·have ey46 := cond_t ey46 hy46
   refine oO rfl hy46 rfl (oO rfl hy46 rfl (oO rfl hy46 rfl (oD (stp_pick_t rfl hy46 rfl) rfl ?_)))
   obtain rfl := sI ey46
   exact ow_nil (jy 4 0)
  have ey46 := cond_f ey46 hy46
  refine oG rfl hy46 (mv rfl) rfl (oG rfl hy46 (mv rfl) rfl (oG rfl hy46 (stp_neq rfl rfl) rfl (oD (stp_pick_f rfl hy46 rfl) rfl ?_)))
  obtain rfl := sI ey46
  exact ow_nil (jy 4 0)
 obtain ⟨y47, ey47, H0⟩ := bS H0
 refine oM rfl (ow_cutY 4 59 y47 ?_ ?_)
 ·rcases Bool.eq_false_or_eq_true y46 with hy47 | hy47
  ·have ey47 := cond_t ey47 hy47
   refine oO rfl hy47 rfl (oO rfl hy47 rfl (oO rfl hy47 rfl (oD (stp_pick_t rfl hy47 rfl) rfl ?_)))
   obtain rfl := sI ey47
   exact ow_nil (jy 4 0)
  have ey47 := cond_f ey47 hy47
  refine oG rfl hy47 (mv rfl) rfl (oG rfl hy47 (mv rfl) rfl (oG rfl hy47 (stp_neqB Tryd.underlying4 rfl rfl) rfl (oD (stp_pick_f rfl hy47 rfl) rfl ?_)))
  obtain rfl := sI ey47
  exact ow_nil (jy 4 0)
 obtain ⟨y48, ey48, H0⟩ := bS H0
 refine oM rfl (ow_cutY 3 63 y48 ?_ ?_)
 ·rcases Bool.eq_false_or_eq_true y47 with hy48 | hy48
  ·have ey48 := cond_t ey48 hy48
   refine oO rfl hy48 rfl (oO rfl hy48 rfl (oD (stp_pick_t rfl hy48 rfl) rfl ?_))
   obtain rfl := sI ey48
   exact ow_nil (jy 3 0)
  have ey48 := cond_f ey48 hy48
  refine oG rfl hy48 (mv rfl) rfl (oG rfl hy48 (stp_not rfl) rfl (oD (stp_pick_f rfl hy48 rfl) rfl ?_))
  obtain rfl := sI ey48
  exact ow_nil (jy 3 0)
 refine ow_nil (kw_nx (cw_cond rfl (fun h49 => ?_) (fun h49 => ?_)))
 ·have H0 := cond_t H0 h49
  refine sr (oB3 8 ts37 rfl (oB3 12 ts37 rfl (oE (stpU_call (fun i => 13 + i) cf21 (fun w hw => c_i_SystemSame fl w x17.1 x31.1 rfl (OwnC.pass (id := 5) rfl o21 hw) rfl (OwnC.pass (id := 6) rfl o25 hw) rfl (OwnD.pass (id := 7) rfl o29 hw) rfl (OwnC.pass (id := 9) rfl o35 hw) rfl (OwnC.pass (id := 10) rfl o39 hw) rfl (OwnD.pass (id := 11) rfl o43 hw) x45 e45) (yB rfl rfl)) rfl ?_)))
  rintro _ _ ⟨_, ⟨rfl, rfl⟩, rfl⟩
  obtain ⟨y50, ey50, H0⟩ := bS H0
  refine oM rfl (ow_cutY 4 71 y50 ?_ ?_)
  ·rcases Bool.eq_false_or_eq_true x45 with hy50 | hy50
   ·have ey50 := cond_t ey50 hy50
    refine oG rfl hy50 (mv rfl) rfl (oG rfl hy50 (mv rfl) rfl (oG rfl hy50 (stp_eql rfl rfl) rfl (oD (stp_pick_t rfl hy50 rfl) rfl ?_)))
    obtain rfl := sI ey50
    exact ow_nil (jy 4 0)
   have ey50 := cond_f ey50 hy50
   refine oO rfl hy50 rfl (oO rfl hy50 rfl (oO rfl hy50 rfl (oD (stp_pick_f rfl hy50 rfl) rfl ?_)))
   obtain rfl := sI ey50
   exact ow_nil (jy 4 0)
  obtain ⟨y51, ey51, H0⟩ := bS H0
  refine oM rfl (ow_cutY 4 76 y51 ?_ ?_)
  ·rcases Bool.eq_false_or_eq_true y50 with hy51 | hy51
   ·have ey51 := cond_t ey51 hy51
    refine oG rfl hy51 (mv rfl) rfl (oG rfl hy51 (mv rfl) rfl (oG rfl hy51 (stp_eqlB Tryd.underlying4 rfl rfl) rfl (oD (stp_pick_t rfl hy51 rfl) rfl ?_)))
    obtain rfl := sI ey51
    exact ow_nil (jy 4 0)
   have ey51 := cond_f ey51 hy51
   refine oO rfl hy51 rfl (oO rfl hy51 rfl (oO rfl hy51 rfl (oD (stp_pick_f rfl hy51 rfl) rfl ?_)))
   obtain rfl := sI ey51
   exact ow_nil (jy 4 0)
  refine oS rfl (nn (cw_ret (kw_nx_ret ?_)))
  obtain rfl := sI H0
  exact kr Tryd.results5 (rT rfl) [] ⟨rfl, rfl⟩
 have H0 := cond_f H0 h49
 obtain ⟨x52, e52, H0⟩ := bS H0
 refine cw_skip (kw_nx (sr (oA 0 Tryd.underlying37 rfl ts34 rfl (oB2 3 ts34 rfl (oB2 4 ts41 rfl (oE (stpU_call (fun i => 13 + i) cf26 (fun w hw => c_i_FindPage fl w x2.1.t x2.2.2 rfl (OwnC.pass (id := 0) rfl o6 hw) rfl (OwnC.pass (id := 1) rfl o10 hw) (RO.pass hg hw) x52 e52) (yB rfl rfl)) rfl ?_))))))
 rintro _ _ ⟨_, ⟨rfl, rfl⟩, rfl⟩
 obtain ⟨x53, e53, H0⟩ := bS H0
 refine oM rfl (oT rfl (oT rfl (oT rfl (oS rfl (oS rfl (oS rfl (nn (sr (oB3 8 ts37 rfl (oB2 4 ts41 rfl (oM rfl (oE (stpU_call (fun i => 13 + i) cf19 (fun w hw => c_i_MapSystem fl w x17.1 x2.2.2 x52.1 1 rfl (OwnC.pass (id := 5) rfl o21 hw) rfl (OwnC.pass (id := 6) rfl o25 hw) rfl (OwnD.pass (id := 7) rfl o29 hw) (RO.pass hg hw) x53 e53) (yD rfl rfl rfl rfl)) rfl ?_))))))))))))
 rintro _ _ ⟨_, ⟨p54, _, c56, C57, p58, _, c60, C61, p62, _, c64, C65, rfl, rfl, rfl, o57, rfl, o61, rfl, o65⟩, rfl⟩
 refine oM rfl (oT rfl (oT rfl (oE (stpU_alloc 16 tz37 rfl) rfl ?_)))
 rintro _ _ ⟨b66, rfl, rfl⟩
 obtain ⟨x67, e67, H0⟩ := bS H0
 refine oC3 16 ts37 rfl rfl (oS rfl (nn (sr (oB3 8 ts37 rfl (oE (stpU_call (fun i => 17 + i) cf27 (fun w hw => c_i_SettleSystem fl w x17.1 rfl (OwnC.pass (id := 5) rfl o21 hw) rfl (OwnC.pass (id := 6) rfl o25 hw) rfl (OwnD.pass (id := 7) rfl o29 hw) (RO.pass hg hw) x67 e67) (yA rfl)) rfl ?_)))))
 rintro _ _ ⟨_, ⟨p68, _, c70, C71, p72, _, c74, C75, p76, _, c78, C79, rfl, rfl, rfl, o71, rfl, o75, rfl, o79⟩, rfl⟩
 refine oM rfl (oT rfl (oT rfl (oE (stpU_alloc 20 tz37 rfl) rfl ?_)))
 rintro _ _ ⟨b80, rfl, rfl⟩
 obtain ⟨x81, e81, H0⟩ := bS H0
 refine oC3 20 ts37 rfl rfl (oS rfl (nn (sr (oB3 20 ts37 rfl (oB2 4 ts41 rfl (oM rfl (oE (stpU_call (fun i => 21 + i) cf19 (fun w hw => c_i_MapSystem fl w x67.1 x2.2.2 x52.1 1 rfl (OwnC.pass (id := 17) rfl o71 hw) rfl (OwnC.pass (id := 18) rfl o75 hw) rfl (OwnD.pass (id := 19) rfl o79 hw) (RO.pass hg hw) x81 e81) (yD rfl rfl rfl rfl)) rfl ?_)))))))
 rintro _ _ ⟨_, ⟨p82, _, c84, C85, p86, _, c88, C89, p90, _, c92, C93, rfl, rfl, rfl, o85, rfl, o89, rfl, o93⟩, rfl⟩
 refine oM rfl (oT rfl (oT rfl (oE (stpU_alloc 24 tz37 rfl) rfl ?_)))
 rintro _ _ ⟨b94, rfl, rfl⟩
 obtain ⟨y95, ey95, H0⟩ := bS H0
 refine oC3 24 ts37 rfl rfl (oS rfl (nn (sr (oM rfl (oM rfl (oQ rfl (oD (stp_eqlB Tryd.underlying4 rfl rfl) rfl (oM rfl (ow_cutY 2 110 y95 ?_ ?_)))))))))
 ·rcases Bool.eq_false_or_eq_true (x53.2 == (x17.2.1 == 0)) with hy95 | hy95
  ·have ey95 := cond_t ey95 hy95
   refine oG rfl hy95 (mv rfl) rfl (oD (stp_pick_t rfl hy95 rfl) rfl ?_)
   obtain rfl := sI ey95
   exact ow_nil (jy 2 0)
  have ey95 := cond_f ey95 hy95
  refine oO rfl hy95 rfl (oD (stp_pick_f rfl hy95 rfl) rfl ?_)
  obtain rfl := sI ey95
  exact ow_nil (jy 2 0)
 obtain ⟨y96, ey96, H0⟩ := bS H0
 refine oM rfl (ow_cutY 2 113 y96 ?_ ?_)
 ·rcases Bool.eq_false_or_eq_true y95 with hy96 | hy96
  ·have ey96 := cond_t ey96 hy96
   refine oG rfl hy96 (mv rfl) rfl (oD (stp_pick_t rfl hy96 rfl) rfl ?_)
   obtain rfl := sI ey96
   exact ow_nil (jy 2 0)
  have ey96 := cond_f ey96 hy96
  refine oO rfl hy96 rfl (oD (stp_pick_f rfl hy96 rfl) rfl ?_)
  obtain rfl := sI ey96
  exact ow_nil (jy 2 0)
 obtain ⟨y97, ey97, H0⟩ := bS H0
 refine oM rfl (ow_cutY 3 117 y97 ?_ ?_)
 ·rcases Bool.eq_false_or_eq_true y96 with hy97 | hy97
  ·have ey97 := cond_t ey97 hy97
   obtain ⟨x98, e98, ey97⟩ := bS ey97
   refine oG rfl hy97 (stp_loadN (us := [_, _, _]) ts37 rfl (Cells.box (id := 24) rfl 3 rfl)) rfl (ow_eff (.some rfl hy97) (stpU_call (fun i => 25 + i) cf23 (fun w hw => c_i_SystemValid fl w x81.1 rfl (OwnC.pass (id := 21) rfl o85 hw) rfl (OwnC.pass (id := 22) rfl o89 hw) rfl (OwnD.pass (id := 23) rfl o93 hw) (RO.pass hg hw) x98 e98) (yA rfl)) rfl ?_)
   rintro _ _ ⟨_, ⟨rfl, rfl⟩, rfl⟩
   refine oD (stp_pick_t rfl hy97 rfl) rfl ?_
   obtain rfl := sI ey97
   exact ow_nil (jy 3 0)
  have ey97 := cond_f ey97 hy97
  refine oO rfl hy97 rfl (oO rfl hy97 rfl (oD (stp_pick_f rfl hy97 rfl) rfl ?_))
  obtain rfl := sI ey97
  exact ow_nil (jy 3 0)
 refine oS rfl (nn (cw_ret ?_))
 obtain rfl := sI H0
 exact kr Tryd.results5 (rT rfl) [] ⟨rfl, rfl⟩
end Go.Proofs.YtfnliecmagnkdabDoor
