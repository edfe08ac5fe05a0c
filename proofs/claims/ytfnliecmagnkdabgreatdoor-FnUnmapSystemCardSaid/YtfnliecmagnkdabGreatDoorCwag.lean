/- The walks: functions of the program return what their pure functions say. Printed by a program (gen.py). -/
import Derived.Test.YtfnliecmagnkdabGreatDoorCp
import Derived.Test.YtfnliecmagnkdabGreatDoorCt
import Derived.Test.YtfnliecmagnkdabGreatDoorMan
import Derived.Test.YtfnliecmagnkdabGreatDoorMap
import Derived.Test.YtfnliecmagnkdabGreatDoorCpy
import Derived.Test.YtfnliecmagnkdabGreatDoorClr
import Derived.Test.YtfnliecmagnkdabGreatDoorDp
import Derived.Test.YtfnliecmagnkdabGreatDoorSrt
import Derived.Test.YtfnliecmagnkdabGreatDoorE8
import Derived.Test.YtfnliecmagnkdabGreatDoorCwab
import Derived.Test.YtfnliecmagnkdabGreatDoorCwac
import Derived.Test.YtfnliecmagnkdabGreatDoorCwae
import Derived.Test.YtfnliecmagnkdabGreatDoorCws
set_option linter.unusedSimpArgs false
set_option linter.unusedVariables false
set_option linter.unusedSectionVars false
namespace Go.Proofs.YtfnliecmagnkdabGreatDoor
open Go.RowKit
set_option maxHeartbeats 4000000
set_option maxRecDepth 20000
variable {p0_0 p0_1 p0_2 : Option Addr} {n0_0 n0_1 n0_2 : Nat} {c0_0 c0_1 c0_2 : Nat}
theorem c_i_Table_chain (fl : Nat) (w : World) (a0 : T) (a1 : Int) (hn0_0 : n0_0 = (a0.b).length) (hr0_0 : RO w (hkeys []) (RdL p0_0 c0_0 a0.b)) (hn0_1 : n0_1 = (a0.f).length) (hr0_1 : RO w (hkeys []) (RdL p0_1 c0_1 a0.f)) (r : (List Int)) (H0 : i_Table_chain fl a0 a1 = some r) :
  Ct Tryz.prog 50 [.agg #[.slice p0_0 n0_0 c0_0, .slice p0_1 n0_1 c0_1], .int .i64 a1] w [] (fun rv h' => ∃ (x0 : Option Addr) (y0 z0 : Nat) (C0 : Res), rv = .slice x0 y0 z0 ∧ h' = [(0, C0)] ∧ y0 = (r).length ∧ OwnC 3 x0 z0 r C0) := by
 subst hn0_0 hn0_1
 unfold i_Table_chain at H0
 refine ct_of_cw Tryz.func50 rfl Tryz.ntmps50 rfl (Sat.refl _ _) ?_
 refine sr (oE (stpU_box 0 rfl rfl) rfl ?_)
 rintro _ _ ⟨b1, rfl, rfl⟩
 obtain ⟨x2, e2, H0⟩ := bS H0
 refine oS rfl (nn (sr (oS rfl (nn (cw_seq (sr (oA 0 Tryz.underlying26 rfl ts23 rfl (oL 0 ts23 rfl (oM rfl (oD (stp_indexAddr Tryz.underlying23 ts3 (by decide) rfl rfl rfl (Rdb.ro hr0_0) e2) rfl (oD (stp_load1 ts3 rfl (Cells.el (Rdb.ro hr0_0) (by decide) e2 0 1 rfl)) rfl (oS rfl (nn ?_)))))))))))))
 obtain ⟨o0_0, eo0_0, H0⟩ := bS H0
 refine cw_addNil 1 (cw_join (ι := (List Int) × Int × Option Addr × Nat × Nat × Res) (fun | (v3, v8, p4, n5, c6, C7) => o0_0 = .out (v3, v8) ∧ n5 = (v3).length ∧ OwnC 3 p4 c6 v3 C7) (fun | (v3, v8, p4, n5, c6, C7) => [(2, .pointer (some ⟨b1, 0, none⟩)), (5, .slice p4 n5 c6), (6, .int .i64 v8)]) (fun | (v3, v8, p4, n5, c6, C7) => [(0, [(b1, .cells #[.slice p0_0 ((a0.b).length) c0_0, .slice p0_1 ((a0.f).length) c0_1] 26 (0, 0))]), (1001, C7)]) ?_ ?_)
 ·refine cw_block (cw_loopS (ι := Nat × (List Int) × Int × Option Addr × Nat × Nat × Res) (js := [0, 1]) (fun x => x.1) (fun | (fuel, v3, v8, p4, n5, c6, C7) => i_Table_chain_L0 fl a0 fuel v3 v8 = some o0_0 ∧ n5 = (v3).length ∧ OwnC 3 p4 c6 v3 C7) (fun | (_, v3, v8, p4, n5, c6, C7) => [(2, .pointer (some ⟨b1, 0, none⟩)), (5, .slice p4 n5 c6), (6, .int .i64 v8)]) (fun | (_, v3, v8, p4, n5, c6, C7) => [(0, [(b1, .cells #[.slice p0_0 ((a0.b).length) c0_0, .slice p0_1 ((a0.f).length) c0_1] 26 (0, 0))]), (1001, C7)]) (fl, [], x2, none, 0, 0, []) ⟨eo0_0, rfl, (OwnC.nil _ _)⟩ ⟨rfl, rfl, rfl, trivial⟩ ⟨0, [1], rfl, rfl, 1, [], rfl, rfl, trivial⟩ (by decide) ?_)
  rintro ⟨fuel, v3, v8, p4, _, c6, C7⟩ ⟨H1, rfl, o7⟩
  have H1 : i_Table_chain_L0 fl a0 fuel v3 v8 = some o0_0 := H1
  rcases fuel with _ | fuel
  ·rw [i_Table_chain_L0.eq_1] at H1; cases H1
  rw [i_Table_chain_L0.eq_2] at H1
  dsimp only
  refine cw_seq (sr (oM rfl (oU rfl (nn (cw_cond rfl (fun h9 => ?_) (fun h9 => ?_))))))
  ·have H1 := cond_t H1 h9
   refine cw_skip (kw_nx (cw_seq (cw_block (cw_region (oM rfl (oM rfl (oE (stpU_lit (sz := 1) (l := [v8]) [.int .i64 v8] sl23 2 (sevp_cons rfl sevp_nil) rfl rfl rfl rfl rfl rfl rfl rfl rfl) rfl ?_)))))))
   rintro _ _ ⟨p10, C11, rfl, rfl, o11⟩
   obtain ⟨x12, e12, H1⟩ := bS H1
   refine oE (stpU_append sl23 rfl (id := 1001) rfl rfl rfl (by simp) rfl o7 (Rdb.own (id := 2) rfl o11) e12) rfl ?_
   rintro _ _ ⟨p13, c14, C15, rfl, rfl, o15⟩
   obtain ⟨x16, e16, H1⟩ := bS H1
   exact oS rfl (ow_nil (kw_bl_normal (kw_nx (cw_region (oA 1 Tryz.underlying26 rfl ts24 rfl (oL 0 ts24 rfl (oM rfl (oD (stp_indexAddr Tryz.underlying24 ts72 (by decide) rfl rfl rfl (Rdb.ro hr0_1) e16) rfl (oA 4 Tryz.underlying72 rfl ts3 rfl (oD (stp_load1 ts3 rfl (Cells.el (Rdb.ro hr0_1) (by decide) e16 4 1 rfl)) rfl (oS rfl (ow_nil (kw_lqS (js := [0, 1001]) (fuel, x12, x16.nx, p13, ((x12).length), c14, C15) ⟨H1, rfl, o15⟩ (Nat.lt_succ_self _) ⟨rfl, rfl, rfl, trivial⟩ ⟨0, [1001], rfl, rfl, 1001, [], rfl, rfl, trivial⟩ (by decide))))))))))))))
  have H1 := cond_f H1 h9
  refine cw_exit (kw_nx_exit (kw_lq_exit (kw_bl ?_)))
  obtain rfl := sI H1
  exact kw_joinS (js := [0, 1001]) (v3, v8, p4, ((v3).length), c6, C7) ⟨rfl, rfl, o7⟩ ⟨rfl, rfl, rfl, trivial⟩ ⟨0, [1001], rfl, rfl, 1001, [], rfl, rfl, trivial⟩ (by decide)
 rintro ⟨v3, v8, p4, _, c6, C7⟩ ⟨rfl, rfl, o7⟩
 dsimp only
 refine kw_nx (sr (oM rfl (oE (stpU_call (fun i => i) cf34 (fun w hw => c_clip34 w p4 ((v3).length) c6 (OwnC.len o7).1) (yA rfl)) rfl ?_)))
 rintro _ _ ⟨_, ⟨rfl, rfl⟩, rfl⟩
 refine oS rfl (nn (cw_ret ?_))
 obtain rfl := sI H0
 exact kr Tryz.results50 (rT rfl) [1001] ⟨_, _, _, _, rfl, rfl, rfl, (OwnC.clip o7)⟩

theorem c_i_FindPage (fl : Nat) (w : World) (a0 : T) (a1 : K) (hn0_0 : n0_0 = (a0.b).length) (hr0_0 : RO w (hkeys []) (RdL p0_0 c0_0 a0.b)) (hn0_1 : n0_1 = (a0.f).length) (hr0_1 : RO w (hkeys []) (RdL p0_1 c0_1 a0.f)) (hg : RO w (hkeys []) (fun w' => w'.rangeAt 0 0 [.bool false, .int .i64 0, .int .i64 0, .int .i64 0, .int .i64 (-1)])) (r : Int × Int × Bool) (H0 : i_FindPage fl a0 a1 = some r) :
  Ct Tryz.prog 20 [.agg #[.slice p0_0 n0_0 c0_0, .slice p0_1 n0_1 c0_1], .agg #[.int .i64 a1.s, .int .i64 a1.p]] w [] (fun rv h' => rv = .tuple #[.int .i64 r.1, .int .i64 r.2.1, .bool r.2.2] ∧ h' = []) := by
 subst hn0_0 hn0_1
 unfold i_FindPage at H0
 refine ct_of_cw Tryz.func20 rfl Tryz.ntmps20 rfl (Sat.refl _ _) ?_
 refine sr (oE (stpU_box 0 rfl rfl) rfl ?_)
 rintro _ _ ⟨b1, rfl, rfl⟩
 refine oE (stpU_box 1 rfl rfl) rfl ?_
 rintro _ _ ⟨b2, rfl, rfl⟩
 obtain ⟨x3, e3, H0⟩ := bS H0
 refine oS rfl (oS rfl (oS rfl (nn (cw_seq (sr (oB2 0 ts26 rfl (oE (stpU_call (fun i => 2 + i) cf38 (fun w hw => c_i_TableValid fl w a0 rfl (RO.pass hr0_0 hw) rfl (RO.pass hr0_1 hw) (RO.pass hg hw) x3 e3) (yA rfl)) rfl ?_)))))))
 rintro _ _ ⟨_, ⟨rfl, rfl⟩, rfl⟩
 obtain ⟨y4, ey4, H0⟩ := bS H0
 refine oK rfl (oM rfl (ow_cutY 4 17 y4 ?_ ?_))
 ·rcases Bool.eq_false_or_eq_true (!x3) with hy4 | hy4
  ·have ey4 := cond_t ey4 hy4
   refine oO rfl hy4 rfl (oO rfl hy4 rfl (oO rfl hy4 rfl (oD (stp_pick_t rfl hy4 rfl) rfl ?_)))
   obtain rfl := sI ey4
   exact ow_nil (jy 4 0)
  have ey4 := cond_f ey4 hy4
  obtain ⟨x5, e5, ey4⟩ := bS ey4
  refine oG rfl hy4 (stp_loadN (us := [_, _]) ts44 rfl (Cells.box (id := 1) rfl 2 rfl)) rfl (ow_eff (.some rfl hy4) (stpU_call (fun i => 2 + i) cf49 (fun w hw => c_i_KeyValid fl w a1 x5 e5) (yA rfl)) rfl ?_)
  rintro _ _ ⟨_, ⟨rfl, rfl⟩, rfl⟩
  refine oG rfl hy4 (stp_not rfl) rfl (oD (stp_pick_f rfl hy4 rfl) rfl ?_)
  obtain rfl := sI ey4
  exact ow_nil (jy 4 0)
 refine ow_nil (kw_nx (cw_cond rfl (fun h6 => ?_) (fun h6 => ?_)))
 ·have H0 := cond_t H0 h6
  refine sr (oS rfl (oS rfl (oS rfl (nn (cw_ret (kw_nx_ret ?_))))))
  obtain rfl := sI H0
  exact kr Tryz.results20 (.cons (.tmp rfl) (.cons (.tmp rfl) (rT rfl))) [] ⟨rfl, rfl⟩
 have H0 := cond_f H0 h6
 obtain ⟨x7, e7, H0⟩ := bS H0
 obtain ⟨x8, e8, H0⟩ := bS H0
 refine cw_skip (kw_nx (cw_seq (rdq g_mixed [2, 3] [0, 1] { dst := dS [19, 20, 21, 22, 23, 24, 25, 8], pre := gA [] [[], [], [], [2], [2, 3], rn 1 4, rn 0 6, rn 0 7], ids := gA [] [[], [], [], [], [], [], [2]], rs := rL [[(2, 0)], [(3, 0)], [(2, 0)], [(20, 3)], [(21, 4)], [(19, 2), (22, 5)], [(18, 1), (23, 6)], [(24, 7)]], rh := rL [[(0, 0)], [(1, 0)], [], [(0, 0)]], V := fun i g => gA undef [.agg #[.slice p0_0 ((a0.b).length) c0_0, .slice p0_1 ((a0.f).length) c0_1], .agg #[.int .i64 a1.s, .int .i64 a1.p], .pointer (some ⟨b1, 0, none⟩), .slice p0_0 ((a0.b).length) c0_0, .int .i64 ((a0.b).length : Int), .int .i64 x7, .slice ((g 6).A 0) ((x8).length) ((g 6).C 0), .slice ((g 6).A 0) ((x8).length) ((g 6).C 0)] i, U := fun i g => match i with | 6 => [(2, ((g 6).R 0))] | _ => [], Φ := fun i x => match i with | 6 => OwnC 3 (x.A 0) (x.C 0) x8 (x.R 0) | _ => True } ?_ ?_)))
 ·refine ⟨lc rfl rfl fun hs hh => stp_loadN (us := [_, _]) ts26 (sv hs 2 rfl) (Cells.box (id := 0) (hh.get 0 _ rfl) 2 rfl), lc rfl rfl fun hs hh => stp_loadN (us := [_, _]) ts44 (sv hs 3 rfl) (Cells.box (id := 1) (hh.get 1 _ rfl) 2 rfl), lc rfl rfl fun hs hh => stp_fieldAddr (j := 0) Tryz.underlying26 rfl ts23 rfl (sv hs 2 rfl) rfl, lc rfl rfl fun hs hh => stp_load1 ts23 (sv hs 20 rfl) (Cells.box (id := 0) (hh.get 0 _ rfl) 1 rfl), lc rfl rfl fun hs hh => stp_len Tryz.underlying23 (sv hs 21 rfl), ?_, ?_, lS, trivial⟩
  ·refine le rfl rfl (fun g hΦ s h hs hh => (stpU_call (fun i => 2 + i) cf51 (fun w hw => c_i_hash fl w a1 ((a0.b).length : Int) x7 e7) (yB (sv hs 19 rfl) (sv hs 22 rfl)))) ?_
   rintro g _ _ ⟨_, ⟨rfl, rfl⟩, rfl⟩
   exact ⟨⟨[], [], []⟩, trivial, .inr rfl, rfl⟩
  refine le rfl rfl (fun g hΦ s h hs hh => (stpU_call (fun i => 2 + i) cf50 (fun w hw => c_i_Table_chain fl w a0 x7 rfl (RO.pass hr0_0 hw) rfl (RO.pass hr0_1 hw) x8 e8) (yB (sv hs 18 rfl) (sv hs 23 rfl)))) ?_
  rintro g _ _ ⟨_, ⟨p9, _, c11, C12, rfl, rfl, rfl, o12⟩, rfl⟩
  exact ⟨⟨[p9], [c11], [C12]⟩, o12, .inr rfl, rfl⟩
 intro g hΦ
 refine kw_gen (ι := Option Addr × Nat × Res) (((g 6).A 0), ((g 6).C 0), ((g 6).R 0)) (fun | (p9, c11, C12) => OwnC 3 p9 c11 x8 C12) (fun | (p9, c11, C12) => [(2, .pointer (some ⟨b1, 0, none⟩)), (3, .pointer (some ⟨b2, 0, none⟩)), (7, .slice p9 ((x8).length) c11)]) (fun | (p9, c11, C12) => [(0, [(b1, .cells #[.slice p0_0 ((a0.b).length) c0_0, .slice p0_1 ((a0.f).length) c0_1] 26 (0, 0))]), (1, [(b2, .cells #[.int .i64 a1.s, .int .i64 a1.p] 44 (0, 0))]), (2, C12)]) (hΦ 6 (by decide)) ⟨rfl, rfl, rfl, trivial⟩ ⟨rfl, rfl, rfl, trivial⟩ ?_
 rintro ⟨p9, c11, C12⟩ o12
 have o12 : OwnC 3 p9 c11 x8 C12 := o12
 dsimp only
 obtain ⟨o0_0, eo0_0, H0⟩ := bS H0
 refine kw_nx (cw_seq (sr (oM rfl (oD (stp_len Tryz.underlying23 rfl) rfl (oM rfl (nn (cw_join (ι := Int) (fun | v13 => o0_0 = .out v13) (fun | v13 => [(2, .pointer (some ⟨b1, 0, none⟩)), (3, .pointer (some ⟨b2, 0, none⟩)), (7, .slice p9 ((x8).length) c11), (25, .slice p9 ((x8).length) c11), (26, .int .i64 ((x8).length : Int)), (27, .int .i64 v13)]) (fun | v13 => [(0, [(b1, .cells #[.slice p0_0 ((a0.b).length) c0_0, .slice p0_1 ((a0.f).length) c0_1] 26 (0, 0))]), (1, [(b2, .cells #[.int .i64 a1.s, .int .i64 a1.p] 44 (0, 0))]), (2, C12)]) ?_ ?_)))))))
 ·refine cw_block (cw_loopS (ι := Nat × Int) (js := [0, 1, 2]) (fun x => x.1) (fun | (fuel, v13) => i_FindPage_L0 fl a0 a1 x8 fuel v13 = some o0_0) (fun | (_, v13) => [(2, .pointer (some ⟨b1, 0, none⟩)), (3, .pointer (some ⟨b2, 0, none⟩)), (7, .slice p9 ((x8).length) c11), (25, .slice p9 ((x8).length) c11), (26, .int .i64 ((x8).length : Int)), (27, .int .i64 v13)]) (fun | (_, v13) => [(0, [(b1, .cells #[.slice p0_0 ((a0.b).length) c0_0, .slice p0_1 ((a0.f).length) c0_1] 26 (0, 0))]), (1, [(b2, .cells #[.int .i64 a1.s, .int .i64 a1.p] 44 (0, 0))]), (2, C12)]) (fl, 0) eo0_0 ⟨rfl, rfl, rfl, rfl, rfl, rfl, trivial⟩ ⟨0, [1, 2], rfl, rfl, 1, [2], rfl, rfl, 2, [], rfl, rfl, trivial⟩ (by decide) ?_)
  rintro ⟨fuel, v13⟩ H1
  have H1 : i_FindPage_L0 fl a0 a1 x8 fuel v13 = some o0_0 := H1
  rcases fuel with _ | fuel
  ·rw [i_FindPage_L0.eq_1] at H1; cases H1
  rw [i_FindPage_L0.eq_2] at H1
  dsimp only
  refine sr (oW rfl (nn (cw_seq (cw_cond rfl (fun h14 => ?_) (fun h14 => ?_)))))
  ·have H1 := cond_t H1 h14
   obtain ⟨x15, e15, H1⟩ := bS H1
   obtain ⟨x16, e16, H1⟩ := bS H1
   refine cw_skip (kw_nx (cw_seq (cw_block (sr (oM rfl (oD (stp_indexAddr Tryz.underlying23 ts3 (by decide) rfl rfl rfl (Rdb.own (id := 2) rfl o12) e15) rfl (oD (stp_load1 ts3 rfl (Cells.el (Rdb.own (id := 2) rfl o12) (by decide) e15 0 1 rfl)) rfl (oS rfl (oS rfl (nn (cw_seq (rdq g_mixed [2, 3, 9] [0, 1] { dst := dS [33, 34, 35, 36, 37, 38, 39, 40], pre := gA [] [[], [0], [], [0, 1, 2], rn 0 4, rn 0 5, [], rn 0 7], ids := fun _ => [], rs := rL [[(2, 0)], [(32, 1)], [(9, 0)], [(33, 2), (34, 3)], [(35, 4)], [(36, 5)], [(3, 0)], [(37, 6), (38, 7)]], rh := rL [[], [(0, 0)], [], [], [], [], [(1, 0)]], V := fun i g => gA undef [.pointer (some ⟨b1, 1, none⟩), .slice p0_1 ((a0.f).length) c0_1, .int .i64 x15, .pointer (some ⟨eB p0_1, eO p0_1 + Int.toNat x15 * Enc.sz F + 0, none⟩), .pointer (some ⟨eB p0_1, eO p0_1 + Int.toNat x15 * Enc.sz F + 1, none⟩), .agg #[.int .i64 x16.k.s, .int .i64 x16.k.p], .agg #[.int .i64 a1.s, .int .i64 a1.p], .bool (x16.k == a1)] i, U := fun _ _ => [], Φ := fun _ _ => True } ?_ ?_))))))))))))
   ·exact ⟨lc rfl rfl fun hs hh => stp_fieldAddr (j := 1) Tryz.underlying26 rfl ts24 rfl (sv hs 2 rfl) rfl, lc rfl rfl fun hs hh => stp_load1 ts24 (sv hs 32 rfl) (Cells.box (id := 0) (hh.get 0 _ rfl) 1 rfl), lM, lc rfl rfl fun hs hh => stp_indexAddr Tryz.underlying24 ts72 (by decide) (sv hs 33 rfl) rfl (sv hs 34 rfl) (Rdb.ro hr0_1) e16, lc rfl rfl fun hs hh => stp_fieldAddr (j := 1) Tryz.underlying72 rfl ts44 rfl (sv hs 35 rfl) rfl, lc rfl rfl fun hs hh => stp_loadN (us := [_, _]) ts44 (sv hs 36 rfl) (Cells.el (Rdb.ro hr0_1) (by decide) e16 1 2 rfl), lc rfl rfl fun hs hh => stp_loadN (us := [_, _]) ts44 (sv hs 3 rfl) (Cells.box (id := 1) (hh.get 1 _ rfl) 2 rfl), lc rfl rfl fun hs hh => stp_eqlS te44 x16.k a1 (sv hs 37 rfl) (sv hs 38 rfl), trivial⟩
   intro g hΦ
   refine KW.sub (s' := [(2, .pointer (some ⟨b1, 0, none⟩)), (3, .pointer (some ⟨b2, 0, none⟩)), (7, .slice p9 ((x8).length) c11), (8, .int .i64 v13), (9, .int .i64 x15), (25, .slice p9 ((x8).length) c11), (26, .int .i64 ((x8).length : Int)), (27, .int .i64 v13), (39, .bool (x16.k == a1))]) (h' := [(0, [(b1, .cells #[.slice p0_0 ((a0.b).length) c0_0, .slice p0_1 ((a0.f).length) c0_1] 26 (0, 0))]), (1, [(b2, .cells #[.int .i64 a1.s, .int .i64 a1.p] 44 (0, 0))]), (2, C12)]) ?_ ⟨rfl, rfl, rfl, rfl, rfl, rfl, rfl, rfl, rfl, trivial⟩ ⟨rfl, rfl, rfl, trivial⟩
   refine kw_nx (cw_cond rfl (fun h17 => ?_) (fun h17 => ?_))
   ·have H1 := cond_t H1 h17
    obtain ⟨x18, e18, H1⟩ := bS H1
    refine sr (oM rfl (oM rfl (oP e18 rfl (oS rfl (oS rfl (oS rfl (nn (cw_ret (kw_bl_ret (kw_nx_ret (kw_lq_ret (kw_bl_ret (kw_join_ret ?_)))))))))))))
    refine kw_nx_ret ?_
    obtain rfl := sI H1
    obtain rfl := sI H0
    exact kr Tryz.results20 (.cons (.tmp rfl) (.cons (.tmp rfl) (rT rfl))) [] ⟨rfl, rfl⟩
   have H1 := cond_f H1 h17
   obtain ⟨x19, e19, H1⟩ := bS H1
   exact cw_skip (kw_bl_normal (kw_nx (cw_region (oP e19 rfl (oM rfl (ow_nil (kw_lqS (js := [0, 1, 2]) (fuel, x19) H1 (Nat.lt_succ_self _) ⟨rfl, rfl, rfl, rfl, rfl, rfl, trivial⟩ ⟨0, [1, 2], rfl, rfl, 1, [2], rfl, rfl, 2, [], rfl, rfl, trivial⟩ (by decide))))))))
  have H1 := cond_f H1 h14
  refine cw_exit (kw_nx_exit (kw_lq_exit (kw_bl ?_)))
  obtain rfl := sI H1
  exact kw_joinS (js := [0, 1, 2]) v13 rfl ⟨rfl, rfl, rfl, rfl, rfl, rfl, trivial⟩ ⟨0, [1, 2], rfl, rfl, 1, [2], rfl, rfl, 2, [], rfl, rfl, trivial⟩ (by decide)
 rintro v13 rfl
 dsimp only
 refine kw_nx (sr (oM rfl (oD (stp_len Tryz.underlying23 rfl) rfl (oS rfl (oS rfl (oS rfl (nn (cw_ret ?_))))))))
 obtain rfl := sI H0
 exact kr Tryz.results20 (.cons (.tmp rfl) (.cons (.tmp rfl) (rT rfl))) [] ⟨rfl, rfl⟩

theorem c_i_LookCpu (fl : Nat) (w : World) (a0 : Sy) (a1 : Int) (a2 : K) (hn0_0 : n0_0 = (a0.t.b).length) (hr0_0 : RO w (hkeys []) (RdL p0_0 c0_0 a0.t.b)) (hn0_1 : n0_1 = (a0.t.f).length) (hr0_1 : RO w (hkeys []) (RdL p0_1 c0_1 a0.t.f)) (hn0_2 : n0_2 = (a0.c).length) (hr0_2 : ROD w (hkeys []) p0_2 c0_2 a0.c) (hg : RO w (hkeys []) (fun w' => w'.rangeAt 0 0 [.bool false, .int .i64 0, .int .i64 0, .int .i64 0, .int .i64 (-1)])) (r : Sy × Int × Int × Bool) (H0 : i_LookCpu fl a0 a1 a2 = some r) :
  Ct Tryz.prog 21 [.agg #[.slice p0_0 n0_0 c0_0, .slice p0_1 n0_1 c0_1, .slice p0_2 n0_2 c0_2], .int .i64 a1, .agg #[.int .i64 a2.s, .int .i64 a2.p]] w [] (fun rv h' => ∃ (x0 : Option Addr) (y0 z0 : Nat) (C0 : Res) (x1 : Option Addr) (y1 z1 : Nat) (C1 : Res) (x2 : Option Addr) (y2 z2 : Nat) (C2 : Res), rv = .tuple #[.agg #[.slice x0 y0 z0, .slice x1 y1 z1, .slice x2 y2 z2], .int .i64 r.2.1, .int .i64 r.2.2.1, .bool r.2.2.2] ∧ h' = [(0, C0), (1, C1), (2, C2)] ∧ y0 = (r.1.t.b).length ∧ OwnC 3 x0 z0 r.1.t.b C0 ∧ y1 = (r.1.t.f).length ∧ OwnC 72 x1 z1 r.1.t.f C1 ∧ y2 = (r.1.c).length ∧ OwnD 37 51 x2 z2 r.1.c C2) := by
 subst hn0_0 hn0_1 hn0_2
 unfold i_LookCpu at H0
 refine ct_of_cw Tryz.func21 rfl Tryz.ntmps21 rfl (Sat.refl _ _) ?_
 refine sr (oE (stpU_box 0 rfl rfl) rfl ?_)
 rintro _ _ ⟨b1, rfl, rfl⟩
 refine oE (stpU_box 1 rfl rfl) rfl ?_
 rintro _ _ ⟨b2, rfl, rfl⟩
 refine oE (stpU_alloc 2 tz29 rfl) rfl ?_
 rintro _ _ ⟨b3, rfl, rfl⟩
 obtain ⟨x4, e4, H0⟩ := bS H0
 refine oS rfl (oS rfl (oS rfl (nn (cw_seq (sr (oB3 0 ts29 rfl (oM rfl (oE (stpU_call (fun i => 3 + i) cf23 (fun w hw => c_i_cpuOf fl w a0 a1 rfl (RO.pass hr0_0 hw) rfl (RO.pass hr0_1 hw) rfl (ROD.pass hr0_2 hw) (RO.pass hg hw) x4 e4) (yB rfl rfl)) rfl ?_))))))))
 rintro _ _ ⟨_, ⟨rfl, rfl⟩, rfl⟩
 obtain ⟨y5, ey5, H0⟩ := bS H0
 refine oK rfl (oM rfl (ow_cutY 4 23 y5 ?_ ?_))
 ·rcases Bool.eq_false_or_eq_true (!x4) with hy5 | hy5
  ·have ey5 := cond_t ey5 hy5
   refine oO rfl hy5 rfl (oO rfl hy5 rfl (oO rfl hy5 rfl (oD (stp_pick_t rfl hy5 rfl) rfl ?_)))
   obtain rfl := sI ey5
   exact ow_nil (jy 4 0)
  have ey5 := cond_f ey5 hy5
  obtain ⟨x6, e6, ey5⟩ := bS ey5
  refine oG rfl hy5 (stp_loadN (us := [_, _]) ts44 rfl (Cells.box (id := 1) rfl 2 rfl)) rfl (ow_eff (.some rfl hy5) (stpU_call (fun i => 3 + i) cf49 (fun w hw => c_i_KeyValid fl w a2 x6 e6) (yA rfl)) rfl ?_)
  rintro _ _ ⟨_, ⟨rfl, rfl⟩, rfl⟩
  refine oG rfl hy5 (stp_not rfl) rfl (oD (stp_pick_f rfl hy5 rfl) rfl ?_)
  obtain rfl := sI ey5
  exact ow_nil (jy 4 0)
 refine ow_nil (kw_nx (cw_cond rfl (fun h7 => ?_) (fun h7 => ?_)))
 ·have H0 := cond_t H0 h7
  refine sr (oD (stp_build (cs := #[.slice none 0 0, .slice none 0 0, .slice none 0 0]) sevp_nil bt29_2) rfl (oC3 2 ts29 rfl rfl (oS rfl (oS rfl (oS rfl (nn (cw_ret (kw_nx_ret (kw_addNil 3 (kw_addNil 4 (kw_addNil 5 ?_)))))))))))
  obtain rfl := sI H0
  exact kr Tryz.results21 (.cons (.cellN (us := [_, _, _]) ts29 rfl (Cells.box (id := 2) rfl 3 rfl)) (.cons (.tmp rfl) (.cons (.tmp rfl) (rT rfl)))) [3, 4, 5] ⟨_, _, _, _, _, _, _, _, _, _, _, _, rfl, rfl, rfl, (OwnC.nil _ _), rfl, (OwnC.nil _ _), rfl, (OwnD.nil _ _ _)⟩
 have H0 := cond_f H0 h7
 obtain ⟨x8, e8, H0⟩ := bS H0
 refine cw_skip (kw_nx (sr (oB3 0 ts29 rfl (oE (stpU_call (fun i => 6 + i) cf24 (fun w hw => c_i_System_clone fl w a0 rfl (RO.pass hr0_0 hw) rfl (RO.pass hr0_1 hw) rfl (ROD.pass hr0_2 hw) x8 e8) (yA rfl)) rfl ?_))))
 rintro _ _ ⟨_, ⟨p9, _, c11, C12, p13, _, c15, C16, p17, _, c19, C20, rfl, rfl, rfl, o12, rfl, o16, rfl, o20⟩, rfl⟩
 refine oE (stpU_alloc 9 tz29 rfl) rfl ?_
 rintro _ _ ⟨b21, rfl, rfl⟩
 obtain ⟨x22, e22, H0⟩ := bS H0
 refine oC3 9 ts29 rfl rfl (nn (sr (oA 2 Tryz.underlying29 rfl ts27 rfl (oL 9 ts27 rfl (oM rfl (ow_open 8 10 11 12 rfl o20 e22 ?_))))))
 rintro u23 p24 n25 c26 p27 n28 c29 C30 C31 C32 C33 o30 hb31 hx23 rfl o32 rfl o33
 obtain ⟨x34, e34, H0⟩ := bS H0
 refine oD (stp_indexAddr Tryz.underlying27 ts37 (by decide) rfl (Bun.len hb31) rfl (Rdb.own (id := 8) rfl o30) hx23) rfl (oS rfl (nn (cw_seq (cw_seq (rdq g_mixed [5, 11] [1, 8, 11] { dst := dS [32, 33, 34, 35, 36, 37, 13], pre := gA [] [[], [0], [0, 1], [0, 1, 2], [], rn 0 5, rn 0 6], ids := fun _ => [], rs := rL [[(11, 0)], [(31, 1)], [(32, 2)], [(33, 3)], [(5, 0)], [(34, 4), (35, 5)], [(36, 6)]], rh := rL [[], [], [], [(8, 0)], [(1, 0)], [(11, 0)]], V := fun i g => gA undef [.pointer (some ⟨eB p17, eO p17 + Int.toNat a1 * Enc.sz CpS + 0, none⟩), .pointer (some ⟨eB p17, eO p17 + Int.toNat a1 * Enc.sz CpS + 0, none⟩), .pointer (some ⟨eB p17, eO p17 + Int.toNat a1 * Enc.sz CpS + 0, none⟩), .slice p24 ((x22.n).length) c26, .agg #[.int .i64 a2.s, .int .i64 a2.p], .int .i64 x34, .int .i64 x34] i, U := fun _ _ => [], Φ := fun _ _ => True } ?_ ?_)))))
 ·refine ⟨lM, lc rfl rfl fun hs hh => stp_nilCheck (sv hs 31 rfl), lc rfl rfl fun hs hh => stp_fieldAddr (j := 0) Tryz.underlying37 rfl ts35 rfl (sv hs 32 rfl) rfl, lc rfl rfl fun hs hh => stp_load1 ts35 (sv hs 33 rfl) (Cells.el (Rdb.own (id := 8) (hh.get 8 _ rfl) o30) (by decide) hx23 0 1 rfl), lc rfl rfl fun hs hh => stp_loadN (us := [_, _]) ts44 (sv hs 5 rfl) (Cells.box (id := 1) (hh.get 1 _ rfl) 2 rfl), ?_, lS, trivial⟩
  refine le rfl rfl (fun g hΦ s h hs hh => (stpU_call (fun i => 13 + i) cf41 (fun w hw => c_i_noteOf fl w x22.n a2 rfl (OwnC.pass (id := 11) (hh.get 11 _ rfl) o32 hw) x34 e34) (yB (sv hs 34 rfl) (sv hs 35 rfl)))) ?_
  rintro g _ _ ⟨_, ⟨rfl, rfl⟩, rfl⟩
  exact ⟨⟨[], [], []⟩, trivial, .inr rfl, rfl⟩
 intro g hΦ
 refine KW.sub (s' := [(3, .pointer (some ⟨b1, 0, none⟩)), (5, .pointer (some ⟨b2, 0, none⟩)), (6, .pointer (some ⟨b3, 0, none⟩)), (10, .pointer (some ⟨b21, 0, none⟩)), (11, .pointer (some ⟨eB p17, eO p17 + Int.toNat a1 * Enc.sz CpS + 0, none⟩)), (12, .int .i64 x34)]) (h' := [(0, [(b1, .cells #[.slice p0_0 ((a0.t.b).length) c0_0, .slice p0_1 ((a0.t.f).length) c0_1, .slice p0_2 ((a0.c).length) c0_2] 29 (0, 0))]), (1, [(b2, .cells #[.int .i64 a2.s, .int .i64 a2.p] 44 (0, 0))]), (2, [(b3, .cells #[.slice none 0 0, .slice none 0 0, .slice none 0 0] 29 (0, 0))]), (6, C12), (7, C16), (8, C30), (9, [(b21, .cells #[.slice p9 ((x8.t.b).length) c11, .slice p13 ((x8.t.f).length) c15, .slice p17 ((x8.c).length) c19] 29 (0, 0))]), (10, C31), (11, C32), (12, C33)]) ?_ ⟨rfl, rfl, rfl, rfl, rfl, rfl, trivial⟩ ⟨rfl, rfl, rfl, rfl, rfl, rfl, rfl, rfl, rfl, rfl, trivial⟩
 refine kw_nx (sr (oM rfl (oI rfl (nn (cw_cond rfl (fun h35 => ?_) (fun h35 => ?_))))))
 ·have H0 := cond_t H0 h35
  obtain ⟨x36, e36, H0⟩ := bS H0
  refine cw_seq (rdq g_mixed [6, 10, 11, 12] [2, 8, 9, 11] { dst := dS [40, 41, 42, 43, 44, 45, 46, 47, 48, 0, 8, 9, 10], pre := gA [] [[], [], [1], [1, 2], [1, 2, 3], [], rn 1 5, rn 1 6, rn 1 7, [0], rn 0 10, rn 0 11, rn 0 12], ids := fun i => match i with | 9 => [2] | _ => [], rs := rL [[(10, 0)], [(11, 0)], [(40, 2)], [(41, 3)], [(42, 4)], [(12, 0)], [(43, 5), (44, 6)], [(45, 7)], [(46, 8)], [(6, 0), (39, 1)], [(47, 9)], [], []], rh := rL [[(9, 0)], [], [], [], [(8, 0)], [], [(11, 0)], [], [(11, 0)], [(2, 0)]], V := fun i g => gA undef [.agg #[.slice p9 ((x8.t.b).length) c11, .slice p13 ((x8.t.f).length) c15, .slice p17 ((x8.c).length) c19], .pointer (some ⟨eB p17, eO p17 + Int.toNat a1 * Enc.sz CpS + 0, none⟩), .pointer (some ⟨eB p17, eO p17 + Int.toNat a1 * Enc.sz CpS + 0, none⟩), .pointer (some ⟨eB p17, eO p17 + Int.toNat a1 * Enc.sz CpS + 0, none⟩), .slice p24 ((x22.n).length) c26, .int .i64 x34, .pointer (some ⟨eB p24, eO p24 + Int.toNat x34 * Enc.sz Nt + 0, none⟩), .pointer (some ⟨eB p24, eO p24 + Int.toNat x34 * Enc.sz Nt + 2, none⟩), .int .i64 x36.fr, undef, .int .i64 x36.fr, .int .i64 1, .bool true] i, U := fun i g => match i with | 9 => [(2, [(b3, .cells #[.slice p9 ((x8.t.b).length) c11, .slice p13 ((x8.t.f).length) c15, .slice p17 ((x8.c).length) c19] 29 (0, 0))])] | _ => [], Φ := fun _ _ => True } ?_ ?_)
  ·refine ⟨lc rfl rfl fun hs hh => stp_loadN (us := [_, _, _]) ts29 (sv hs 10 rfl) (Cells.box (id := 9) (hh.get 9 _ rfl) 3 rfl), lM, lc rfl rfl fun hs hh => stp_nilCheck (sv hs 40 rfl), lc rfl rfl fun hs hh => stp_fieldAddr (j := 0) Tryz.underlying37 rfl ts35 rfl (sv hs 41 rfl) rfl, lc rfl rfl fun hs hh => stp_load1 ts35 (sv hs 42 rfl) (Cells.el (Rdb.own (id := 8) (hh.get 8 _ rfl) o30) (by decide) hx23 0 1 rfl), lM, lc rfl rfl fun hs hh => stp_indexAddr Tryz.underlying35 ts51 (by decide) (sv hs 43 rfl) rfl (sv hs 44 rfl) (Rdb.own (id := 11) (hh.get 11 _ rfl) o32) e36, lc rfl rfl fun hs hh => stp_fieldAddr (j := 2) Tryz.underlying51 rfl ts3 rfl (sv hs 45 rfl) rfl, lc rfl rfl fun hs hh => stp_load1 ts3 (sv hs 46 rfl) (Cells.el (Rdb.own (id := 11) (hh.get 11 _ rfl) o32) (by decide) e36 2 1 rfl), ?_, lS, lc rfl rfl fun hs hh => stp_assign rfl, lc rfl rfl fun hs hh => stp_assign rfl, trivial⟩
   refine le rfl rfl (fun g hΦ s h hs hh => (stpU_store (id := 2) (cs' := [.slice p9 ((x8.t.b).length) c11, .slice p13 ((x8.t.f).length) c15, .slice p17 ((x8.c).length) c19]) ts29 (sv hs 6 rfl) (sv hs 39 rfl) (hh.get 2 _ rfl) rfl rfl rfl rfl)) ?_
   rintro g _ _ rfl
   exact ⟨⟨[], [], []⟩, trivial, .inl rfl, rfl⟩
  intro g hΦ
  refine KW.sub (s' := [(6, .pointer (some ⟨b3, 0, none⟩)), (7, .int .i64 x36.fr), (8, .int .i64 1), (9, .bool true)]) (h' := [(2, [(b3, .cells #[.slice p9 ((x8.t.b).length) c11, .slice p13 ((x8.t.f).length) c15, .slice p17 ((x8.c).length) c19] 29 (0, 0))]), (6, C12), (7, C16), (8, C30), (10, C31), (11, C32), (12, C33)]) ?_ ⟨rfl, rfl, rfl, rfl, trivial⟩ ⟨rfl, rfl, rfl, rfl, rfl, rfl, rfl, trivial⟩
  refine kw_nx (cw_ret (kw_nx_ret (kw_shut 8 10 11 12 o30 hb31 (idx_some hx23).2.2 (idx_some e22).2.2 rfl o32 rfl o33 ?_)))
  rintro C37 o37
  obtain rfl := sI H0
  exact kr Tryz.results21 (.cons (.cellN (us := [_, _, _]) ts29 rfl (Cells.box (id := 2) rfl 3 rfl)) (.cons (.tmp rfl) (.cons (.tmp rfl) (rT rfl)))) [6, 7, 8] ⟨_, _, _, _, _, _, _, _, _, _, _, _, rfl, rfl, rfl, o12, rfl, o16, rfl, o37⟩
 have H0 := cond_f H0 h35
 obtain ⟨x38, e38, H0⟩ := bS H0
 refine cw_skip (kw_nx (sr (oA 0 Tryz.underlying29 rfl ts26 rfl (oB2 0 ts26 rfl (oB2 1 ts44 rfl (oE (stpU_call (fun i => 13 + i) cf40 (fun w hw => c_i_Table_find fl w a0.t a2 rfl (RO.pass hr0_0 hw) rfl (RO.pass hr0_1 hw) x38 e38) (yB rfl rfl)) rfl ?_))))))
 rintro _ _ ⟨_, ⟨rfl, rfl⟩, rfl⟩
 refine oS rfl (nn (cw_seq (sr (oM rfl (oW rfl (nn (cw_cond rfl (fun h39 => ?_) (fun h39 => ?_))))))))
 ·have H0 := cond_t H0 h39
  refine sr (oB3 9 ts29 rfl (oC3 2 ts29 rfl rfl (oS rfl (oS rfl (oS rfl (nn (cw_ret (kw_nx_ret (kw_shut 8 10 11 12 o30 hb31 (idx_some hx23).2.2 (idx_some e22).2.2 rfl o32 rfl o33 ?_)))))))))
  rintro C40 o40
  obtain rfl := sI H0
  exact kr Tryz.results21 (.cons (.cellN (us := [_, _, _]) ts29 rfl (Cells.box (id := 2) rfl 3 rfl)) (.cons (.tmp rfl) (.cons (.tmp rfl) (rT rfl)))) [6, 7, 8] ⟨_, _, _, _, _, _, _, _, _, _, _, _, rfl, rfl, rfl, o12, rfl, o16, rfl, o40⟩
 have H0 := cond_f H0 h39
 refine cw_skip (kw_nx (cw_seq (sr (oM rfl (oZ rfl (oA 0 Tryz.underlying37 rfl ts35 rfl (oD (stp_load1 ts35 rfl (Cells.el (Rdb.own (id := 8) rfl o30) (by decide) hx23 0 1 rfl)) rfl (oD (stp_len Tryz.underlying35 rfl) rfl (oQ rfl (nn (cw_cond rfl (fun h41 => ?_) (fun h41 => ?_))))))))))))
 ·have H0 := cond_t H0 h41
  obtain ⟨x42, e42, H0⟩ := bS H0
  refine sr (oM rfl (oZ rfl (oA 0 Tryz.underlying37 rfl ts35 rfl (oD (stp_load1 ts35 rfl (Cells.el (Rdb.own (id := 8) rfl o30) (by decide) hx23 0 1 rfl)) rfl (oD (stp_indexAddr Tryz.underlying35 ts51 (by decide) rfl rfl rfl (Rdb.own (id := 11) rfl o32) e42) rfl (oA 0 Tryz.underlying51 rfl ts44 rfl (oD (stp_loadN (us := [_, _]) ts44 rfl (Cells.el (Rdb.own (id := 11) rfl o32) (by decide) e42 0 2 rfl)) rfl (oE (stpU_alloc 13 tz44 rfl) rfl ?_))))))))
  rintro _ _ ⟨b43, rfl, rfl⟩
  obtain ⟨x44, e44, H0⟩ := bS H0
  obtain ⟨x49, e49, H0⟩ := bS H0
  refine oC2 13 ts44 rfl rfl (nn (rdq g_mixed [11, 14] [8, 11, 12, 13] { dst := dS [69, 70, 71, 72, 73, 74, 75, 76, 77, 78, 79, 80, 81, 82, 83, 84, 0, 85, 86, 0], pre := gA [] [[], [], [], [2], [2, 3], [2, 3, 4], [], rn 2 5, [], [8], [8, 9], [8, 9, 10], [], rn 2 11, [0, 2, 3, 4, 5, 6, 7, 8, 9, 10, 11, 12, 13], [0, 2, 3, 4, 5, 6, 7, 8, 9, 10, 11, 12, 13, 14], [0, 2, 3, 4, 5, 6, 7, 8, 9, 10, 11, 12, 13, 14, 15], rn 0 17, rn 0 18, rn 0 19], ids := fun i => match i with | 7 => [14] | 13 => [15] | 16 => [8, 14] | 19 => [8, 14, 15] | _ => [], rs := rL [[(11, 0)], [(11, 0)], [(11, 0)], [(70, 3)], [(71, 4)], [(72, 5)], [(14, 0)], [(73, 6), (74, 7)], [(11, 0)], [(76, 9)], [(77, 10)], [(78, 11)], [(14, 0)], [(79, 12), (80, 13)], [(68, 1)], [(82, 15)], [(83, 16), (75, 8)], [(69, 2)], [(84, 18)], [(85, 19), (81, 14)]], rh := rL [[], [], [], [], [], [(8, 0)], [(13, 0)], [(11, 0)], [], [], [], [(8, 0)], [(13, 0)], [(12, 0)], [], [], [(8, 0), (14, 8)], [], [], [(8, 17), (14, 17), (15, 14)]], V := fun i g => gA undef [.pointer (some ⟨eB p17, eO p17 + Int.toNat a1 * Enc.sz CpS + 0, none⟩), .pointer (some ⟨eB p17, eO p17 + Int.toNat a1 * Enc.sz CpS + 0, none⟩), .pointer (some ⟨eB p17, eO p17 + Int.toNat a1 * Enc.sz CpS + 0, none⟩), .pointer (some ⟨eB p17, eO p17 + Int.toNat a1 * Enc.sz CpS + 0, none⟩), .pointer (some ⟨eB p17, eO p17 + Int.toNat a1 * Enc.sz CpS + 0, none⟩), .slice p24 ((x22.n).length) c26, .agg #[.int .i64 x42.k.s, .int .i64 x42.k.p], .slice ((g 7).A 0) ((x44).length) ((g 7).C 0), .pointer (some ⟨eB p17, eO p17 + Int.toNat a1 * Enc.sz CpS + 0, none⟩), .pointer (some ⟨eB p17, eO p17 + Int.toNat a1 * Enc.sz CpS + 0, none⟩), .pointer (some ⟨eB p17, eO p17 + Int.toNat a1 * Enc.sz CpS + 1, none⟩), .slice p27 ((x22.w).length) c29, .agg #[.int .i64 x42.k.s, .int .i64 x42.k.p], .slice ((g 13).A 0) ((x49).length) ((g 13).C 0), .pointer (some ⟨eB p17, eO p17 + Int.toNat a1 * Enc.sz CpS + 0, none⟩), .pointer (some ⟨eB p17, eO p17 + Int.toNat a1 * Enc.sz CpS + 0, none⟩), undef, .pointer (some ⟨eB p17, eO p17 + Int.toNat a1 * Enc.sz CpS + 0, none⟩), .pointer (some ⟨eB p17, eO p17 + Int.toNat a1 * Enc.sz CpS + 1, none⟩)] i, U := fun i g => match i with | 7 => [(14, ((g 7).R 0))] | 13 => [(15, ((g 13).R 0))] | 16 => [(8, ((g 16).R 0)), (14, ((g 16).R 1))] | 19 => [(8, ((g 19).R 0)), (14, ((g 19).R 1)), (15, ((g 19).R 2))] | _ => [], Φ := fun i x => match i with | 7 => OwnC 51 (x.A 0) (x.C 0) x44 (x.R 0) | 13 => OwnC 51 (x.A 0) (x.C 0) x49 (x.R 0) | 16 => OwnC (α := CpS) 37 p17 c19 (u23.set (Int.toNat a1) (⟨(x.A 0), (x44).length, (x.C 0), p27, (x22.w).length, c29⟩ : CpS)) (x.R 0) ∧ OwnC 51 (x.A 0) (x.C 0) x44 (x.R 1) | 19 => OwnC (α := CpS) 37 p17 c19 (u23.set (Int.toNat a1) (⟨(x.A 0), (x44).length, (x.C 0), (x.A 1), (x49).length, (x.C 1)⟩ : CpS)) (x.R 0) ∧ OwnC 51 (x.A 0) (x.C 0) x44 (x.R 1) ∧ OwnC 51 (x.A 1) (x.C 1) x49 (x.R 2) | _ => True } ?_ ?_))
  ·refine ⟨lM, lM, lM, lc rfl rfl fun hs hh => stp_nilCheck (sv hs 70 rfl), lc rfl rfl fun hs hh => stp_fieldAddr (j := 0) Tryz.underlying37 rfl ts35 rfl (sv hs 71 rfl) rfl, lc rfl rfl fun hs hh => stp_load1 ts35 (sv hs 72 rfl) (Cells.el (Rdb.own (id := 8) (hh.get 8 _ rfl) o30) (by decide) hx23 0 1 rfl), lc rfl rfl fun hs hh => stp_loadN (us := [_, _]) ts44 (sv hs 14 rfl) (Cells.box (id := 13) (hh.get 13 _ rfl) 2 rfl), ?_, lM, lc rfl rfl fun hs hh => stp_nilCheck (sv hs 76 rfl), lc rfl rfl fun hs hh => stp_fieldAddr (j := 1) Tryz.underlying37 rfl ts35 rfl (sv hs 77 rfl) rfl, lc rfl rfl fun hs hh => stp_load1 ts35 (sv hs 78 rfl) (Cells.el (Rdb.own (id := 8) (hh.get 8 _ rfl) o30) (by decide) hx23 1 1 rfl), lc rfl rfl fun hs hh => stp_loadN (us := [_, _]) ts44 (sv hs 14 rfl) (Cells.box (id := 13) (hh.get 13 _ rfl) 2 rfl), ?_, lc rfl rfl fun hs hh => stp_nilCheck (sv hs 68 rfl), lc rfl rfl fun hs hh => stp_fieldAddr (j := 0) Tryz.underlying37 rfl ts35 rfl (sv hs 82 rfl) rfl, ?_, lc rfl rfl fun hs hh => stp_nilCheck (sv hs 69 rfl), lc rfl rfl fun hs hh => stp_fieldAddr (j := 1) Tryz.underlying37 rfl ts35 rfl (sv hs 84 rfl) rfl, ?_, trivial⟩
   ·refine le rfl rfl (fun g hΦ s h hs hh => (stpU_call (fun i => 14 + i) cf44 (fun w hw => c_i_drop fl w x22.n x42.k rfl (OwnC.pass (id := 11) (hh.get 11 _ rfl) o32 hw) x44 e44) (yB (sv hs 73 rfl) (sv hs 74 rfl)))) ?_
    rintro g _ _ ⟨_, ⟨p45, _, c47, C48, rfl, rfl, rfl, o48⟩, rfl⟩
    exact ⟨⟨[p45], [c47], [C48]⟩, o48, .inr rfl, rfl⟩
   ·refine le rfl rfl (fun g hΦ s h hs hh => (stpU_call (fun i => 15 + i) cf44 (fun w hw => c_i_drop fl w x22.w x42.k rfl (OwnC.pass (id := 12) (hh.get 12 _ rfl) o33 hw) x49 e49) (yB (sv hs 79 rfl) (sv hs 80 rfl)))) ?_
    rintro g _ _ ⟨_, ⟨p50, _, c52, C53, rfl, rfl, rfl, o53⟩, rfl⟩
    exact ⟨⟨[p50], [c52], [C53]⟩, o53, .inr rfl, rfl⟩
   ·refine le rfl rfl (fun g hΦ s h hs hh => (stpU_keep (hh.get 14 _ rfl) (stpU_storeEl (id := 8) (i := 0) (⟨((g 7).A 0), (x44).length, ((g 7).C 0), p27, (x22.w).length, c29⟩ : CpS) (by decide) ts35 (sv hs 83 rfl) (sv hs 75 rfl) (hh.get 8 _ rfl) o30 hx23 rfl rfl rfl rfl) (by rintro _ _ ⟨_, rfl, _⟩; rfl) (hΦ 7 rfl))) ?_
    rintro g _ _ ⟨_, ⟨C54, rfl, o54⟩, rfl, o57⟩
    exact ⟨⟨[((g 7).A 0)], [((g 7).C 0)], [C54, ((g 7).R 0)]⟩, ⟨o54, o57⟩, .inl rfl, rfl⟩
   refine le rfl rfl (fun g hΦ s h hs hh => (stpU_keep (hh.get 15 _ rfl) (stpU_keep (hh.get 14 _ rfl) (stpU_storeElS (id := 8) (i := 1) (⟨((g 16).A 0), (x44).length, ((g 16).C 0), ((g 13).A 0), (x49).length, ((g 13).C 0)⟩ : CpS) (by decide) ts35 (sv hs 85 rfl) (sv hs 81 rfl) (hh.get 8 _ rfl) (hΦ 16 rfl).1 (idx_set hx23) rfl rfl rfl rfl) (by rintro _ _ ⟨_, rfl, _⟩; rfl) (hΦ 16 rfl).2) (by rintro _ _ ⟨_, ⟨_, rfl, _⟩, rfl, _⟩; rfl) (hΦ 13 rfl))) ?_
   rintro g _ _ ⟨_, ⟨_, ⟨C58, rfl, o58⟩, rfl, o61⟩, rfl, o64⟩
   exact ⟨⟨[((g 16).A 0), ((g 13).A 0)], [((g 16).C 0), ((g 13).C 0)], [C58, ((g 16).R 1), ((g 13).R 0)]⟩, ⟨o58, o61, o64⟩, .inl rfl, rfl⟩
  intro g hΦ
  refine kw_gen (ι := Option Addr × Nat × Res × Option Addr × Nat × Res × Option Addr × Nat × Res × Res × Option Addr × Option Addr × Nat × Nat × Res × Res × Res) (((g 7).A 0), ((g 7).C 0), ((g 7).R 0), ((g 13).A 0), ((g 13).C 0), ((g 13).R 0), ((g 16).A 0), ((g 16).C 0), ((g 16).R 0), ((g 16).R 1), ((g 19).A 0), ((g 19).A 1), ((g 19).C 0), ((g 19).C 1), ((g 19).R 0), ((g 19).R 1), ((g 19).R 2)) (fun | (p45, c47, C48, p50, c52, C53, p55, c56, C54, C57, p59, p62, c60, c63, C58, C61, C64) => OwnC 51 p45 c47 x44 C48 ∧ OwnC 51 p50 c52 x49 C53 ∧ OwnC (α := CpS) 37 p17 c19 (u23.set (Int.toNat a1) (⟨p55, (x44).length, c56, p27, (x22.w).length, c29⟩ : CpS)) C54 ∧ OwnC 51 p55 c56 x44 C57 ∧ OwnC (α := CpS) 37 p17 c19 (u23.set (Int.toNat a1) (⟨p59, (x44).length, c60, p62, (x49).length, c63⟩ : CpS)) C58 ∧ OwnC 51 p59 c60 x44 C61 ∧ OwnC 51 p62 c63 x49 C64) (fun | (p45, c47, C48, p50, c52, C53, p55, c56, C54, C57, p59, p62, c60, c63, C58, C61, C64) => [(5, .pointer (some ⟨b2, 0, none⟩)), (6, .pointer (some ⟨b3, 0, none⟩)), (10, .pointer (some ⟨b21, 0, none⟩)), (11, .pointer (some ⟨eB p17, eO p17 + Int.toNat a1 * Enc.sz CpS + 0, none⟩)), (13, .int .i64 x38)]) (fun | (p45, c47, C48, p50, c52, C53, p55, c56, C54, C57, p59, p62, c60, c63, C58, C61, C64) => [(1, [(b2, .cells #[.int .i64 a2.s, .int .i64 a2.p] 44 (0, 0))]), (2, [(b3, .cells #[.slice none 0 0, .slice none 0 0, .slice none 0 0] 29 (0, 0))]), (6, C12), (7, C16), (8, C58), (9, [(b21, .cells #[.slice p9 ((x8.t.b).length) c11, .slice p13 ((x8.t.f).length) c15, .slice p17 ((x8.c).length) c19] 29 (0, 0))]), (10, C31), (14, C61), (15, C64)]) ⟨(hΦ 7 (by decide)), (hΦ 13 (by decide)), (hΦ 16 (by decide)).1, (hΦ 16 (by decide)).2, (hΦ 19 (by decide)).1, (hΦ 19 (by decide)).2.1, (hΦ 19 (by decide)).2.2⟩ ⟨rfl, rfl, rfl, rfl, rfl, trivial⟩ ⟨rfl, rfl, rfl, rfl, rfl, rfl, rfl, rfl, rfl, trivial⟩ ?_
  rintro ⟨p45, c47, C48, p50, c52, C53, p55, c56, C54, C57, p59, p62, c60, c63, C58, C61, C64⟩ ⟨o48, o53, o54, o57, o58, o61, o64⟩
  dsimp only
  obtain ⟨x67, e67, H0⟩ := bS H0
  refine kw_nx (cw_seq (rdq g_mixed [5, 11, 13] [1, 8, 14] { dst := dS [87, 88, 89, 90, 91, 92, 93, 94, 95, 96, 97, 98, 99, 0], pre := gA [] [[], [], [1], [1, 2], [1, 2, 3], [], [], [5, 6], [5, 6, 7], rn 1 8, rn 1 9, rn 0 11, rn 0 12, rn 0 13], ids := fun i => match i with | 8 => [16] | 9 => [14] | 13 => [8, 14] | _ => [], rs := rL [[(11, 0)], [(11, 0)], [(87, 2)], [(88, 3)], [(89, 4)], [(5, 0)], [(13, 0)], [(91, 6), (92, 7)], [(93, 8)], [(90, 5), (94, 9)], [(95, 10)], [(86, 1)], [(97, 12)], [(98, 13), (96, 11)]], rh := rL [[], [], [], [], [(8, 0)], [(1, 0)], [], [], [], [(14, 0), (16, 9)], [], [], [], [(8, 0), (14, 10)]], V := fun i g => gA undef [.pointer (some ⟨eB p17, eO p17 + Int.toNat a1 * Enc.sz CpS + 0, none⟩), .pointer (some ⟨eB p17, eO p17 + Int.toNat a1 * Enc.sz CpS + 0, none⟩), .pointer (some ⟨eB p17, eO p17 + Int.toNat a1 * Enc.sz CpS + 0, none⟩), .pointer (some ⟨eB p17, eO p17 + Int.toNat a1 * Enc.sz CpS + 0, none⟩), .slice p59 ((x44).length) c60, .agg #[.int .i64 a2.s, .int .i64 a2.p], .int .i64 x38, .agg #[.int .i64 a2.s, .int .i64 a2.p, .int .i64 x38], .slice ((g 8).A 0) 1 1, .slice ((g 9).A 0) ((x67).length) ((g 9).C 0), .slice ((g 9).A 0) ((x67).length) ((x67).length), .pointer (some ⟨eB p17, eO p17 + Int.toNat a1 * Enc.sz CpS + 0, none⟩), .pointer (some ⟨eB p17, eO p17 + Int.toNat a1 * Enc.sz CpS + 0, none⟩)] i, U := fun i g => match i with | 8 => [(16, ((g 8).R 0))] | 9 => [(14, ((g 9).R 0))] | 13 => [(8, ((g 13).R 0)), (14, ((g 13).R 1))] | _ => [], Φ := fun i x => match i with | 8 => OwnC (α := Nt) 51 (x.A 0) 1 ([(⟨a2, x38⟩ : Nt)]) (x.R 0) | 9 => OwnC 51 (x.A 0) (x.C 0) x67 (x.R 0) | 13 => OwnC (α := CpS) 37 p17 c19 (u23.set (Int.toNat a1) (⟨(x.A 0), (x67).length, (x.C 0), p62, (x49).length, c63⟩ : CpS)) (x.R 0) ∧ OwnC 51 (x.A 0) (x.C 0) x67 (x.R 1) | _ => True } ?_ ?_))
  ·refine ⟨lM, lM, lc rfl rfl fun hs hh => stp_nilCheck (sv hs 87 rfl), lc rfl rfl fun hs hh => stp_fieldAddr (j := 0) Tryz.underlying37 rfl ts35 rfl (sv hs 88 rfl) rfl, lc rfl rfl fun hs hh => stp_load1 ts35 (sv hs 89 rfl) (Cells.el (Rdb.own (id := 8) (hh.get 8 _ rfl) o58) (by decide) (idx_set hx23) 0 1 rfl), lc rfl rfl fun hs hh => stp_loadN (us := [_, _]) ts44 (sv hs 5 rfl) (Cells.box (id := 1) (hh.get 1 _ rfl) 2 rfl), lM, lc rfl rfl fun hs hh => stp_build (cs := #[.int .i64 a2.s, .int .i64 a2.p, .int .i64 x38]) (sevp_cons (sv hs 91 rfl) (sevp_cons (sv hs 92 rfl) sevp_nil)) bt51_9, ?_, ?_, ?_, lc rfl rfl fun hs hh => stp_nilCheck (sv hs 86 rfl), lc rfl rfl fun hs hh => stp_fieldAddr (j := 0) Tryz.underlying37 rfl ts35 rfl (sv hs 97 rfl) rfl, ?_, trivial⟩
   ·refine le rfl rfl (fun g hΦ s h hs hh => (stpU_lit (sz := 3) (l := [(⟨a2, x38⟩ : Nt)]) [.agg #[.int .i64 a2.s, .int .i64 a2.p, .int .i64 x38]] sl35 16 (sevp_cons (sv hs 93 rfl) sevp_nil) rfl rfl rfl rfl rfl rfl rfl rfl rfl)) ?_
    rintro g _ _ ⟨p65, C66, rfl, rfl, o66⟩
    exact ⟨⟨[p65], [], [C66]⟩, o66, .inr rfl, rfl⟩
   ·refine le rfl rfl (fun g hΦ s h hs hh => (stpU_append sl35 rfl (id := 14) (sv hs 90 rfl) rfl (sv hs 94 rfl) (by simp) (hh.get 14 _ rfl) o61 (Rdb.own (id := 16) (hh.get 16 _ rfl) (hΦ 8 rfl)) e67)) ?_
    rintro g _ _ ⟨p68, c69, C70, rfl, rfl, o70⟩
    exact ⟨⟨[p68], [c69], [C70]⟩, o70, .inr rfl, rfl⟩
   ·refine le rfl rfl (fun g hΦ s h hs hh => (stpU_call (fun i => i) cf45 (fun w hw => c_clip45 w ((g 9).A 0) ((x67).length) ((g 9).C 0) (OwnC.len (hΦ 9 rfl)).1) (yA (sv hs 95 rfl)))) ?_
    rintro g _ _ ⟨_, ⟨rfl, rfl⟩, rfl⟩
    exact ⟨⟨[], [], []⟩, trivial, .inr rfl, rfl⟩
   refine le rfl rfl (fun g hΦ s h hs hh => (stpU_keep (hh.get 14 _ rfl) (stpU_storeElS (id := 8) (i := 0) (⟨((g 9).A 0), (x67).length, (x67).length, p62, (x49).length, c63⟩ : CpS) (by decide) ts35 (sv hs 98 rfl) (sv hs 96 rfl) (hh.get 8 _ rfl) o58 (idx_set hx23) rfl rfl rfl rfl) (by rintro _ _ ⟨_, rfl, _⟩; rfl) (OwnC.clip (hΦ 9 rfl)))) ?_
   rintro g _ _ ⟨_, ⟨C71, rfl, o71⟩, rfl, o74⟩
   exact ⟨⟨[((g 9).A 0)], [(x67).length], [C71, ((g 9).R 0)]⟩, ⟨o71, o74⟩, .inl rfl, rfl⟩
  intro g hΦ
  refine kw_gen (ι := Option Addr × Res × Option Addr × Nat × Res × Option Addr × Nat × Res × Res) (((g 8).A 0), ((g 8).R 0), ((g 9).A 0), ((g 9).C 0), ((g 9).R 0), ((g 13).A 0), ((g 13).C 0), ((g 13).R 0), ((g 13).R 1)) (fun | (p65, C66, p68, c69, C70, p72, c73, C71, C74) => OwnC (α := Nt) 51 p65 1 ([(⟨a2, x38⟩ : Nt)]) C66 ∧ OwnC 51 p68 c69 x67 C70 ∧ OwnC (α := CpS) 37 p17 c19 (u23.set (Int.toNat a1) (⟨p72, (x67).length, c73, p62, (x49).length, c63⟩ : CpS)) C71 ∧ OwnC 51 p72 c73 x67 C74) (fun | (p65, C66, p68, c69, C70, p72, c73, C71, C74) => [(6, .pointer (some ⟨b3, 0, none⟩)), (10, .pointer (some ⟨b21, 0, none⟩)), (13, .int .i64 x38)]) (fun | (p65, C66, p68, c69, C70, p72, c73, C71, C74) => [(2, [(b3, .cells #[.slice none 0 0, .slice none 0 0, .slice none 0 0] 29 (0, 0))]), (6, C12), (7, C16), (8, C71), (9, [(b21, .cells #[.slice p9 ((x8.t.b).length) c11, .slice p13 ((x8.t.f).length) c15, .slice p17 ((x8.c).length) c19] 29 (0, 0))]), (10, C31), (14, C74), (15, C64)]) ⟨(hΦ 8 (by decide)), (hΦ 9 (by decide)), (hΦ 13 (by decide)).1, (hΦ 13 (by decide)).2⟩ ⟨rfl, rfl, rfl, trivial⟩ ⟨rfl, rfl, rfl, rfl, rfl, rfl, rfl, rfl, trivial⟩ ?_
  rintro ⟨p65, C66, p68, c69, C70, p72, c73, C71, C74⟩ ⟨o66, o70, o71, o74⟩
  dsimp only
  refine kw_nx (sr (oB3 9 ts29 rfl (oM rfl (oC3 2 ts29 rfl rfl (oS rfl (oS rfl (oS rfl (nn (cw_ret (kw_shut 8 10 14 15 o71 (Bun.setL (Bun.set hb31 _) _) (idx_some (idx_set hx23)).2.2 (idx_setD e22 (⟨x67, x49⟩ : Cp)) rfl o74 rfl o64 ?_))))))))))
  rintro C75 o75
  obtain rfl := sI H0
  exact kr Tryz.results21 (.cons (.cellN (us := [_, _, _]) ts29 rfl (Cells.box (id := 2) rfl 3 rfl)) (.cons (.tmp rfl) (.cons (.tmp rfl) (rT rfl)))) [6, 7, 8] ⟨_, _, _, _, _, _, _, _, _, _, _, _, rfl, rfl, rfl, o12, rfl, o16, (by simp), o75⟩
 have H0 := cond_f H0 h41
 obtain ⟨x78, e78, H0⟩ := bS H0
 refine cw_skip (kw_nx (cw_seq (rdq g_mixed [5, 11, 13] [1, 8, 11] { dst := dS [87, 88, 89, 90, 91, 92, 93, 94, 95, 96, 97, 98, 99, 0], pre := gA [] [[], [], [1], [1, 2], [1, 2, 3], [], [], [5, 6], [5, 6, 7], rn 1 8, rn 1 9, rn 0 11, rn 0 12, rn 0 13], ids := fun i => match i with | 8 => [17] | 9 => [11] | 13 => [8, 11] | _ => [], rs := rL [[(11, 0)], [(11, 0)], [(87, 2)], [(88, 3)], [(89, 4)], [(5, 0)], [(13, 0)], [(91, 6), (92, 7)], [(93, 8)], [(90, 5), (94, 9)], [(95, 10)], [(86, 1)], [(97, 12)], [(98, 13), (96, 11)]], rh := rL [[], [], [], [], [(8, 0)], [(1, 0)], [], [], [], [(11, 0), (17, 9)], [], [], [], [(8, 0), (11, 10)]], V := fun i g => gA undef [.pointer (some ⟨eB p17, eO p17 + Int.toNat a1 * Enc.sz CpS + 0, none⟩), .pointer (some ⟨eB p17, eO p17 + Int.toNat a1 * Enc.sz CpS + 0, none⟩), .pointer (some ⟨eB p17, eO p17 + Int.toNat a1 * Enc.sz CpS + 0, none⟩), .pointer (some ⟨eB p17, eO p17 + Int.toNat a1 * Enc.sz CpS + 0, none⟩), .slice p24 ((x22.n).length) c26, .agg #[.int .i64 a2.s, .int .i64 a2.p], .int .i64 x38, .agg #[.int .i64 a2.s, .int .i64 a2.p, .int .i64 x38], .slice ((g 8).A 0) 1 1, .slice ((g 9).A 0) ((x78).length) ((g 9).C 0), .slice ((g 9).A 0) ((x78).length) ((x78).length), .pointer (some ⟨eB p17, eO p17 + Int.toNat a1 * Enc.sz CpS + 0, none⟩), .pointer (some ⟨eB p17, eO p17 + Int.toNat a1 * Enc.sz CpS + 0, none⟩)] i, U := fun i g => match i with | 8 => [(17, ((g 8).R 0))] | 9 => [(11, ((g 9).R 0))] | 13 => [(8, ((g 13).R 0)), (11, ((g 13).R 1))] | _ => [], Φ := fun i x => match i with | 8 => OwnC (α := Nt) 51 (x.A 0) 1 ([(⟨a2, x38⟩ : Nt)]) (x.R 0) | 9 => OwnC 51 (x.A 0) (x.C 0) x78 (x.R 0) | 13 => OwnC (α := CpS) 37 p17 c19 (u23.set (Int.toNat a1) (⟨(x.A 0), (x78).length, (x.C 0), p27, (x22.w).length, c29⟩ : CpS)) (x.R 0) ∧ OwnC 51 (x.A 0) (x.C 0) x78 (x.R 1) | _ => True } ?_ ?_)))
 ·refine ⟨lM, lM, lc rfl rfl fun hs hh => stp_nilCheck (sv hs 87 rfl), lc rfl rfl fun hs hh => stp_fieldAddr (j := 0) Tryz.underlying37 rfl ts35 rfl (sv hs 88 rfl) rfl, lc rfl rfl fun hs hh => stp_load1 ts35 (sv hs 89 rfl) (Cells.el (Rdb.own (id := 8) (hh.get 8 _ rfl) o30) (by decide) hx23 0 1 rfl), lc rfl rfl fun hs hh => stp_loadN (us := [_, _]) ts44 (sv hs 5 rfl) (Cells.box (id := 1) (hh.get 1 _ rfl) 2 rfl), lM, lc rfl rfl fun hs hh => stp_build (cs := #[.int .i64 a2.s, .int .i64 a2.p, .int .i64 x38]) (sevp_cons (sv hs 91 rfl) (sevp_cons (sv hs 92 rfl) sevp_nil)) bt51_9, ?_, ?_, ?_, lc rfl rfl fun hs hh => stp_nilCheck (sv hs 86 rfl), lc rfl rfl fun hs hh => stp_fieldAddr (j := 0) Tryz.underlying37 rfl ts35 rfl (sv hs 97 rfl) rfl, ?_, trivial⟩
  ·refine le rfl rfl (fun g hΦ s h hs hh => (stpU_lit (sz := 3) (l := [(⟨a2, x38⟩ : Nt)]) [.agg #[.int .i64 a2.s, .int .i64 a2.p, .int .i64 x38]] sl35 17 (sevp_cons (sv hs 93 rfl) sevp_nil) rfl rfl rfl rfl rfl rfl rfl rfl rfl)) ?_
   rintro g _ _ ⟨p76, C77, rfl, rfl, o77⟩
   exact ⟨⟨[p76], [], [C77]⟩, o77, .inr rfl, rfl⟩
  ·refine le rfl rfl (fun g hΦ s h hs hh => (stpU_append sl35 rfl (id := 11) (sv hs 90 rfl) rfl (sv hs 94 rfl) (by simp) (hh.get 11 _ rfl) o32 (Rdb.own (id := 17) (hh.get 17 _ rfl) (hΦ 8 rfl)) e78)) ?_
   rintro g _ _ ⟨p79, c80, C81, rfl, rfl, o81⟩
   exact ⟨⟨[p79], [c80], [C81]⟩, o81, .inr rfl, rfl⟩
  ·refine le rfl rfl (fun g hΦ s h hs hh => (stpU_call (fun i => i) cf45 (fun w hw => c_clip45 w ((g 9).A 0) ((x78).length) ((g 9).C 0) (OwnC.len (hΦ 9 rfl)).1) (yA (sv hs 95 rfl)))) ?_
   rintro g _ _ ⟨_, ⟨rfl, rfl⟩, rfl⟩
   exact ⟨⟨[], [], []⟩, trivial, .inr rfl, rfl⟩
  refine le rfl rfl (fun g hΦ s h hs hh => (stpU_keep (hh.get 11 _ rfl) (stpU_storeEl (id := 8) (i := 0) (⟨((g 9).A 0), (x78).length, (x78).length, p27, (x22.w).length, c29⟩ : CpS) (by decide) ts35 (sv hs 98 rfl) (sv hs 96 rfl) (hh.get 8 _ rfl) o30 hx23 rfl rfl rfl rfl) (by rintro _ _ ⟨_, rfl, _⟩; rfl) (OwnC.clip (hΦ 9 rfl)))) ?_
  rintro g _ _ ⟨_, ⟨C82, rfl, o82⟩, rfl, o85⟩
  exact ⟨⟨[((g 9).A 0)], [(x78).length], [C82, ((g 9).R 0)]⟩, ⟨o82, o85⟩, .inl rfl, rfl⟩
 intro g hΦ
 refine kw_gen (ι := Option Addr × Res × Option Addr × Nat × Res × Option Addr × Nat × Res × Res) (((g 8).A 0), ((g 8).R 0), ((g 9).A 0), ((g 9).C 0), ((g 9).R 0), ((g 13).A 0), ((g 13).C 0), ((g 13).R 0), ((g 13).R 1)) (fun | (p76, C77, p79, c80, C81, p83, c84, C82, C85) => OwnC (α := Nt) 51 p76 1 ([(⟨a2, x38⟩ : Nt)]) C77 ∧ OwnC 51 p79 c80 x78 C81 ∧ OwnC (α := CpS) 37 p17 c19 (u23.set (Int.toNat a1) (⟨p83, (x78).length, c84, p27, (x22.w).length, c29⟩ : CpS)) C82 ∧ OwnC 51 p83 c84 x78 C85) (fun | (p76, C77, p79, c80, C81, p83, c84, C82, C85) => [(6, .pointer (some ⟨b3, 0, none⟩)), (10, .pointer (some ⟨b21, 0, none⟩)), (13, .int .i64 x38)]) (fun | (p76, C77, p79, c80, C81, p83, c84, C82, C85) => [(2, [(b3, .cells #[.slice none 0 0, .slice none 0 0, .slice none 0 0] 29 (0, 0))]), (6, C12), (7, C16), (8, C82), (9, [(b21, .cells #[.slice p9 ((x8.t.b).length) c11, .slice p13 ((x8.t.f).length) c15, .slice p17 ((x8.c).length) c19] 29 (0, 0))]), (10, C31), (11, C85), (12, C33)]) ⟨(hΦ 8 (by decide)), (hΦ 9 (by decide)), (hΦ 13 (by decide)).1, (hΦ 13 (by decide)).2⟩ ⟨rfl, rfl, rfl, trivial⟩ ⟨rfl, rfl, rfl, rfl, rfl, rfl, rfl, rfl, trivial⟩ ?_
 rintro ⟨p76, C77, p79, c80, C81, p83, c84, C82, C85⟩ ⟨o77, o81, o82, o85⟩
 dsimp only
 refine kw_nx (sr (oB3 9 ts29 rfl (oM rfl (oC3 2 ts29 rfl rfl (oS rfl (oS rfl (oS rfl (nn (cw_ret (kw_shut 8 10 11 12 o82 (Bun.setL (Bun.set hb31 _) _) (idx_some (idx_set hx23)).2.2 (idx_setD e22 (⟨x78, x22.w⟩ : Cp)) rfl o85 rfl o33 ?_))))))))))
 rintro C86 o86
 obtain rfl := sI H0
 exact kr Tryz.results21 (.cons (.cellN (us := [_, _, _]) ts29 rfl (Cells.box (id := 2) rfl 3 rfl)) (.cons (.tmp rfl) (.cons (.tmp rfl) (rT rfl)))) [6, 7, 8] ⟨_, _, _, _, _, _, _, _, _, _, _, _, rfl, rfl, rfl, o12, rfl, o16, (by simp), o86⟩

theorem c_l_FnUnmapSystem (fl : Nat) (w : World) (a0 : (List UInt8)) (hn0_0 : n0_0 = (a0).length) (hr0_0 : RO w (hkeys []) (RdL p0_0 c0_0 a0)) (hg : RO w (hkeys []) (fun w' => w'.rangeAt 0 0 [.bool false, .int .i64 0, .int .i64 0, .int .i64 0, .int .i64 (-1)])) (r : Bool) (H0 : l_FnUnmapSystem fl a0 = some r) :
  Ct Tryz.prog 6 [.slice p0_0 n0_0 c0_0] w [] (fun rv h' => rv = .bool r ∧ h' = []) := by
 subst hn0_0
 unfold l_FnUnmapSystem at H0
 refine ct_of_cw Tryz.func6 rfl Tryz.ntmps6 rfl (Sat.refl _ _) ?_
 refine sr (oS rfl (nn (cw_seq (sr (oM rfl (oD (stp_len Tryz.underlying22 rfl) rfl (oJ rfl (nn (cw_cond rfl (fun h1 => ?_) (fun h1 => ?_))))))))))
 ·have H0 := cond_t H0 h1
  refine sr (oS rfl (nn (cw_ret (kw_nx_ret ?_))))
  obtain rfl := sI H0
  exact kr Tryz.results6 (rT rfl) [] ⟨rfl, rfl⟩
 have H0 := cond_f H0 h1
 obtain ⟨x2, e2, H0⟩ := bS H0
 refine cw_skip (kw_nx (sr (oM rfl (oE (stpU_call (fun i => 0 + i) cf16 (fun w hw => c_s_DrawUnmapSystem fl w a0 rfl (RO.pass hr0_0 hw) x2 e2) (yA rfl)) rfl ?_))))
 rintro _ _ ⟨_, ⟨p3, _, c5, C6, p7, _, c9, C10, p11, _, c13, C14, rfl, rfl, rfl, o6, rfl, o10, rfl, o14⟩, rfl⟩
 refine oM rfl (oT rfl (oT rfl (oT rfl (oE (stpU_alloc 3 tz29 rfl) rfl ?_))))
 rintro _ _ ⟨b15, rfl, rfl⟩
 refine oE (stpU_alloc 4 tz44 rfl) rfl ?_
 rintro _ _ ⟨b16, rfl, rfl⟩
 obtain ⟨x17, e17, H0⟩ := bS H0
 refine oC3 3 ts29 rfl rfl (oS rfl (oC2 4 ts44 rfl rfl (nn (sr (oB3 3 ts29 rfl (oM rfl (oB2 4 ts44 rfl (oE (stpU_call (fun i => 5 + i) cf17 (fun w hw => c_i_UnmapSystem fl w x2.1 x2.2.1 x2.2.2 rfl (OwnC.pass (id := 0) rfl o6 hw) rfl (OwnC.pass (id := 1) rfl o10 hw) rfl (OwnD.pass (id := 2) rfl o14 hw) (RO.pass hg hw) x17 e17) (yC rfl rfl rfl)) rfl ?_))))))))
 rintro _ _ ⟨_, ⟨p18, _, c20, C21, p22, _, c24, C25, p26, _, c28, C29, rfl, rfl, rfl, o21, rfl, o25, rfl, o29⟩, rfl⟩
 refine oM rfl (oT rfl (oT rfl (oT rfl (oE (stpU_alloc 8 tz29 rfl) rfl ?_))))
 rintro _ _ ⟨b30, rfl, rfl⟩
 obtain ⟨x31, e31, H0⟩ := bS H0
 refine oC3 8 ts29 rfl rfl (oS rfl (oS rfl (nn (sr (oB3 3 ts29 rfl (oM rfl (oB2 4 ts44 rfl (oE (stpU_call (fun i => 9 + i) cf18 (fun w hw => c_s_UnmapSystem fl w x2.1 x2.2.1 x2.2.2 rfl (OwnC.pass (id := 0) rfl o6 hw) rfl (OwnC.pass (id := 1) rfl o10 hw) rfl (OwnD.pass (id := 2) rfl o14 hw) x31 e31) (yC rfl rfl rfl)) rfl ?_))))))))
 rintro _ _ ⟨_, ⟨p32, _, c34, C35, p36, _, c38, C39, p40, _, c42, C43, rfl, rfl, rfl, o35, rfl, o39, rfl, o43⟩, rfl⟩
 refine oM rfl (oT rfl (oT rfl (oT rfl (oE (stpU_alloc 12 tz29 rfl) rfl ?_))))
 rintro _ _ ⟨b44, rfl, rfl⟩
 obtain ⟨x45, e45, H0⟩ := bS H0
 refine oC3 12 ts29 rfl rfl (oS rfl (oS rfl (nn (cw_seq (sr (oB3 8 ts29 rfl (oB3 12 ts29 rfl (oE (stpU_call (fun i => 13 + i) cf10 (fun w hw => c_i_SystemSame fl w x17.1 x31.1 rfl (OwnC.pass (id := 5) rfl o21 hw) rfl (OwnC.pass (id := 6) rfl o25 hw) rfl (OwnD.pass (id := 7) rfl o29 hw) rfl (OwnC.pass (id := 9) rfl o35 hw) rfl (OwnC.pass (id := 10) rfl o39 hw) rfl (OwnD.pass (id := 11) rfl o43 hw) x45 e45) (yB rfl rfl)) rfl ?_))))))))
 rintro _ _ ⟨_, ⟨rfl, rfl⟩, rfl⟩
 obtain ⟨y46, ey46, H0⟩ := bS H0
 refine oK rfl (oM rfl (ow_cutY 4 58 y46 ?_ ?_))
 ·rcases Bool.eq_false_or_eq_true (!x45) with hy46 | hy46
  ·have ey46 := cond_t ey46 hy46
   refine oO rfl hy46 rfl (oO rfl hy46 rfl (oO rfl hy46 rfl (oD (stp_pick_t rfl hy46 rfl) rfl ?_)))
   obtain rfl := sI ey46
   exact ow_nil (jy 4 0)
  have ey46 := cond_f ey46 hy46
  refine oG rfl hy46 (mv rfl) rfl (oG rfl hy46 (mv rfl) rfl (oG rfl hy46 (stp_neq rfl rfl) rfl (oD (stp_pick_f rfl hy46 rfl) rfl ?_)))
  obtain rfl := sI ey46
  exact ow_nil (jy 4 0)
 obtain ⟨y47, ey47, H0⟩ := bS H0
 refine oM rfl (ow_cutY 4 63 y47 ?_ ?_)
 ·rcases Bool.eq_false_or_eq_true y46 with hy47 | hy47
  ·have ey47 := cond_t ey47 hy47
   refine oO rfl hy47 rfl (oO rfl hy47 rfl (oO rfl hy47 rfl (oD (stp_pick_t rfl hy47 rfl) rfl ?_)))
   obtain rfl := sI ey47
   exact ow_nil (jy 4 0)
  have ey47 := cond_f ey47 hy47
  refine oG rfl hy47 (mv rfl) rfl (oG rfl hy47 (mv rfl) rfl (oG rfl hy47 (stp_neqB Tryz.underlying4 rfl rfl) rfl (oD (stp_pick_f rfl hy47 rfl) rfl ?_)))
  obtain rfl := sI ey47
  exact ow_nil (jy 4 0)
 obtain ⟨y48, ey48, H0⟩ := bS H0
 refine oM rfl (ow_cutY 3 67 y48 ?_ ?_)
 ·rcases Bool.eq_false_or_eq_true y47 with hy48 | hy48
  ·have ey48 := cond_t ey48 hy48
   refine oO rfl hy48 rfl (oO rfl hy48 rfl (oD (stp_pick_t rfl hy48 rfl) rfl ?_))
   obtain rfl := sI ey48
   exact ow_nil (jy 3 0)
  have ey48 := cond_f ey48 hy48
  refine oG rfl hy48 (mv rfl) rfl (oG rfl hy48 (stp_not rfl) rfl (oD (stp_pick_f rfl hy48 rfl) rfl ?_))
  obtain rfl := sI ey48
  exact ow_nil (jy 3 0)
 refine ow_nil (kw_nx (cw_cond rfl (fun h49 => ?_) (fun h49 => ?_)))
 ·have H0 := cond_t H0 h49
  refine sr (oB3 8 ts29 rfl (oB3 12 ts29 rfl (oE (stpU_call (fun i => 13 + i) cf10 (fun w hw => c_i_SystemSame fl w x17.1 x31.1 rfl (OwnC.pass (id := 5) rfl o21 hw) rfl (OwnC.pass (id := 6) rfl o25 hw) rfl (OwnD.pass (id := 7) rfl o29 hw) rfl (OwnC.pass (id := 9) rfl o35 hw) rfl (OwnC.pass (id := 10) rfl o39 hw) rfl (OwnD.pass (id := 11) rfl o43 hw) x45 e45) (yB rfl rfl)) rfl ?_)))
  rintro _ _ ⟨_, ⟨rfl, rfl⟩, rfl⟩
  obtain ⟨y50, ey50, H0⟩ := bS H0
  refine oM rfl (ow_cutY 4 75 y50 ?_ ?_)
  ·rcases Bool.eq_false_or_eq_true x45 with hy50 | hy50
   ·have ey50 := cond_t ey50 hy50
    refine oG rfl hy50 (mv rfl) rfl (oG rfl hy50 (mv rfl) rfl (oG rfl hy50 (stp_eql rfl rfl) rfl (oD (stp_pick_t rfl hy50 rfl) rfl ?_)))
    obtain rfl := sI ey50
    exact ow_nil (jy 4 0)
   have ey50 := cond_f ey50 hy50
   refine oO rfl hy50 rfl (oO rfl hy50 rfl (oO rfl hy50 rfl (oD (stp_pick_f rfl hy50 rfl) rfl ?_)))
   obtain rfl := sI ey50
   exact ow_nil (jy 4 0)
  obtain ⟨y51, ey51, H0⟩ := bS H0
  refine oM rfl (ow_cutY 4 80 y51 ?_ ?_)
  ·rcases Bool.eq_false_or_eq_true y50 with hy51 | hy51
   ·have ey51 := cond_t ey51 hy51
    refine oG rfl hy51 (mv rfl) rfl (oG rfl hy51 (mv rfl) rfl (oG rfl hy51 (stp_eqlB Tryz.underlying4 rfl rfl) rfl (oD (stp_pick_t rfl hy51 rfl) rfl ?_)))
    obtain rfl := sI ey51
    exact ow_nil (jy 4 0)
   have ey51 := cond_f ey51 hy51
   refine oO rfl hy51 rfl (oO rfl hy51 rfl (oO rfl hy51 rfl (oD (stp_pick_f rfl hy51 rfl) rfl ?_)))
   obtain rfl := sI ey51
   exact ow_nil (jy 4 0)
  refine oS rfl (nn (cw_ret (kw_nx_ret ?_)))
  obtain rfl := sI H0
  exact kr Tryz.results6 (rT rfl) [] ⟨rfl, rfl⟩
 have H0 := cond_f H0 h49
 obtain ⟨x52, e52, H0⟩ := bS H0
 refine cw_skip (kw_nx (sr (oA 0 Tryz.underlying29 rfl ts26 rfl (oB2 3 ts26 rfl (oB2 4 ts44 rfl (oE (stpU_call (fun i => 13 + i) cf20 (fun w hw => c_i_FindPage fl w x2.1.t x2.2.2 rfl (OwnC.pass (id := 0) rfl o6 hw) rfl (OwnC.pass (id := 1) rfl o10 hw) (RO.pass hg hw) x52 e52) (yB rfl rfl)) rfl ?_))))))
 rintro _ _ ⟨_, ⟨rfl, rfl⟩, rfl⟩
 obtain ⟨x53, e53, H0⟩ := bS H0
 refine oM rfl (oT rfl (oT rfl (oT rfl (oS rfl (oS rfl (oS rfl (nn (sr (oA 0 Tryz.underlying29 rfl ts26 rfl (oB2 8 ts26 rfl (oB2 4 ts44 rfl (oE (stpU_call (fun i => 13 + i) cf20 (fun w hw => c_i_FindPage fl w x17.1.t x2.2.2 rfl (OwnC.pass (id := 5) rfl o21 hw) rfl (OwnC.pass (id := 6) rfl o25 hw) (RO.pass hg hw) x53 e53) (yB rfl rfl)) rfl ?_))))))))))))
 rintro _ _ ⟨_, ⟨rfl, rfl⟩, rfl⟩
 obtain ⟨x54, e54, H0⟩ := bS H0
 refine oM rfl (oT rfl (oT rfl (oT rfl (oS rfl (oS rfl (oS rfl (nn (sr (oS rfl (nn (sr (oB3 8 ts29 rfl (oE (stpU_call (fun i => 13 + i) cf11 (fun w hw => c_i_HeldFrames fl w x17.1 rfl (OwnC.pass (id := 5) rfl o21 hw) rfl (OwnC.pass (id := 6) rfl o25 hw) rfl (OwnD.pass (id := 7) rfl o29 hw) (RO.pass hg hw) x54 e54) (yA rfl)) rfl ?_)))))))))))))
 rintro _ _ ⟨_, ⟨p55, _, c57, C58, rfl, rfl, rfl, o58⟩, rfl⟩
 obtain ⟨o0_0, eo0_0, H0⟩ := bS H0
 refine oS rfl (nn (cw_seq (sr (oS rfl (nn (cw_join (ι := Bool × Int) (fun | (v59, v60) => o0_0 = .out (v59, v60)) (fun | (v59, v60) => [(3, .pointer (some ⟨b15, 0, none⟩)), (4, .int .i64 x2.2.1), (5, .pointer (some ⟨b16, 0, none⟩)), (6, .pointer (some ⟨b30, 0, none⟩)), (7, .int .i64 x17.2.1), (12, .int .i64 x52.1), (17, .bool x53.2.2), (18, .bool v59), (19, .slice p55 ((x54).length) c57), (20, .int .i64 v60)]) (fun | (v59, v60) => [(0, C6), (1, C10), (2, C14), (3, [(b15, .cells #[.slice p3 ((x2.1.t.b).length) c5, .slice p7 ((x2.1.t.f).length) c9, .slice p11 ((x2.1.c).length) c13] 29 (0, 0))]), (4, [(b16, .cells #[.int .i64 x2.2.2.s, .int .i64 x2.2.2.p] 44 (0, 0))]), (5, C21), (6, C25), (7, C29), (8, [(b30, .cells #[.slice p18 ((x17.1.t.b).length) c20, .slice p22 ((x17.1.t.f).length) c24, .slice p26 ((x17.1.c).length) c28] 29 (0, 0))]), (13, C58)]) ?_ ?_))))))
 ·refine cw_block (cw_loopS (ι := Nat × Bool × Int) (js := [0, 1, 2, 3, 4, 5, 6, 7, 8, 13]) (fun x => x.1) (fun | (fuel, v59, v60) => l_FnUnmapSystem_L0 fl x52 x54 fuel v59 v60 = some o0_0) (fun | (_, v59, v60) => [(3, .pointer (some ⟨b15, 0, none⟩)), (4, .int .i64 x2.2.1), (5, .pointer (some ⟨b16, 0, none⟩)), (6, .pointer (some ⟨b30, 0, none⟩)), (7, .int .i64 x17.2.1), (12, .int .i64 x52.1), (17, .bool x53.2.2), (18, .bool v59), (19, .slice p55 ((x54).length) c57), (20, .int .i64 v60)]) (fun | (_, v59, v60) => [(0, C6), (1, C10), (2, C14), (3, [(b15, .cells #[.slice p3 ((x2.1.t.b).length) c5, .slice p7 ((x2.1.t.f).length) c9, .slice p11 ((x2.1.c).length) c13] 29 (0, 0))]), (4, [(b16, .cells #[.int .i64 x2.2.2.s, .int .i64 x2.2.2.p] 44 (0, 0))]), (5, C21), (6, C25), (7, C29), (8, [(b30, .cells #[.slice p18 ((x17.1.t.b).length) c20, .slice p22 ((x17.1.t.f).length) c24, .slice p26 ((x17.1.c).length) c28] 29 (0, 0))]), (13, C58)]) (fl, false, 0) eo0_0 ⟨rfl, rfl, rfl, rfl, rfl, rfl, rfl, rfl, rfl, rfl, trivial⟩ ⟨0, [1, 2, 3, 4, 5, 6, 7, 8, 13], rfl, rfl, 1, [2, 3, 4, 5, 6, 7, 8, 13], rfl, rfl, 2, [3, 4, 5, 6, 7, 8, 13], rfl, rfl, 3, [4, 5, 6, 7, 8, 13], rfl, rfl, 4, [5, 6, 7, 8, 13], rfl, rfl, 5, [6, 7, 8, 13], rfl, rfl, 6, [7, 8, 13], rfl, rfl, 7, [8, 13], rfl, rfl, 8, [13], rfl, rfl, 13, [], rfl, rfl, trivial⟩ (by decide) ?_)
  rintro ⟨fuel, v59, v60⟩ H1
  have H1 : l_FnUnmapSystem_L0 fl x52 x54 fuel v59 v60 = some o0_0 := H1
  rcases fuel with _ | fuel
  ·rw [l_FnUnmapSystem_L0.eq_1] at H1; cases H1
  rw [l_FnUnmapSystem_L0.eq_2] at H1
  dsimp only
  refine cw_seq (sr (oM rfl (oM rfl (oD (stp_len Tryz.underlying23 rfl) rfl (oW rfl (nn (cw_cond rfl (fun h61 => ?_) (fun h61 => ?_))))))))
  ·have H1 := cond_t H1 h61
   obtain ⟨y62, ey62, H1⟩ := bS H1
   refine cw_skip (kw_nx (cw_seq (cw_block (cw_region (oM rfl (oM rfl (ow_cutY 7 113 y62 ?_ ?_)))))))
   ·rcases Bool.eq_false_or_eq_true v59 with hy62 | hy62
    ·have ey62 := cond_t ey62 hy62
     refine oO rfl hy62 rfl (oO rfl hy62 rfl (oO rfl hy62 rfl (oO rfl hy62 rfl (oO rfl hy62 rfl (oO rfl hy62 rfl (oD (stp_pick_t rfl hy62 rfl) rfl ?_))))))
     obtain rfl := sI ey62
     exact ow_nil (jy 7 0)
    have ey62 := cond_f ey62 hy62
    obtain ⟨x63, e63, ey62⟩ := bS ey62
    refine oG rfl hy62 (mv rfl) rfl (oG rfl hy62 (mv rfl) rfl (oG rfl hy62 (stp_indexAddr Tryz.underlying23 ts3 (by decide) rfl rfl rfl (Rdb.own (id := 13) rfl o58) e63) rfl (oG rfl hy62 (stp_load1 ts3 rfl (Cells.el (Rdb.own (id := 13) rfl o58) (by decide) e63 0 1 rfl)) rfl (oG rfl hy62 (mv rfl) rfl (oG rfl hy62 (stp_eql rfl rfl) rfl (oD (stp_pick_f rfl hy62 rfl) rfl ?_))))))
    obtain rfl := sI ey62
    exact ow_nil (jy 7 0)
   obtain ⟨x64, e64, H1⟩ := bS H1
   exact oS rfl (ow_nil (kw_bl_normal (kw_nx (cw_region (oM rfl (oP e64 rfl (oS rfl (ow_nil (kw_lqS (js := [0, 1, 2, 3, 4, 5, 6, 7, 8, 13]) (fuel, y62, x64) H1 (Nat.lt_succ_self _) ⟨rfl, rfl, rfl, rfl, rfl, rfl, rfl, rfl, rfl, rfl, trivial⟩ ⟨0, [1, 2, 3, 4, 5, 6, 7, 8, 13], rfl, rfl, 1, [2, 3, 4, 5, 6, 7, 8, 13], rfl, rfl, 2, [3, 4, 5, 6, 7, 8, 13], rfl, rfl, 3, [4, 5, 6, 7, 8, 13], rfl, rfl, 4, [5, 6, 7, 8, 13], rfl, rfl, 5, [6, 7, 8, 13], rfl, rfl, 6, [7, 8, 13], rfl, rfl, 7, [8, 13], rfl, rfl, 8, [13], rfl, rfl, 13, [], rfl, rfl, trivial⟩ (by decide))))))))))
  have H1 := cond_f H1 h61
  refine cw_exit (kw_nx_exit (kw_lq_exit (kw_bl ?_)))
  obtain rfl := sI H1
  exact kw_joinS (js := [0, 1, 2, 3, 4, 5, 6, 7, 8, 13]) (v59, v60) rfl ⟨rfl, rfl, rfl, rfl, rfl, rfl, rfl, rfl, rfl, rfl, trivial⟩ ⟨0, [1, 2, 3, 4, 5, 6, 7, 8, 13], rfl, rfl, 1, [2, 3, 4, 5, 6, 7, 8, 13], rfl, rfl, 2, [3, 4, 5, 6, 7, 8, 13], rfl, rfl, 3, [4, 5, 6, 7, 8, 13], rfl, rfl, 4, [5, 6, 7, 8, 13], rfl, rfl, 5, [6, 7, 8, 13], rfl, rfl, 6, [7, 8, 13], rfl, rfl, 7, [8, 13], rfl, rfl, 8, [13], rfl, rfl, 13, [], rfl, rfl, trivial⟩ (by decide)
 rintro ⟨v59, v60⟩ rfl
 dsimp only
 obtain ⟨x65, e65, H0⟩ := bS H0
 refine kw_nx (sr (oB3 8 ts29 rfl (oM rfl (oB2 4 ts44 rfl (oE (stpU_call (fun i => 14 + i) cf21 (fun w hw => c_i_LookCpu fl w x17.1 x2.2.1 x2.2.2 rfl (OwnC.pass (id := 5) rfl o21 hw) rfl (OwnC.pass (id := 6) rfl o25 hw) rfl (OwnD.pass (id := 7) rfl o29 hw) (RO.pass hg hw) x65 e65) (yC rfl rfl rfl)) rfl ?_)))))
 rintro _ _ ⟨_, ⟨p66, _, c68, C69, p70, _, c72, C73, p74, _, c76, C77, rfl, rfl, rfl, o69, rfl, o73, rfl, o77⟩, rfl⟩
 refine oM rfl (oT rfl (oT rfl (oT rfl (oT rfl (oE (stpU_alloc 17 tz29 rfl) rfl ?_)))))
 rintro _ _ ⟨b78, rfl, rfl⟩
 obtain ⟨x79, e79, H0⟩ := bS H0
 refine oC3 17 ts29 rfl rfl (oS rfl (oS rfl (oS rfl (nn (sr (oB3 8 ts29 rfl (oE (stpU_call (fun i => 18 + i) cf15 (fun w hw => c_i_SystemValid fl w x17.1 rfl (OwnC.pass (id := 5) rfl o21 hw) rfl (OwnC.pass (id := 6) rfl o25 hw) rfl (OwnD.pass (id := 7) rfl o29 hw) (RO.pass hg hw) x79 e79) (yA rfl)) rfl ?_)))))))
 rintro _ _ ⟨_, ⟨rfl, rfl⟩, rfl⟩
 obtain ⟨y80, ey80, H0⟩ := bS H0
 refine oM rfl (ow_cutY 3 128 y80 ?_ ?_)
 ·rcases Bool.eq_false_or_eq_true x79 with hy80 | hy80
  ·have ey80 := cond_t ey80 hy80
   refine oG rfl hy80 (mv rfl) rfl (oG rfl hy80 (stp_not rfl) rfl (oD (stp_pick_t rfl hy80 rfl) rfl ?_))
   obtain rfl := sI ey80
   exact ow_nil (jy 3 0)
  have ey80 := cond_f ey80 hy80
  refine oO rfl hy80 rfl (oO rfl hy80 rfl (oD (stp_pick_f rfl hy80 rfl) rfl ?_))
  obtain rfl := sI ey80
  exact ow_nil (jy 3 0)
 obtain ⟨y81, ey81, H0⟩ := bS H0
 refine oM rfl (ow_cutY 5 134 y81 ?_ ?_)
 ·rcases Bool.eq_false_or_eq_true y80 with hy81 | hy81
  ·have ey81 := cond_t ey81 hy81
   refine oG rfl hy81 (mv rfl) rfl (oG rfl hy81 (mv rfl) rfl (oG rfl hy81 (stp_gtr rfl rfl) rfl (oG rfl hy81 (stp_eqlB Tryz.underlying4 rfl rfl) rfl (oD (stp_pick_t rfl hy81 rfl) rfl ?_))))
   obtain rfl := sI ey81
   exact ow_nil (jy 5 0)
  have ey81 := cond_f ey81 hy81
  refine oO rfl hy81 rfl (oO rfl hy81 rfl (oO rfl hy81 rfl (oO rfl hy81 rfl (oD (stp_pick_f rfl hy81 rfl) rfl ?_))))
  obtain rfl := sI ey81
  exact ow_nil (jy 5 0)
 obtain ⟨y82, ey82, H0⟩ := bS H0
 refine oM rfl (ow_cutY 6 141 y82 ?_ ?_)
 ·rcases Bool.eq_false_or_eq_true y81 with hy82 | hy82
  ·have ey82 := cond_t ey82 hy82
   refine oG rfl hy82 (mv rfl) rfl (oG rfl hy82 (fA 2 Tryz.underlying29 rfl ts27 rfl rfl rfl) rfl (oG rfl hy82 (lB 3 ts27 rfl rfl rfl) rfl (oG rfl hy82 (stp_len Tryz.underlying27 rfl) rfl (oG rfl hy82 (stp_lss rfl rfl) rfl (oD (stp_pick_t rfl hy82 rfl) rfl ?_)))))
   obtain rfl := sI ey82
   exact ow_nil (jy 6 0)
  have ey82 := cond_f ey82 hy82
  refine oO rfl hy82 rfl (oO rfl hy82 rfl (oO rfl hy82 rfl (oO rfl hy82 rfl (oO rfl hy82 rfl (oD (stp_pick_f rfl hy82 rfl) rfl ?_)))))
  obtain rfl := sI ey82
  exact ow_nil (jy 6 0)
 obtain ⟨y83, ey83, H0⟩ := bS H0
 refine oM rfl (ow_cutY 2 144 y83 ?_ ?_)
 ·rcases Bool.eq_false_or_eq_true y82 with hy83 | hy83
  ·have ey83 := cond_t ey83 hy83
   refine oG rfl hy83 (mv rfl) rfl (oD (stp_pick_t rfl hy83 rfl) rfl ?_)
   obtain rfl := sI ey83
   exact ow_nil (jy 2 0)
  have ey83 := cond_f ey83 hy83
  refine oO rfl hy83 rfl (oD (stp_pick_f rfl hy83 rfl) rfl ?_)
  obtain rfl := sI ey83
  exact ow_nil (jy 2 0)
 obtain ⟨y84, ey84, H0⟩ := bS H0
 refine oM rfl (ow_cutY 3 148 y84 ?_ ?_)
 ·rcases Bool.eq_false_or_eq_true y83 with hy84 | hy84
  ·have ey84 := cond_t ey84 hy84
   refine oG rfl hy84 (mv rfl) rfl (oG rfl hy84 (stp_eql rfl rfl) rfl (oD (stp_pick_t rfl hy84 rfl) rfl ?_))
   obtain rfl := sI ey84
   exact ow_nil (jy 3 0)
  have ey84 := cond_f ey84 hy84
  refine oO rfl hy84 rfl (oO rfl hy84 rfl (oD (stp_pick_f rfl hy84 rfl) rfl ?_))
  obtain rfl := sI ey84
  exact ow_nil (jy 3 0)
 refine oS rfl (nn (cw_ret ?_))
 obtain rfl := sI H0
 exact kr Tryz.results6 (rT rfl) [] ⟨rfl, rfl⟩
end Go.Proofs.YtfnliecmagnkdabGreatDoor
