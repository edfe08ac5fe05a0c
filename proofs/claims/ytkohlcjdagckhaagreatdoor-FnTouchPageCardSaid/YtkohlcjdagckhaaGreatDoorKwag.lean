/- The walks: functions of the program return what their pure functions say. Printed by a program (gen.py). -/
import Derived.Test.YtkohlcjdagckhaaGreatDoorKp
import Derived.Test.YtkohlcjdagckhaaGreatDoorKt
import Derived.Test.YtkohlcjdagckhaaGreatDoorMan
import Derived.Test.YtkohlcjdagckhaaGreatDoorMap
import Derived.Test.YtkohlcjdagckhaaGreatDoorCpy
import Derived.Test.YtkohlcjdagckhaaGreatDoorE9
import Derived.Test.YtkohlcjdagckhaaGreatDoorKwab
import Derived.Test.YtkohlcjdagckhaaGreatDoorKwac
import Derived.Test.YtkohlcjdagckhaaGreatDoorKwad
import Derived.Test.YtkohlcjdagckhaaGreatDoorKws
set_option linter.unusedSimpArgs false
set_option linter.unusedVariables false
set_option linter.unusedSectionVars false
namespace Go.Proofs.YtkohlcjdagckhaaGreatDoor
open Go.RowKit
set_option maxHeartbeats 4000000
set_option maxRecDepth 20000
variable {p0_0 p0_1 : Option Addr} {n0_0 n0_1 : Nat} {c0_0 c0_1 : Nat}
theorem c_i_KeyValid (fl : Nat) (w : World) (a0 : K) (r : Bool) (H0 : i_KeyValid fl a0 = some r) :
  Ct Tryz.prog 76 [.agg #[.int .i64 a0.s, .int .i64 a0.p]] w [] (fun rv h' => rv = .bool r ∧ h' = []) := by
 unfold i_KeyValid at H0
 refine ct_of_cw Tryz.func76 rfl Tryz.ntmps76 rfl (Sat.refl _ _) ?_
 refine sr (oE (stpU_box 0 rfl rfl) rfl ?_)
 rintro _ _ ⟨b1, rfl, rfl⟩
 obtain ⟨x2, e2, H0⟩ := bS H0
 refine oS rfl (nn (sr (oA 0 Tryz.underlying47 rfl ts3 rfl (oL 0 ts3 rfl (oE (stpU_call (fun i => 1 + i) cf79 (fun w hw => c_i_within fl w a0.s 16 x2 e2) (yB rfl rfl)) rfl ?_)))))
 rintro _ _ ⟨_, ⟨rfl, rfl⟩, rfl⟩
 obtain ⟨y3, ey3, H0⟩ := bS H0
 refine oM rfl (ow_cutY 4 10 y3 ?_ ?_)
 ·rcases Bool.eq_false_or_eq_true x2 with hy3 | hy3
  ·have ey3 := cond_t ey3 hy3
   obtain ⟨x4, e4, ey3⟩ := bS ey3
   refine oG rfl hy3 (fA 1 Tryz.underlying47 rfl ts3 rfl rfl rfl) rfl (oG rfl hy3 (lB 0 ts3 rfl rfl rfl) rfl (ow_eff (.some rfl hy3) (stpU_call (fun i => 1 + i) cf79 (fun w hw => c_i_within fl w a0.p 256 x4 e4) (yB rfl rfl)) rfl ?_))
   rintro _ _ ⟨_, ⟨rfl, rfl⟩, rfl⟩
   refine oD (stp_pick_t rfl hy3 rfl) rfl ?_
   obtain rfl := sI ey3
   exact ow_nil (jy 4 0)
  have ey3 := cond_f ey3 hy3
  refine oO rfl hy3 rfl (oO rfl hy3 rfl (oO rfl hy3 rfl (oD (stp_pick_f rfl hy3 rfl) rfl ?_)))
  obtain rfl := sI ey3
  exact ow_nil (jy 4 0)
 refine oS rfl (nn (cw_ret ?_))
 obtain rfl := sI H0
 exact kr Tryz.results76 (rT rfl) [] ⟨rfl, rfl⟩

theorem c_i_hash (fl : Nat) (w : World) (a0 : K) (a1 : Int) (r : Int) (H0 : i_hash fl a0 a1 = some r) :
  Ct Tryz.prog 78 [.agg #[.int .i64 a0.s, .int .i64 a0.p], .int .i64 a1] w [] (fun rv h' => rv = .int .i64 r ∧ h' = []) := by
 unfold i_hash at H0
 refine ct_of_cw Tryz.func78 rfl Tryz.ntmps78 rfl (Sat.refl _ _) ?_
 refine sr (oE (stpU_box 0 rfl rfl) rfl ?_)
 rintro _ _ ⟨b1, rfl, rfl⟩
 obtain ⟨x2, e2, H0⟩ := bS H0
 obtain ⟨x3, e3, H0⟩ := bS H0
 obtain ⟨x4, e4, H0⟩ := bS H0
 refine oS rfl (nn (sr (oA 0 Tryz.underlying47 rfl ts3 rfl (oL 0 ts3 rfl (oD (stp_mul rfl rfl e2) rfl (oA 1 Tryz.underlying47 rfl ts3 rfl (oL 0 ts3 rfl (oP e3 rfl (oD (stp_convU Tryz.underlying3 Tryz.underlying151 rfl e4) rfl (oS rfl (nn (sr (oM rfl ?_)))))))))))))
 obtain ⟨x5, e5, H0⟩ := bS H0
 obtain ⟨x6, e6, H0⟩ := bS H0
 obtain ⟨x7, e7, H0⟩ := bS H0
 obtain ⟨x8, e8, H0⟩ := bS H0
 obtain ⟨x9, e9, H0⟩ := bS H0
 refine oD (stp_mulU rfl rfl e5) rfl (oD (stp_rem rfl rfl e6) rfl (oS rfl (nn (sr (oM rfl (oM rfl (oD (stp_convU Tryz.underlying3 Tryz.underlying151 rfl e7) rfl (oD (stp_mulU rfl rfl e8) rfl (oD (stp_shr (d := 4294967296) (by decide) rfl rfl) rfl (oD (stp_convI Tryz.underlying151 Tryz.underlying3 rfl e9) rfl (oS rfl (nn (cw_ret ?_)))))))))))))
 obtain rfl := sI H0
 exact kr Tryz.results78 (rT rfl) [] ⟨rfl, rfl⟩

theorem c_i_Table_chain (fl : Nat) (w : World) (a0 : T) (a1 : Int) (hn0_0 : n0_0 = (a0.b).length) (hr0_0 : RO w (hkeys []) (RdL p0_0 c0_0 a0.b)) (hn0_1 : n0_1 = (a0.f).length) (hr0_1 : RO w (hkeys []) (RdL p0_1 c0_1 a0.f)) (r : (List Int)) (H0 : i_Table_chain fl a0 a1 = some r) :
  Ct Tryz.prog 77 [.agg #[.slice p0_0 n0_0 c0_0, .slice p0_1 n0_1 c0_1], .int .i64 a1] w [] (fun rv h' => ∃ (x0 : Option Addr) (y0 z0 : Nat) (C0 : Res), rv = .slice x0 y0 z0 ∧ h' = [(0, C0)] ∧ y0 = (r).length ∧ OwnC 3 x0 z0 r C0) := by
 subst hn0_0 hn0_1
 unfold i_Table_chain at H0
 refine ct_of_cw Tryz.func77 rfl Tryz.ntmps77 rfl (Sat.refl _ _) ?_
 refine sr (oE (stpU_box 0 rfl rfl) rfl ?_)
 rintro _ _ ⟨b1, rfl, rfl⟩
 obtain ⟨x2, e2, H0⟩ := bS H0
 refine oS rfl (nn (sr (oS rfl (nn (cw_seq (sr (oA 0 Tryz.underlying26 rfl ts23 rfl (oL 0 ts23 rfl (oM rfl (oD (stp_indexAddr Tryz.underlying23 ts3 (by decide) rfl rfl rfl (Rdb.ro hr0_0) e2) rfl (oD (stp_load1 ts3 rfl (Cells.el (Rdb.ro hr0_0) (by decide) e2 0 1 rfl)) rfl (oS rfl (nn ?_)))))))))))))
 obtain ⟨o0_0, eo0_0, H0⟩ := bS H0
 refine cw_addNil 1 (cw_join (ι := (List Int) × Int × Option Addr × Nat × Nat × Res) (fun | (v3, v8, p4, n5, c6, C7) => o0_0 = .out (v3, v8) ∧ n5 = (v3).length ∧ OwnC 3 p4 c6 v3 C7) (fun | (v3, v8, p4, n5, c6, C7) => [(2, .pointer (some ⟨b1, 0, none⟩)), (5, .slice p4 n5 c6), (6, .int .i64 v8)]) (fun | (v3, v8, p4, n5, c6, C7) => [(0, [(b1, .cells #[.slice p0_0 ((a0.b).length) c0_0, .slice p0_1 ((a0.f).length) c0_1] 26 (0, 0))]), (1001, C7)]) ?_ ?_)
 ·refine cw_block (cw_loopS (ι := Nat × (List Int) × Int × Option Addr × Nat × Nat × Res) (js := [0, 1]) (fun x => x.1) (fun | (fuel, v3, v8, p4, n5, c6, C7) => i_Table_chain_L0 fl a0 fuel v3 v8 = some o0_0 ∧ n5 = (v3).length ∧ OwnC 3 p4 c6 v3 C7) (fun | (_, v3, v8, p4, n5, c6, C7) => [(2, .pointer (some ⟨b1, 0, none⟩)), (5, .slice p4 n5 c6), (6, .int .i64 v8)]) (fun | (_, v3, v8, p4, n5, c6, C7) => [(0, [(b1, .cells #[.slice p0_0 ((a0.b).length) c0_0, .slice p0_1 ((a0.f).length) c0_1] 26 (0, 0))]), (1001, C7)]) (fl, [], x2, none, 0, 0, []) ⟨eo0_0, rfl, (OwnC.nil _ _)⟩ ⟨rfl, rfl, rfl, trivial⟩ ⟨0, [1], rfl, rfl, 1, [], rfl, rfl, trivial⟩ (by decide) ?_)
  rintro ⟨fuel, v3, v8, p4, _, c6, C7⟩ ⟨H1, rfl, o7⟩
  have H1 : i_Table_chain_L0 fl a0 fuel v3 v8 = some o0_0 := H1
  rcases fuel with _ | fuel
  ·rw [i_Table_chain_L0.eq_1] at H1; cases H1
  rw [i_Table_chain_L0.eq_2] at H1
  dsimp only
  refine cw_seq (sr (oM rfl (oU rfl (nn (cw_cond rfl (fun h9 => ?_) (fun h9 => ?_))))))
  ·have H1 := cond_t H1 h9
   refine cw_skip (kw_nx (cw_seq (cw_block (cw_region (oM rfl (oM rfl (oE (stpU_lit (sz := 1) (l := [v8]) [.int .i64 v8] sl23 2 (sevp_cons rfl sevp_nil) rfl rfl rfl rfl rfl rfl rfl rfl rfl) rfl ?_)))))))
   rintro _ _ ⟨p10, C11, rfl, rfl, o11⟩
   obtain ⟨x12, e12, H1⟩ := bS H1
   refine oE (stpU_append sl23 rfl (id := 1001) rfl rfl rfl (by simp) rfl o7 (Rdb.own (id := 2) rfl o11) e12) rfl ?_
   rintro _ _ ⟨p13, c14, C15, rfl, rfl, o15⟩
   obtain ⟨x16, e16, H1⟩ := bS H1
   exact oS rfl (ow_nil (kw_bl_normal (kw_nx (cw_region (oA 1 Tryz.underlying26 rfl ts24 rfl (oL 0 ts24 rfl (oM rfl (oD (stp_indexAddr Tryz.underlying24 ts58 (by decide) rfl rfl rfl (Rdb.ro hr0_1) e16) rfl (oA 4 Tryz.underlying58 rfl ts3 rfl (oD (stp_load1 ts3 rfl (Cells.el (Rdb.ro hr0_1) (by decide) e16 4 1 rfl)) rfl (oS rfl (ow_nil (kw_lqS (js := [0, 1001]) (fuel, x12, x16.nx, p13, ((x12).length), c14, C15) ⟨H1, rfl, o15⟩ (Nat.lt_succ_self _) ⟨rfl, rfl, rfl, trivial⟩ ⟨0, [1001], rfl, rfl, 1001, [], rfl, rfl, trivial⟩ (by decide))))))))))))))
  have H1 := cond_f H1 h9
  refine cw_exit (kw_nx_exit (kw_lq_exit (kw_bl ?_)))
  obtain rfl := sI H1
  exact kw_joinS (js := [0, 1001]) (v3, v8, p4, ((v3).length), c6, C7) ⟨rfl, rfl, o7⟩ ⟨rfl, rfl, rfl, trivial⟩ ⟨0, [1001], rfl, rfl, 1001, [], rfl, rfl, trivial⟩ (by decide)
 rintro ⟨v3, v8, p4, _, c6, C7⟩ ⟨rfl, rfl, o7⟩
 dsimp only
 refine kw_nx (sr (oM rfl (oE (stpU_call (fun i => i) cf129 (fun w hw => c_clip129 w p4 ((v3).length) c6 (OwnC.len o7).1) (yA rfl)) rfl ?_)))
 rintro _ _ ⟨_, ⟨rfl, rfl⟩, rfl⟩
 refine oS rfl (nn (cw_ret ?_))
 obtain rfl := sI H0
 exact kr Tryz.results77 (rT rfl) [1001] ⟨_, _, _, _, rfl, rfl, rfl, (OwnC.clip o7)⟩

theorem c_i_FindPage (fl : Nat) (w : World) (a0 : T) (a1 : K) (hn0_0 : n0_0 = (a0.b).length) (hr0_0 : RO w (hkeys []) (RdL p0_0 c0_0 a0.b)) (hn0_1 : n0_1 = (a0.f).length) (hr0_1 : RO w (hkeys []) (RdL p0_1 c0_1 a0.f)) (hg : RO w (hkeys []) (fun w' => w'.rangeAt 0 0 [.bool false, .int .i64 0, .int .i64 0, .int .i64 0, .int .i64 (-1)])) (r : Int × Int × Bool) (H0 : i_FindPage fl a0 a1 = some r) :
  Ct Tryz.prog 29 [.agg #[.slice p0_0 n0_0 c0_0, .slice p0_1 n0_1 c0_1], .agg #[.int .i64 a1.s, .int .i64 a1.p]] w [] (fun rv h' => rv = .tuple #[.int .i64 r.1, .int .i64 r.2.1, .bool r.2.2] ∧ h' = []) := by
 subst hn0_0 hn0_1
 unfold i_FindPage at H0
 refine ct_of_cw Tryz.func29 rfl Tryz.ntmps29 rfl (Sat.refl _ _) ?_
 refine sr (oE (stpU_box 0 rfl rfl) rfl ?_)
 rintro _ _ ⟨b1, rfl, rfl⟩
 refine oE (stpU_box 1 rfl rfl) rfl ?_
 rintro _ _ ⟨b2, rfl, rfl⟩
 obtain ⟨x3, e3, H0⟩ := bS H0
 refine oS rfl (oS rfl (oS rfl (nn (cw_seq (sr (oB2 0 ts26 rfl (oE (stpU_call (fun i => 2 + i) cf54 (fun w hw => c_i_TableValid fl w a0 rfl (RO.pass hr0_0 hw) rfl (RO.pass hr0_1 hw) (RO.pass hg hw) x3 e3) (yA rfl)) rfl ?_)))))))
 rintro _ _ ⟨_, ⟨rfl, rfl⟩, rfl⟩
 obtain ⟨y4, ey4, H0⟩ := bS H0
 refine oK rfl (oM rfl (ow_cutY 4 17 y4 ?_ ?_))
 ·rcases Bool.eq_false_or_eq_true (!x3) with hy4 | hy4
  ·have ey4 := cond_t ey4 hy4
   refine oO rfl hy4 rfl (oO rfl hy4 rfl (oO rfl hy4 rfl (oD (stp_pick_t rfl hy4 rfl) rfl ?_)))
   obtain rfl := sI ey4
   exact ow_nil (jy 4 0)
  have ey4 := cond_f ey4 hy4
  obtain ⟨x5, e5, ey4⟩ := bS ey4
  refine oG rfl hy4 (stp_loadN (us := [_, _]) ts47 rfl (Cells.box (id := 1) rfl 2 rfl)) rfl (ow_eff (.some rfl hy4) (stpU_call (fun i => 2 + i) cf76 (fun w hw => c_i_KeyValid fl w a1 x5 e5) (yA rfl)) rfl ?_)
  rintro _ _ ⟨_, ⟨rfl, rfl⟩, rfl⟩
  refine oG rfl hy4 (stp_not rfl) rfl (oD (stp_pick_f rfl hy4 rfl) rfl ?_)
  obtain rfl := sI ey4
  exact ow_nil (jy 4 0)
 refine ow_nil (kw_nx (cw_cond rfl (fun h6 => ?_) (fun h6 => ?_)))
 ·have H0 := cond_t H0 h6
  refine sr (oS rfl (oS rfl (oS rfl (nn (cw_ret (kw_nx_ret ?_))))))
  obtain rfl := sI H0
  exact kr Tryz.results29 (.cons (.tmp rfl) (.cons (.tmp rfl) (rT rfl))) [] ⟨rfl, rfl⟩
 have H0 := cond_f H0 h6
 obtain ⟨x7, e7, H0⟩ := bS H0
 obtain ⟨x8, e8, H0⟩ := bS H0
 refine cw_skip (kw_nx (cw_seq (rdq g_mixed [2, 3] [0, 1] { dst := dS [19, 20, 21, 22, 23, 24, 25, 8], pre := gA [] [[], [], [], [2], [2, 3], rn 1 4, rn 0 6, rn 0 7], ids := gA [] [[], [], [], [], [], [], [2]], rs := rL [[(2, 0)], [(3, 0)], [(2, 0)], [(20, 3)], [(21, 4)], [(19, 2), (22, 5)], [(18, 1), (23, 6)], [(24, 7)]], rh := rL [[(0, 0)], [(1, 0)], [], [(0, 0)]], V := fun i g => gA undef [.agg #[.slice p0_0 ((a0.b).length) c0_0, .slice p0_1 ((a0.f).length) c0_1], .agg #[.int .i64 a1.s, .int .i64 a1.p], .pointer (some ⟨b1, 0, none⟩), .slice p0_0 ((a0.b).length) c0_0, .int .i64 ((a0.b).length : Int), .int .i64 x7, .slice ((g 6).A 0) ((x8).length) ((g 6).C 0), .slice ((g 6).A 0) ((x8).length) ((g 6).C 0)] i, U := fun i g => match i with | 6 => [(2, ((g 6).R 0))] | _ => [], Φ := fun i x => match i with | 6 => OwnC 3 (x.A 0) (x.C 0) x8 (x.R 0) | _ => True } ?_ ?_)))
 ·refine ⟨lc rfl rfl fun hs hh => stp_loadN (us := [_, _]) ts26 (sv hs 2 rfl) (Cells.box (id := 0) (hh.get 0 _ rfl) 2 rfl), lc rfl rfl fun hs hh => stp_loadN (us := [_, _]) ts47 (sv hs 3 rfl) (Cells.box (id := 1) (hh.get 1 _ rfl) 2 rfl), lc rfl rfl fun hs hh => stp_fieldAddr (j := 0) Tryz.underlying26 rfl ts23 rfl (sv hs 2 rfl) rfl, lc rfl rfl fun hs hh => stp_load1 ts23 (sv hs 20 rfl) (Cells.box (id := 0) (hh.get 0 _ rfl) 1 rfl), lc rfl rfl fun hs hh => stp_len Tryz.underlying23 (sv hs 21 rfl), ?_, ?_, lS, trivial⟩
  ·refine le rfl rfl (fun g hΦ s h hs hh => (stpU_call (fun i => 2 + i) cf78 (fun w hw => c_i_hash fl w a1 ((a0.b).length : Int) x7 e7) (yB (sv hs 19 rfl) (sv hs 22 rfl)))) ?_
   rintro g _ _ ⟨_, ⟨rfl, rfl⟩, rfl⟩
   exact ⟨⟨[], [], []⟩, trivial, .inr rfl, rfl⟩
  refine le rfl rfl (fun g hΦ s h hs hh => (stpU_call (fun i => 2 + i) cf77 (fun w hw => c_i_Table_chain fl w a0 x7 rfl (RO.pass hr0_0 hw) rfl (RO.pass hr0_1 hw) x8 e8) (yB (sv hs 18 rfl) (sv hs 23 rfl)))) ?_
  rintro g _ _ ⟨_, ⟨p9, _, c11, C12, rfl, rfl, rfl, o12⟩, rfl⟩
  exact ⟨⟨[p9], [c11], [C12]⟩, o12, .inr rfl, rfl⟩
 intro g hΦ
 refine kw_gen (ι := Option Addr × Nat × Res) (((g 6).A 0), ((g 6).C 0), ((g 6).R 0)) (fun | (p9, c11, C12) => OwnC 3 p9 c11 x8 C12) (fun | (p9, c11, C12) => [(2, .pointer (some ⟨b1, 0, none⟩)), (3, .pointer (some ⟨b2, 0, none⟩)), (7, .slice p9 ((x8).length) c11)]) (fun | (p9, c11, C12) => [(0, [(b1, .cells #[.slice p0_0 ((a0.b).length) c0_0, .slice p0_1 ((a0.f).length) c0_1] 26 (0, 0))]), (1, [(b2, .cells #[.int .i64 a1.s, .int .i64 a1.p] 47 (0, 0))]), (2, C12)]) (hΦ 6 (by decide)) ⟨rfl, rfl, rfl, trivial⟩ ⟨rfl, rfl, rfl, trivial⟩ ?_
 rintro ⟨p9, c11, C12⟩ o12
 have o12 : OwnC 3 p9 c11 x8 C12 := o12
 dsimp only
 obtain ⟨o0_0, eo0_0, H0⟩ := bS H0
 refine kw_nx (cw_seq (sr (oM rfl (oD (stp_len Tryz.underlying23 rfl) rfl (oM rfl (nn (cw_join (ι := Int) (fun | v13 => o0_0 = .out v13) (fun | v13 => [(2, .pointer (some ⟨b1, 0, none⟩)), (3, .pointer (some ⟨b2, 0, none⟩)), (7, .slice p9 ((x8).length) c11), (25, .slice p9 ((x8).length) c11), (26, .int .i64 ((x8).length : Int)), (27, .int .i64 v13)]) (fun | v13 => [(0, [(b1, .cells #[.slice p0_0 ((a0.b).length) c0_0, .slice p0_1 ((a0.f).length) c0_1] 26 (0, 0))]), (1, [(b2, .cells #[.int .i64 a1.s, .int .i64 a1.p] 47 (0, 0))]), (2, C12)]) ?_ ?_)))))))
 ·refine cw_block (cw_loopS (ι := Nat × Int) (js := [0, 1, 2]) (fun x => x.1) (fun | (fuel, v13) => i_FindPage_L0 fl a0 a1 x8 fuel v13 = some o0_0) (fun | (_, v13) => [(2, .pointer (some ⟨b1, 0, none⟩)), (3, .pointer (some ⟨b2, 0, none⟩)), (7, .slice p9 ((x8).length) c11), (25, .slice p9 ((x8).length) c11), (26, .int .i64 ((x8).length : Int)), (27, .int .i64 v13)]) (fun | (_, v13) => [(0, [(b1, .cells #[.slice p0_0 ((a0.b).length) c0_0, .slice p0_1 ((a0.f).length) c0_1] 26 (0, 0))]), (1, [(b2, .cells #[.int .i64 a1.s, .int .i64 a1.p] 47 (0, 0))]), (2, C12)]) (fl, 0) eo0_0 ⟨rfl, rfl, rfl, rfl, rfl, rfl, trivial⟩ ⟨0, [1, 2], rfl, rfl, 1, [2], rfl, rfl, 2, [], rfl, rfl, trivial⟩ (by decide) ?_)
  rintro ⟨fuel, v13⟩ H1
  have H1 : i_FindPage_L0 fl a0 a1 x8 fuel v13 = some o0_0 := H1
  rcases fuel with _ | fuel
  ·rw [i_FindPage_L0.eq_1] at H1; cases H1
  rw [i_FindPage_L0.eq_2] at H1
  dsimp only
  refine sr (oW rfl (nn (cw_seq (cw_cond rfl (fun h14 => ?_) (fun h14 => ?_)))))
  ·have H1 := cond_t H1 h14
   obtain ⟨x15, e15, H1⟩ := bS H1
   obtain ⟨x16, e16, H1⟩ := bS H1
   refine cw_skip (kw_nx (cw_seq (cw_block (sr (oM rfl (oD (stp_indexAddr Tryz.underlying23 ts3 (by decide) rfl rfl rfl (Rdb.own (id := 2) rfl o12) e15) rfl (oD (stp_load1 ts3 rfl (Cells.el (Rdb.own (id := 2) rfl o12) (by decide) e15 0 1 rfl)) rfl (oS rfl (oS rfl (nn (cw_seq (rdq g_mixed [2, 3, 9] [0, 1] { dst := dS [33, 34, 35, 36, 37, 38, 39, 40], pre := gA [] [[], [0], [], [0, 1, 2], rn 0 4, rn 0 5, [], rn 0 7], ids := fun _ => [], rs := rL [[(2, 0)], [(32, 1)], [(9, 0)], [(33, 2), (34, 3)], [(35, 4)], [(36, 5)], [(3, 0)], [(37, 6), (38, 7)]], rh := rL [[], [(0, 0)], [], [], [], [], [(1, 0)]], V := fun i g => gA undef [.pointer (some ⟨b1, 1, none⟩), .slice p0_1 ((a0.f).length) c0_1, .int .i64 x15, .pointer (some ⟨eB p0_1, eO p0_1 + Int.toNat x15 * Enc.sz F + 0, none⟩), .pointer (some ⟨eB p0_1, eO p0_1 + Int.toNat x15 * Enc.sz F + 1, none⟩), .agg #[.int .i64 x16.k.s, .int .i64 x16.k.p], .agg #[.int .i64 a1.s, .int .i64 a1.p], .bool (x16.k == a1)] i, U := fun _ _ => [], Φ := fun _ _ => True } ?_ ?_))))))))))))
   ·exact ⟨lc rfl rfl fun hs hh => stp_fieldAddr (j := 1) Tryz.underlying26 rfl ts24 rfl (sv hs 2 rfl) rfl, lc rfl rfl fun hs hh => stp_load1 ts24 (sv hs 32 rfl) (Cells.box (id := 0) (hh.get 0 _ rfl) 1 rfl), lM, lc rfl rfl fun hs hh => stp_indexAddr Tryz.underlying24 ts58 (by decide) (sv hs 33 rfl) rfl (sv hs 34 rfl) (Rdb.ro hr0_1) e16, lc rfl rfl fun hs hh => stp_fieldAddr (j := 1) Tryz.underlying58 rfl ts47 rfl (sv hs 35 rfl) rfl, lc rfl rfl fun hs hh => stp_loadN (us := [_, _]) ts47 (sv hs 36 rfl) (Cells.el (Rdb.ro hr0_1) (by decide) e16 1 2 rfl), lc rfl rfl fun hs hh => stp_loadN (us := [_, _]) ts47 (sv hs 3 rfl) (Cells.box (id := 1) (hh.get 1 _ rfl) 2 rfl), lc rfl rfl fun hs hh => stp_eqlS te47 x16.k a1 (sv hs 37 rfl) (sv hs 38 rfl), trivial⟩
   intro g hΦ
   refine KW.sub (s' := [(2, .pointer (some ⟨b1, 0, none⟩)), (3, .pointer (some ⟨b2, 0, none⟩)), (7, .slice p9 ((x8).length) c11), (8, .int .i64 v13), (9, .int .i64 x15), (25, .slice p9 ((x8).length) c11), (26, .int .i64 ((x8).length : Int)), (27, .int .i64 v13), (39, .bool (x16.k == a1))]) (h' := [(0, [(b1, .cells #[.slice p0_0 ((a0.b).length) c0_0, .slice p0_1 ((a0.f).length) c0_1] 26 (0, 0))]), (1, [(b2, .cells #[.int .i64 a1.s, .int .i64 a1.p] 47 (0, 0))]), (2, C12)]) ?_ ⟨rfl, rfl, rfl, rfl, rfl, rfl, rfl, rfl, rfl, trivial⟩ ⟨rfl, rfl, rfl, trivial⟩
   refine kw_nx (cw_cond rfl (fun h17 => ?_) (fun h17 => ?_))
   ·have H1 := cond_t H1 h17
    obtain ⟨x18, e18, H1⟩ := bS H1
    refine sr (oM rfl (oM rfl (oP e18 rfl (oS rfl (oS rfl (oS rfl (nn (cw_ret (kw_bl_ret (kw_nx_ret (kw_lq_ret (kw_bl_ret (kw_join_ret ?_)))))))))))))
    refine kw_nx_ret ?_
    obtain rfl := sI H1
    obtain rfl := sI H0
    exact kr Tryz.results29 (.cons (.tmp rfl) (.cons (.tmp rfl) (rT rfl))) [] ⟨rfl, rfl⟩
   have H1 := cond_f H1 h17
   obtain ⟨x19, e19, H1⟩ := bS H1
   exact cw_skip (kw_bl_normal (kw_nx (cw_region (oP e19 rfl (oM rfl (ow_nil (kw_lqS (js := [0, 1, 2]) (fuel, x19) H1 (Nat.lt_succ_self _) ⟨rfl, rfl, rfl, rfl, rfl, rfl, trivial⟩ ⟨0, [1, 2], rfl, rfl, 1, [2], rfl, rfl, 2, [], rfl, rfl, trivial⟩ (by decide))))))))
  have H1 := cond_f H1 h14
  refine cw_exit (kw_nx_exit (kw_lq_exit (kw_bl ?_)))
  obtain rfl := sI H1
  exact kw_joinS (js := [0, 1, 2]) v13 rfl ⟨rfl, rfl, rfl, rfl, rfl, rfl, trivial⟩ ⟨0, [1, 2], rfl, rfl, 1, [2], rfl, rfl, 2, [], rfl, rfl, trivial⟩ (by decide)
 rintro v13 rfl
 dsimp only
 refine kw_nx (sr (oM rfl (oD (stp_len Tryz.underlying23 rfl) rfl (oS rfl (oS rfl (oS rfl (nn (cw_ret ?_))))))))
 obtain rfl := sI H0
 exact kr Tryz.results29 (.cons (.tmp rfl) (.cons (.tmp rfl) (rT rfl))) [] ⟨rfl, rfl⟩

theorem c_l_FnTouchPage (fl : Nat) (w : World) (a0 : (List UInt8)) (hn0_0 : n0_0 = (a0).length) (hr0_0 : RO w (hkeys []) (RdL p0_0 c0_0 a0)) (hg : RO w (hkeys []) (fun w' => w'.rangeAt 0 0 [.bool false, .int .i64 0, .int .i64 0, .int .i64 0, .int .i64 (-1)])) (r : Bool) (H0 : l_FnTouchPage fl a0 = some r) :
  Ct Tryz.prog 9 [.slice p0_0 n0_0 c0_0] w [] (fun rv h' => rv = .bool r ∧ h' = []) := by
 subst hn0_0
 unfold l_FnTouchPage at H0
 refine ct_of_cw Tryz.func9 rfl Tryz.ntmps9 rfl (Sat.refl _ _) ?_
 refine sr (oS rfl (nn (cw_seq (sr (oM rfl (oD (stp_len Tryz.underlying22 rfl) rfl (oJ rfl (nn (cw_cond rfl (fun h1 => ?_) (fun h1 => ?_))))))))))
 ·have H0 := cond_t H0 h1
  refine sr (oS rfl (nn (cw_ret (kw_nx_ret ?_))))
  obtain rfl := sI H0
  exact kr Tryz.results9 (rT rfl) [] ⟨rfl, rfl⟩
 have H0 := cond_f H0 h1
 obtain ⟨x2, e2, H0⟩ := bS H0
 refine cw_skip (kw_nx (sr (oM rfl (oE (stpU_call (fun i => 0 + i) cf30 (fun w hw => c_s_DrawTouchPage fl w a0 rfl (RO.pass hr0_0 hw) x2 e2) (yA rfl)) rfl ?_))))
 rintro _ _ ⟨_, ⟨p3, _, c5, C6, p7, _, c9, C10, p11, _, c13, C14, p15, _, c17, C18, rfl, rfl, rfl, o6, rfl, o10, rfl, o14, rfl, o18⟩, rfl⟩
 refine oM rfl (oT rfl (oT rfl (oT rfl (oE (stpU_alloc 4 tz34 rfl) rfl ?_))))
 rintro _ _ ⟨b19, rfl, rfl⟩
 obtain ⟨x20, e20, H0⟩ := bS H0
 refine oC9 4 ts34 rfl rfl (oS rfl (oS rfl (nn (sr (oB9 4 ts34 rfl (oM rfl (oM rfl (oE (stpU_call (fun i => 5 + i) cf31 (fun w hw => c_i_TouchPage fl w x2.1 x2.2.1 x2.2.2 rfl (OwnC.pass (id := 0) rfl o6 hw) rfl (OwnC.pass (id := 1) rfl o10 hw) rfl (OwnC.pass (id := 2) rfl o14 hw) rfl (OwnC.pass (id := 3) rfl o18 hw) (RO.pass hg hw) x20 e20) (yC rfl rfl rfl)) rfl ?_))))))))
 rintro _ _ ⟨_, ⟨p21, _, c23, C24, p25, _, c27, C28, p29, _, c31, C32, p33, _, c35, C36, rfl, rfl, rfl, o24, rfl, o28, rfl, o32, rfl, o36⟩, rfl⟩
 refine oM rfl (oT rfl (oT rfl (oT rfl (oT rfl (oE (stpU_alloc 9 tz34 rfl) rfl ?_)))))
 rintro _ _ ⟨b37, rfl, rfl⟩
 obtain ⟨x38, e38, H0⟩ := bS H0
 refine oC9 9 ts34 rfl rfl (oS rfl (oS rfl (oS rfl (nn (sr (oB9 4 ts34 rfl (oM rfl (oM rfl (oE (stpU_call (fun i => 10 + i) cf32 (fun w hw => c_s_TouchPage fl w x2.1 x2.2.1 x2.2.2 rfl (OwnC.pass (id := 0) rfl o6 hw) rfl (OwnC.pass (id := 1) rfl o10 hw) rfl (OwnC.pass (id := 2) rfl o14 hw) rfl (OwnC.pass (id := 3) rfl o18 hw) x38 e38) (yC rfl rfl rfl)) rfl ?_)))))))))
 rintro _ _ ⟨_, ⟨p39, _, c41, C42, p43, _, c45, C46, p47, _, c49, C50, p51, _, c53, C54, rfl, rfl, rfl, o42, rfl, o46, rfl, o50, rfl, o54⟩, rfl⟩
 refine oM rfl (oT rfl (oT rfl (oT rfl (oT rfl (oE (stpU_alloc 14 tz34 rfl) rfl ?_)))))
 rintro _ _ ⟨b55, rfl, rfl⟩
 obtain ⟨x56, e56, H0⟩ := bS H0
 refine oC9 14 ts34 rfl rfl (oS rfl (oS rfl (oS rfl (nn (cw_seq (sr (oB9 9 ts34 rfl (oB9 14 ts34 rfl (oE (stpU_call (fun i => 15 + i) cf18 (fun w hw => c_i_MachineSame fl w x20.1 x38.1 rfl (OwnC.pass (id := 5) rfl o24 hw) rfl (OwnC.pass (id := 6) rfl o28 hw) rfl (OwnC.pass (id := 7) rfl o32 hw) rfl (OwnC.pass (id := 8) rfl o36 hw) rfl (OwnC.pass (id := 10) rfl o42 hw) rfl (OwnC.pass (id := 11) rfl o46 hw) rfl (OwnC.pass (id := 12) rfl o50 hw) rfl (OwnC.pass (id := 13) rfl o54 hw) x56 e56) (yB rfl rfl)) rfl ?_)))))))))
 rintro _ _ ⟨_, ⟨rfl, rfl⟩, rfl⟩
 obtain ⟨y57, ey57, H0⟩ := bS H0
 refine oK rfl (oM rfl (ow_cutY 4 53 y57 ?_ ?_))
 ·rcases Bool.eq_false_or_eq_true (!x56) with hy57 | hy57
  ·have ey57 := cond_t ey57 hy57
   refine oO rfl hy57 rfl (oO rfl hy57 rfl (oO rfl hy57 rfl (oD (stp_pick_t rfl hy57 rfl) rfl ?_)))
   obtain rfl := sI ey57
   exact ow_nil (jy 4 0)
  have ey57 := cond_f ey57 hy57
  refine oG rfl hy57 (mv rfl) rfl (oG rfl hy57 (mv rfl) rfl (oG rfl hy57 (stp_neq rfl rfl) rfl (oD (stp_pick_f rfl hy57 rfl) rfl ?_)))
  obtain rfl := sI ey57
  exact ow_nil (jy 4 0)
 obtain ⟨y58, ey58, H0⟩ := bS H0
 refine oM rfl (ow_cutY 4 58 y58 ?_ ?_)
 ·rcases Bool.eq_false_or_eq_true y57 with hy58 | hy58
  ·have ey58 := cond_t ey58 hy58
   refine oO rfl hy58 rfl (oO rfl hy58 rfl (oO rfl hy58 rfl (oD (stp_pick_t rfl hy58 rfl) rfl ?_)))
   obtain rfl := sI ey58
   exact ow_nil (jy 4 0)
  have ey58 := cond_f ey58 hy58
  refine oG rfl hy58 (mv rfl) rfl (oG rfl hy58 (mv rfl) rfl (oG rfl hy58 (stp_neq rfl rfl) rfl (oD (stp_pick_f rfl hy58 rfl) rfl ?_)))
  obtain rfl := sI ey58
  exact ow_nil (jy 4 0)
 obtain ⟨y59, ey59, H0⟩ := bS H0
 refine oM rfl (ow_cutY 4 63 y59 ?_ ?_)
 ·rcases Bool.eq_false_or_eq_true y58 with hy59 | hy59
  ·have ey59 := cond_t ey59 hy59
   refine oO rfl hy59 rfl (oO rfl hy59 rfl (oO rfl hy59 rfl (oD (stp_pick_t rfl hy59 rfl) rfl ?_)))
   obtain rfl := sI ey59
   exact ow_nil (jy 4 0)
  have ey59 := cond_f ey59 hy59
  refine oG rfl hy59 (mv rfl) rfl (oG rfl hy59 (mv rfl) rfl (oG rfl hy59 (stp_neqB Tryz.underlying4 rfl rfl) rfl (oD (stp_pick_f rfl hy59 rfl) rfl ?_)))
  obtain rfl := sI ey59
  exact ow_nil (jy 4 0)
 obtain ⟨y60, ey60, H0⟩ := bS H0
 refine oM rfl (ow_cutY 3 67 y60 ?_ ?_)
 ·rcases Bool.eq_false_or_eq_true y59 with hy60 | hy60
  ·have ey60 := cond_t ey60 hy60
   refine oO rfl hy60 rfl (oO rfl hy60 rfl (oD (stp_pick_t rfl hy60 rfl) rfl ?_))
   obtain rfl := sI ey60
   exact ow_nil (jy 3 0)
  have ey60 := cond_f ey60 hy60
  refine oG rfl hy60 (mv rfl) rfl (oG rfl hy60 (stp_not rfl) rfl (oD (stp_pick_f rfl hy60 rfl) rfl ?_))
  obtain rfl := sI ey60
  exact ow_nil (jy 3 0)
 refine ow_nil (kw_nx (cw_cond rfl (fun h61 => ?_) (fun h61 => ?_)))
 ·have H0 := cond_t H0 h61
  refine sr (oB9 9 ts34 rfl (oB9 14 ts34 rfl (oE (stpU_call (fun i => 15 + i) cf18 (fun w hw => c_i_MachineSame fl w x20.1 x38.1 rfl (OwnC.pass (id := 5) rfl o24 hw) rfl (OwnC.pass (id := 6) rfl o28 hw) rfl (OwnC.pass (id := 7) rfl o32 hw) rfl (OwnC.pass (id := 8) rfl o36 hw) rfl (OwnC.pass (id := 10) rfl o42 hw) rfl (OwnC.pass (id := 11) rfl o46 hw) rfl (OwnC.pass (id := 12) rfl o50 hw) rfl (OwnC.pass (id := 13) rfl o54 hw) x56 e56) (yB rfl rfl)) rfl ?_)))
  rintro _ _ ⟨_, ⟨rfl, rfl⟩, rfl⟩
  obtain ⟨y62, ey62, H0⟩ := bS H0
  refine oM rfl (ow_cutY 4 75 y62 ?_ ?_)
  ·rcases Bool.eq_false_or_eq_true x56 with hy62 | hy62
   ·have ey62 := cond_t ey62 hy62
    refine oG rfl hy62 (mv rfl) rfl (oG rfl hy62 (mv rfl) rfl (oG rfl hy62 (stp_eql rfl rfl) rfl (oD (stp_pick_t rfl hy62 rfl) rfl ?_)))
    obtain rfl := sI ey62
    exact ow_nil (jy 4 0)
   have ey62 := cond_f ey62 hy62
   refine oO rfl hy62 rfl (oO rfl hy62 rfl (oO rfl hy62 rfl (oD (stp_pick_f rfl hy62 rfl) rfl ?_)))
   obtain rfl := sI ey62
   exact ow_nil (jy 4 0)
  obtain ⟨y63, ey63, H0⟩ := bS H0
  refine oM rfl (ow_cutY 4 80 y63 ?_ ?_)
  ·rcases Bool.eq_false_or_eq_true y62 with hy63 | hy63
   ·have ey63 := cond_t ey63 hy63
    refine oG rfl hy63 (mv rfl) rfl (oG rfl hy63 (mv rfl) rfl (oG rfl hy63 (stp_eql rfl rfl) rfl (oD (stp_pick_t rfl hy63 rfl) rfl ?_)))
    obtain rfl := sI ey63
    exact ow_nil (jy 4 0)
   have ey63 := cond_f ey63 hy63
   refine oO rfl hy63 rfl (oO rfl hy63 rfl (oO rfl hy63 rfl (oD (stp_pick_f rfl hy63 rfl) rfl ?_)))
   obtain rfl := sI ey63
   exact ow_nil (jy 4 0)
  obtain ⟨y64, ey64, H0⟩ := bS H0
  refine oM rfl (ow_cutY 4 85 y64 ?_ ?_)
  ·rcases Bool.eq_false_or_eq_true y63 with hy64 | hy64
   ·have ey64 := cond_t ey64 hy64
    refine oG rfl hy64 (mv rfl) rfl (oG rfl hy64 (mv rfl) rfl (oG rfl hy64 (stp_eqlB Tryz.underlying4 rfl rfl) rfl (oD (stp_pick_t rfl hy64 rfl) rfl ?_)))
    obtain rfl := sI ey64
    exact ow_nil (jy 4 0)
   have ey64 := cond_f ey64 hy64
   refine oO rfl hy64 rfl (oO rfl hy64 rfl (oO rfl hy64 rfl (oD (stp_pick_f rfl hy64 rfl) rfl ?_)))
   obtain rfl := sI ey64
   exact ow_nil (jy 4 0)
  refine oS rfl (nn (cw_ret (kw_nx_ret ?_)))
  obtain rfl := sI H0
  exact kr Tryz.results9 (rT rfl) [] ⟨rfl, rfl⟩
 have H0 := cond_f H0 h61
 obtain ⟨x65, e65, H0⟩ := bS H0
 obtain ⟨x66, e66, H0⟩ := bS H0
 refine cw_skip (kw_nx (cw_seq (rdq g_mixed [3, 4] [0, 1, 4] { dst := dS [88, 89, 90, 91, 92, 93, 94, 87, 95, 96, 97, 15, 16, 17], pre := gA [] [[], [0], [], [2], [], [2, 3, 4], rn 0 6, rn 0 7, rn 0 8, rn 0 8, rn 0 8, rn 0 9, [0, 1, 2, 3, 4, 5, 6, 7, 8, 9, 11], rn 0 13], ids := fun _ => [], rs := rL [[(3, 0)], [(87, 1)], [(3, 0)], [(89, 3)], [(4, 0)], [(90, 4), (91, 5)], [(88, 2), (92, 6)], [(93, 7)], [(86, 8)], [(86, 8)], [(86, 8)], [(94, 9)], [(95, 10)], [(96, 11)]], rh := rL [[], [(4, 0)], [], [(4, 0)], [], [], [(0, 0), (1, 0)]], V := fun i g => gA undef [.pointer (some ⟨b19, 0, none⟩), .agg #[.slice p3 ((x2.1.t.b).length) c5, .slice p7 ((x2.1.t.f).length) c9], .pointer (some ⟨b19, 8, none⟩), .int .i64 x2.1.s, .int .i64 x2.2.1, .agg #[.int .i64 x65.s, .int .i64 x65.p], .tuple #[.int .i64 x66.1, .int .i64 x66.2.1, .bool x66.2.2], .tuple #[.int .i64 x66.1, .int .i64 x66.2.1, .bool x66.2.2], .int .i64 x66.1, .int .i64 x66.2.1, .bool x66.2.2, .int .i64 x66.1, .int .i64 x66.2.1, .bool x66.2.2] i, U := fun _ _ => [], Φ := fun _ _ => True } ?_ ?_)))
 ·refine ⟨lc rfl rfl fun hs hh => stp_fieldAddr (j := 0) Tryz.underlying34 rfl ts26 rfl (sv hs 3 rfl) rfl, lc rfl rfl fun hs hh => stp_loadN (us := [_, _]) ts26 (sv hs 87 rfl) (Cells.box (id := 4) (hh.get 4 _ rfl) 2 rfl), lc rfl rfl fun hs hh => stp_fieldAddr (j := 8) Tryz.underlying34 rfl ts3 rfl (sv hs 3 rfl) rfl, lc rfl rfl fun hs hh => stp_load1 ts3 (sv hs 89 rfl) (Cells.box (id := 4) (hh.get 4 _ rfl) 1 rfl), lM, ?_, ?_, lM, lT, lT, lT, lS, lS, lS, trivial⟩
  ·refine le rfl rfl (fun g hΦ s h hs hh => (stpU_call (fun i => 15 + i) cf34 (fun w hw => c_i_KeyFor fl w x2.1.s x2.2.1 x65 e65) (yB (sv hs 90 rfl) (sv hs 91 rfl)))) ?_
   rintro g _ _ ⟨_, ⟨rfl, rfl⟩, rfl⟩
   exact ⟨⟨[], [], []⟩, trivial, .inr rfl, rfl⟩
  refine le rfl rfl (fun g hΦ s h hs hh => (stpU_call (fun i => 15 + i) cf29 (fun w hw => c_i_FindPage fl w x2.1.t x65 rfl (OwnC.pass (id := 0) (hh.get 0 _ rfl) o6 hw) rfl (OwnC.pass (id := 1) (hh.get 1 _ rfl) o10 hw) (RO.pass hg hw) x66 e66) (yB (sv hs 88 rfl) (sv hs 92 rfl)))) ?_
  rintro g _ _ ⟨_, ⟨rfl, rfl⟩, rfl⟩
  exact ⟨⟨[], [], []⟩, trivial, .inr rfl, rfl⟩
 intro g hΦ
 refine KW.sub (s' := [(3, .pointer (some ⟨b19, 0, none⟩)), (5, .int .i64 x2.2.2), (6, .pointer (some ⟨b37, 0, none⟩)), (7, .int .i64 x20.2.1), (8, .int .i64 x20.2.2.1), (14, .int .i64 x66.1), (16, .bool x66.2.2)]) (h' := [(0, C6), (1, C10), (2, C14), (3, C18), (4, [(b19, .cells #[.slice p3 ((x2.1.t.b).length) c5, .slice p7 ((x2.1.t.f).length) c9, .slice p11 ((x2.1.c.l).length) c13, .int .i64 x2.1.c.h, .int .i64 x2.1.g.c, .int .i64 x2.1.g.n, .int .i64 x2.1.g.r, .slice p15 ((x2.1.g.o).length) c17, .int .i64 x2.1.s] 34 (0, 0))]), (5, C24), (6, C28), (7, C32), (8, C36), (9, [(b37, .cells #[.slice p21 ((x20.1.t.b).length) c23, .slice p25 ((x20.1.t.f).length) c27, .slice p29 ((x20.1.c.l).length) c31, .int .i64 x20.1.c.h, .int .i64 x20.1.g.c, .int .i64 x20.1.g.n, .int .i64 x20.1.g.r, .slice p33 ((x20.1.g.o).length) c35, .int .i64 x20.1.s] 34 (0, 0))])]) ?_ ⟨rfl, rfl, rfl, rfl, rfl, rfl, rfl, trivial⟩ ⟨rfl, rfl, rfl, rfl, rfl, rfl, rfl, rfl, rfl, rfl, trivial⟩
 refine kw_nx (cw_seq (sr (oM rfl (oK rfl (nn (cw_cond rfl (fun h67 => ?_) (fun h67 => ?_)))))))
 ·have H0 := cond_t H0 h67
  obtain ⟨y68, ey68, H0⟩ := bS H0
  refine sr (oM rfl (oQ rfl (oM rfl (ow_cutY 3 104 y68 ?_ ?_))))
  ·rcases Bool.eq_false_or_eq_true (x20.2.2.1 == 3) with hy68 | hy68
   ·have ey68 := cond_t ey68 hy68
    refine oG rfl hy68 (mv rfl) rfl (oG rfl hy68 (stp_eql rfl rfl) rfl (oD (stp_pick_t rfl hy68 rfl) rfl ?_))
    obtain rfl := sI ey68
    exact ow_nil (jy 3 0)
   have ey68 := cond_f ey68 hy68
   refine oO rfl hy68 rfl (oO rfl hy68 rfl (oD (stp_pick_f rfl hy68 rfl) rfl ?_))
   obtain rfl := sI ey68
   exact ow_nil (jy 3 0)
  obtain ⟨y69, ey69, H0⟩ := bS H0
  refine oM rfl (ow_cutY 4 109 y69 ?_ ?_)
  ·rcases Bool.eq_false_or_eq_true y68 with hy69 | hy69
   ·have ey69 := cond_t ey69 hy69
    obtain ⟨x70, e70, ey69⟩ := bS ey69
    refine oG rfl hy69 (stp_loadN (us := [_, _, _, _, _, _, _, _, _]) ts34 rfl (Cells.box (id := 9) rfl 9 rfl)) rfl (oG rfl hy69 (stp_loadN (us := [_, _, _, _, _, _, _, _, _]) ts34 rfl (Cells.box (id := 4) rfl 9 rfl)) rfl (ow_eff (.some rfl hy69) (stpU_call (fun i => 15 + i) cf18 (fun w hw => c_i_MachineSame fl w x20.1 x2.1 rfl (OwnC.pass (id := 5) rfl o24 hw) rfl (OwnC.pass (id := 6) rfl o28 hw) rfl (OwnC.pass (id := 7) rfl o32 hw) rfl (OwnC.pass (id := 8) rfl o36 hw) rfl (OwnC.pass (id := 0) rfl o6 hw) rfl (OwnC.pass (id := 1) rfl o10 hw) rfl (OwnC.pass (id := 2) rfl o14 hw) rfl (OwnC.pass (id := 3) rfl o18 hw) x70 e70) (yB rfl rfl)) rfl ?_))
    rintro _ _ ⟨_, ⟨rfl, rfl⟩, rfl⟩
    refine oD (stp_pick_t rfl hy69 rfl) rfl ?_
    obtain rfl := sI ey69
    exact ow_nil (jy 4 0)
   have ey69 := cond_f ey69 hy69
   refine oO rfl hy69 rfl (oO rfl hy69 rfl (oO rfl hy69 rfl (oD (stp_pick_f rfl hy69 rfl) rfl ?_)))
   obtain rfl := sI ey69
   exact ow_nil (jy 4 0)
  refine oS rfl (nn (cw_ret (kw_nx_ret ?_)))
  obtain rfl := sI H0
  exact kr Tryz.results9 (rT rfl) [] ⟨rfl, rfl⟩
 have H0 := cond_f H0 h67
 obtain ⟨x71, e71, H0⟩ := bS H0
 obtain ⟨x72, e72, H0⟩ := bS H0
 refine cw_skip (kw_nx (sr (oA 0 Tryz.underlying34 rfl ts26 rfl (oA 1 Tryz.underlying26 rfl ts24 rfl (oL 4 ts24 rfl (oM rfl (oD (stp_indexAddr Tryz.underlying24 ts58 (by decide) rfl rfl rfl (Rdb.own (id := 1) rfl o10) e71) rfl (oA 3 Tryz.underlying58 rfl ts3 rfl (oD (stp_load1 ts3 rfl (Cells.el (Rdb.own (id := 1) rfl o10) (by decide) e71 3 1 rfl)) rfl (oM rfl (oE (stpU_call (fun i => 15 + i) cf35 (fun w hw => c_i_Allows fl w x71.r x2.2.2 x72 e72) (yB rfl rfl)) rfl ?_)))))))))))
 rintro _ _ ⟨_, ⟨rfl, rfl⟩, rfl⟩
 obtain ⟨x73, e73, H0⟩ := bS H0
 refine oS rfl (nn (sr (oB9 9 ts34 rfl (oE (stpU_call (fun i => 15 + i) cf19 (fun w hw => c_i_MachineValid fl w x20.1 rfl (OwnC.pass (id := 5) rfl o24 hw) rfl (OwnC.pass (id := 6) rfl o28 hw) rfl (OwnC.pass (id := 7) rfl o32 hw) rfl (OwnC.pass (id := 8) rfl o36 hw) (RO.pass hg hw) x73 e73) (yA rfl)) rfl ?_))))
 rintro _ _ ⟨_, ⟨rfl, rfl⟩, rfl⟩
 obtain ⟨y74, ey74, H0⟩ := bS H0
 refine oM rfl (ow_cutY 4 125 y74 ?_ ?_)
 ·rcases Bool.eq_false_or_eq_true x73 with hy74 | hy74
  ·have ey74 := cond_t ey74 hy74
   refine oG rfl hy74 (mv rfl) rfl (oG rfl hy74 (mv rfl) rfl (oG rfl hy74 (stp_eql rfl rfl) rfl (oD (stp_pick_t rfl hy74 rfl) rfl ?_)))
   obtain rfl := sI ey74
   exact ow_nil (jy 4 0)
  have ey74 := cond_f ey74 hy74
  refine oO rfl hy74 rfl (oO rfl hy74 rfl (oO rfl hy74 rfl (oD (stp_pick_f rfl hy74 rfl) rfl ?_)))
  obtain rfl := sI ey74
  exact ow_nil (jy 4 0)
 obtain ⟨y75, ey75, H0⟩ := bS H0
 refine oM rfl (ow_cutY 6 132 y75 ?_ ?_)
 ·rcases Bool.eq_false_or_eq_true y74 with hy75 | hy75
  ·have ey75 := cond_t ey75 hy75
   refine oG rfl hy75 (mv rfl) rfl (oG rfl hy75 (stp_eql rfl rfl) rfl (oG rfl hy75 (mv rfl) rfl (oG rfl hy75 (stp_not rfl) rfl (oG rfl hy75 (stp_eqlB Tryz.underlying4 rfl rfl) rfl (oD (stp_pick_t rfl hy75 rfl) rfl ?_)))))
   obtain rfl := sI ey75
   exact ow_nil (jy 6 0)
  have ey75 := cond_f ey75 hy75
  refine oO rfl hy75 rfl (oO rfl hy75 rfl (oO rfl hy75 rfl (oO rfl hy75 rfl (oO rfl hy75 rfl (oD (stp_pick_f rfl hy75 rfl) rfl ?_)))))
  obtain rfl := sI ey75
  exact ow_nil (jy 6 0)
 obtain ⟨y76, ey76, H0⟩ := bS H0
 refine oM rfl (ow_cutY 3 136 y76 ?_ ?_)
 ·rcases Bool.eq_false_or_eq_true y75 with hy76 | hy76
  ·have ey76 := cond_t ey76 hy76
   refine oG rfl hy76 (mv rfl) rfl (oG rfl hy76 (stp_neq rfl rfl) rfl (oD (stp_pick_t rfl hy76 rfl) rfl ?_))
   obtain rfl := sI ey76
   exact ow_nil (jy 3 0)
  have ey76 := cond_f ey76 hy76
  refine oO rfl hy76 rfl (oO rfl hy76 rfl (oD (stp_pick_f rfl hy76 rfl) rfl ?_))
  obtain rfl := sI ey76
  exact ow_nil (jy 3 0)
 obtain ⟨y77, ey77, H0⟩ := bS H0
 refine oM rfl (ow_cutY 6 143 y77 ?_ ?_)
 ·rcases Bool.eq_false_or_eq_true y76 with hy77 | hy77
  ·have ey77 := cond_t ey77 hy77
   obtain ⟨x78, e78, ey77⟩ := bS ey77
   refine oG rfl hy77 (fA 0 Tryz.underlying34 rfl ts26 rfl rfl rfl) rfl (oG rfl hy77 (stp_loadN (us := [_, _]) ts26 rfl (Cells.box (id := 9) rfl 2 rfl)) rfl (oG rfl hy77 (fA 0 Tryz.underlying34 rfl ts26 rfl rfl rfl) rfl (oG rfl hy77 (stp_loadN (us := [_, _]) ts26 rfl (Cells.box (id := 4) rfl 2 rfl)) rfl (ow_eff (.some rfl hy77) (stpU_call (fun i => 15 + i) cf20 (fun w hw => c_i_TableSame fl w x20.1.t x2.1.t rfl (OwnC.pass (id := 5) rfl o24 hw) rfl (OwnC.pass (id := 6) rfl o28 hw) rfl (OwnC.pass (id := 0) rfl o6 hw) rfl (OwnC.pass (id := 1) rfl o10 hw) x78 e78) (yB rfl rfl)) rfl ?_))))
   rintro _ _ ⟨_, ⟨rfl, rfl⟩, rfl⟩
   refine oD (stp_pick_t rfl hy77 rfl) rfl ?_
   obtain rfl := sI ey77
   exact ow_nil (jy 6 0)
  have ey77 := cond_f ey77 hy77
  refine oO rfl hy77 rfl (oO rfl hy77 rfl (oO rfl hy77 rfl (oO rfl hy77 rfl (oO rfl hy77 rfl (oD (stp_pick_f rfl hy77 rfl) rfl ?_)))))
  obtain rfl := sI ey77
  exact ow_nil (jy 6 0)
 refine oS rfl (nn (cw_ret ?_))
 obtain rfl := sI H0
 exact kr Tryz.results9 (rT rfl) [] ⟨rfl, rfl⟩
end Go.Proofs.YtkohlcjdagckhaaGreatDoor
