/- The walks: functions of the program return what their pure functions say. Printed by a program (gen.py). -/
import Derived.Test.YtfnliecmagnkdaaDoorGp
import Derived.Test.YtfnliecmagnkdaaDoorGt
import Derived.Test.YtfnliecmagnkdaaDoorMan
import Derived.Test.YtfnliecmagnkdaaDoorMap
import Derived.Test.YtfnliecmagnkdaaDoorCpy
import Derived.Test.YtfnliecmagnkdaaDoorClr
import Derived.Test.YtfnliecmagnkdaaDoorDp
import Derived.Test.YtfnliecmagnkdaaDoorSrt
import Derived.Test.YtfnliecmagnkdaaDoorE8
set_option linter.unusedSimpArgs false
set_option linter.unusedVariables false
set_option linter.unusedSectionVars false
namespace Go.Proofs.YtfnliecmagnkdaaDoor
open Go.RowKit
set_option maxHeartbeats 4000000
set_option maxRecDepth 20000
variable {p0_0 p0_1 p0_2 : Option Addr} {n0_0 n0_1 n0_2 : Nat} {c0_0 c0_1 c0_2 : Nat}
theorem c_i_TableValid (fl : Nat) (w : World) (a0 : T) (hn0_0 : n0_0 = (a0.b).length) (hr0_0 : RO w (hkeys []) (RdL p0_0 c0_0 a0.b)) (hn0_1 : n0_1 = (a0.f).length) (hr0_1 : RO w (hkeys []) (RdL p0_1 c0_1 a0.f)) (hg : RO w (hkeys []) (fun w' => w'.rangeAt 0 0 [.bool false, .int .i64 0, .int .i64 0, .int .i64 0, .int .i64 (-1)])) (r : Bool) (H0 : i_TableValid fl a0 = some r) :
    Ct Tryd.prog 49 [.agg #[.slice p0_0 n0_0 c0_0, .slice p0_1 n0_1 c0_1]] w [] (fun rv h' => rv = .bool r ∧ h' = []) := by
  obtain rfl := hn0_0
  obtain rfl := hn0_1
  unfold i_TableValid at H0
  obtain rfl := Option.some.inj H0
  exact ct_of_calls (tableValid_c _ a0 w ⟨_, _, rfl, (hr0_0 w (Fr.refl _ _)).rd, (hr0_1 w (Fr.refl _ _)).rd⟩ (freeG_of (hg w (Fr.refl _ _))))

theorem c_i_within (fl : Nat) (w : World) (a0 : Int) (a1 : Int) (r : Bool) (H0 : i_within fl a0 a1 = some r) :
  Ct Tryd.prog 53 [.int .i64 a0, .int .i64 a1] w [] (fun rv h' => rv = .bool r ∧ h' = []) := by
 unfold i_within at H0
 refine ct_of_cw Tryd.func53 rfl Tryd.ntmps53 rfl (Sat.refl _ _) ?_
 obtain ⟨y1, ey1, H0⟩ := bS H0
 refine sr (oS rfl (nn (sr (oM rfl (oI rfl (oM rfl (ow_cutY 4 11 y1 ?_ ?_)))))))
 ·rcases Bool.eq_false_or_eq_true (decide (0 ≤ a0)) with hy1 | hy1
  ·have ey1 := cond_t ey1 hy1
   refine oG rfl hy1 (mv rfl) rfl (oG rfl hy1 (mv rfl) rfl (oG rfl hy1 (stp_lss rfl rfl) rfl (oD (stp_pick_t rfl hy1 rfl) rfl ?_)))
   obtain rfl := sI ey1
   exact ow_nil (jy 4 0)
  have ey1 := cond_f ey1 hy1
  refine oO rfl hy1 rfl (oO rfl hy1 rfl (oO rfl hy1 rfl (oD (stp_pick_f rfl hy1 rfl) rfl ?_)))
  obtain rfl := sI ey1
  exact ow_nil (jy 4 0)
 refine oS rfl (nn (cw_ret ?_))
 obtain rfl := sI H0
 exact kr Tryd.results53 (rT rfl) [] ⟨rfl, rfl⟩

theorem c_i_KeyValid (fl : Nat) (w : World) (a0 : K) (r : Bool) (H0 : i_KeyValid fl a0 = some r) :
  Ct Tryd.prog 59 [.agg #[.int .i64 a0.s, .int .i64 a0.p]] w [] (fun rv h' => rv = .bool r ∧ h' = []) := by
 unfold i_KeyValid at H0
 refine ct_of_cw Tryd.func59 rfl Tryd.ntmps59 rfl (Sat.refl _ _) ?_
 refine sr (oE (stpU_box 0 rfl rfl) rfl ?_)
 rintro _ _ ⟨b1, rfl, rfl⟩
 obtain ⟨x2, e2, H0⟩ := bS H0
 refine oS rfl (nn (sr (oA 0 Tryd.underlying46 rfl ts3 rfl (oL 0 ts3 rfl (oE (stpU_call (fun i => 1 + i) cf53 (fun w hw => c_i_within fl w a0.s 16 x2 e2) (yB rfl rfl)) rfl ?_)))))
 rintro _ _ ⟨_, ⟨rfl, rfl⟩, rfl⟩
 obtain ⟨y3, ey3, H0⟩ := bS H0
 refine oM rfl (ow_cutY 4 10 y3 ?_ ?_)
 ·rcases Bool.eq_false_or_eq_true x2 with hy3 | hy3
  ·have ey3 := cond_t ey3 hy3
   obtain ⟨x4, e4, ey3⟩ := bS ey3
   refine oG rfl hy3 (fA 1 Tryd.underlying46 rfl ts3 rfl rfl rfl) rfl (oG rfl hy3 (lB 0 ts3 rfl rfl rfl) rfl (ow_eff (.some rfl hy3) (stpU_call (fun i => 1 + i) cf53 (fun w hw => c_i_within fl w a0.p 256 x4 e4) (yB rfl rfl)) rfl ?_))
   rintro _ _ ⟨_, ⟨rfl, rfl⟩, rfl⟩
   refine oD (stp_pick_t rfl hy3 rfl) rfl ?_
   obtain rfl := sI ey3
   exact ow_nil (jy 4 0)
  have ey3 := cond_f ey3 hy3
  refine oO rfl hy3 rfl (oO rfl hy3 rfl (oO rfl hy3 rfl (oD (stp_pick_f rfl hy3 rfl) rfl ?_)))
  obtain rfl := sI ey3
  exact ow_nil (jy 4 0)
 refine oS rfl (nn (cw_ret ?_))
 obtain rfl := sI H0
 exact kr Tryd.results59 (rT rfl) [] ⟨rfl, rfl⟩

theorem c_i_noteOf_1 (fl : Nat) (w : World) (a0 : Nt) (qc0 : Nat) (ac0 : K) (hbac0 : RO w (hkeys []) (fun w' => w'.rangeAt qc0 0 [.int .i64 ac0.s, .int .i64 ac0.p])) (r : Bool) (H0 : i_noteOf_1 fl a0 ac0 = some r) :
  Ct Tryd.prog 114 [.agg #[.int .i64 a0.k.s, .int .i64 a0.k.p, .int .i64 a0.fr], .pointer (some ⟨qc0, 0, none⟩)] w [] (fun rv h' => rv = .bool r ∧ h' = []) := by
 unfold i_noteOf_1 at H0
 refine ct_of_cw Tryd.func114 rfl Tryd.ntmps114 rfl (Sat.refl _ _) ?_
 refine sr (oE (stpU_box 0 rfl rfl) rfl ?_)
 rintro _ _ ⟨b1, rfl, rfl⟩
 refine oS rfl (nn (sr (oA 0 Tryd.underlying48 rfl ts46 rfl (oB2 0 ts46 rfl (oD (stp_loadN (us := [_, _]) ts46 rfl (Cells.ofRO hbac0 2 rfl)) rfl (oD (stp_eqlS te46 a0.k ac0 rfl rfl) rfl (oS rfl (nn (cw_ret ?_)))))))))
 obtain rfl := sI H0
 exact kr Tryd.results114 (rT rfl) [] ⟨rfl, rfl⟩

theorem c_slices_IndexFunc_Note_of_i_noteOf_1 (fl : Nat) (w : World) (a0 : (List Nt)) (q1_0 : Nat) (a1_0 : K) (hn0_0 : n0_0 = (a0).length) (hr0_0 : RO w (hkeys []) (RdL p0_0 c0_0 a0)) (hba1_0 : RO w (hkeys []) (fun w' => w'.rangeAt q1_0 0 [.int .i64 a1_0.s, .int .i64 a1_0.p])) (r : Int) (H0 : slices_IndexFunc_Note_of_i_noteOf_1 fl a0 a1_0 = some r) :
  Ct Tryd.prog 113 [.slice p0_0 n0_0 c0_0, .func (.func 114) #[] #[.pointer (some ⟨q1_0, 0, none⟩)]] w [] (fun rv h' => rv = .int .i64 r ∧ h' = []) := by
 subst hn0_0
 unfold slices_IndexFunc_Note_of_i_noteOf_1 at H0
 refine ct_of_cw Tryd.func113 rfl Tryd.ntmps113 rfl (Sat.refl _ _) ?_
 obtain ⟨o0_0, eo0_0, H0⟩ := bS H0
 refine sr (oS rfl (nn (cw_seq (sr (oM rfl (oD (stp_len Tryd.underlying42 rfl) rfl (oM rfl (nn (cw_join (ι := Int) (fun | v1 => o0_0 = .out v1) (fun | v1 => [(0, .slice p0_0 ((a0).length) c0_0), (1, .func (.func 114) #[] #[.pointer (some ⟨q1_0, 0, none⟩)]), (7, .int .i64 ((a0).length : Int)), (8, .int .i64 v1)]) (fun | v1 => []) ?_ ?_)))))))))
 ·refine cw_block (cw_loopS (ι := Nat × Int) (js := []) (fun x => x.1) (fun | (fuel, v1) => slices_IndexFunc_Note_of_i_noteOf_1_L0 fl a0 a1_0 fuel v1 = some o0_0) (fun | (_, v1) => [(0, .slice p0_0 ((a0).length) c0_0), (1, .func (.func 114) #[] #[.pointer (some ⟨q1_0, 0, none⟩)]), (7, .int .i64 ((a0).length : Int)), (8, .int .i64 v1)]) (fun | (_, v1) => []) (fl, 0) eo0_0 ⟨rfl, rfl, rfl, rfl, trivial⟩ trivial (by decide) ?_)
  rintro ⟨fuel, v1⟩ H1
  have H1 : slices_IndexFunc_Note_of_i_noteOf_1_L0 fl a0 a1_0 fuel v1 = some o0_0 := H1
  rcases fuel with _ | fuel
  ·rw [slices_IndexFunc_Note_of_i_noteOf_1_L0.eq_1] at H1; cases H1
  rw [slices_IndexFunc_Note_of_i_noteOf_1_L0.eq_2] at H1
  dsimp only
  refine sr (oW rfl (nn (cw_seq (cw_cond rfl (fun h2 => ?_) (fun h2 => ?_)))))
  ·have H1 := cond_t H1 h2
   obtain ⟨x3, e3, H1⟩ := bS H1
   refine cw_skip (kw_nx (cw_seq (cw_block (sr (oM rfl (oS rfl (nn (sr (oM rfl (oM rfl (oM rfl (oD (stp_indexAddr Tryd.underlying42 ts48 (by decide) rfl rfl rfl (Rdb.ro hr0_0) e3) rfl (oD (stp_loadN (us := [_, _, _]) ts48 rfl (Cells.el (Rdb.ro hr0_0) (by decide) e3 0 3 rfl)) rfl ?_)))))))))))))
   obtain ⟨x4, e4, H1⟩ := bS H1
   refine oE (stpU_callF (vals := [_]) (ca := [_]) (fun i => 0 + i) cf114 (fun w hw => c_i_noteOf_1 fl w x3 q1_0 a1_0 (RO.pass hba1_0 hw) x4 e4) rfl (yA rfl)) rfl ?_
   rintro _ _ ⟨_, ⟨rfl, rfl⟩, rfl⟩
   refine nn (cw_cond rfl (fun h5 => ?_) (fun h5 => ?_))
   ·have H1 := cond_t H1 h5
    refine sr (oM rfl (oS rfl (nn (cw_ret (kw_bl_ret (kw_nx_ret (kw_lq_ret (kw_bl_ret (kw_join_ret (kw_nx_ret ?_))))))))))
    obtain rfl := sI H1
    obtain rfl := sI H0
    exact kr Tryd.results113 (rT rfl) [] ⟨rfl, rfl⟩
   have H1 := cond_f H1 h5
   obtain ⟨x6, e6, H1⟩ := bS H1
   exact cw_skip (kw_bl_normal (kw_nx (cw_region (oP e6 rfl (oM rfl (ow_nil (kw_lqS (js := []) (fuel, x6) H1 (Nat.lt_succ_self _) ⟨rfl, rfl, rfl, rfl, trivial⟩ trivial (by decide))))))))
  have H1 := cond_f H1 h2
  refine cw_exit (kw_nx_exit (kw_lq_exit (kw_bl ?_)))
  obtain rfl := sI H1
  exact kw_joinS (js := []) v1 rfl ⟨rfl, rfl, rfl, rfl, trivial⟩ trivial (by decide)
 rintro v1 rfl
 dsimp only
 refine kw_nx (sr (oS rfl (nn (cw_ret ?_))))
 obtain rfl := sI H0
 exact kr Tryd.results113 (rT rfl) [] ⟨rfl, rfl⟩

theorem c_i_noteOf (fl : Nat) (w : World) (a0 : (List Nt)) (a1 : K) (hn0_0 : n0_0 = (a0).length) (hr0_0 : RO w (hkeys []) (RdL p0_0 c0_0 a0)) (r : Int) (H0 : i_noteOf fl a0 a1 = some r) :
  Ct Tryd.prog 52 [.slice p0_0 n0_0 c0_0, .agg #[.int .i64 a1.s, .int .i64 a1.p]] w [] (fun rv h' => rv = .int .i64 r ∧ h' = []) := by
 subst hn0_0
 unfold i_noteOf at H0
 refine ct_of_cw Tryd.func52 rfl Tryd.ntmps52 rfl (Sat.refl _ _) ?_
 refine sr (oE (stpU_box 0 rfl rfl) rfl ?_)
 rintro _ _ ⟨b1, rfl, rfl⟩
 obtain ⟨x2, e2, H0⟩ := bS H0
 refine oS rfl (nn (sr (oM rfl (oD (stp_makeFunc (yA rfl)) rfl (oE (stpU_call (fun i => 1 + i) cf113 (fun w hw => c_slices_IndexFunc_Note_of_i_noteOf_1 fl w a0 b1 a1 rfl (RO.pass hr0_0 hw) (box_pass (id := 0) rfl hw) x2 e2) (yB rfl rfl)) rfl ?_)))))
 rintro _ _ ⟨_, ⟨rfl, rfl⟩, rfl⟩
 refine oS rfl (nn (cw_ret ?_))
 obtain rfl := sI H0
 exact kr Tryd.results52 (rT rfl) [] ⟨rfl, rfl⟩

theorem c_i_each (fl : Nat) (w : World) (a0 : (List Nt)) (hn0_0 : n0_0 = (a0).length) (hr0_0 : RO w (hkeys []) (RdL p0_0 c0_0 a0)) (r : Bool) (H0 : i_each fl a0 = some r) :
  Ct Tryd.prog 50 [.slice p0_0 n0_0 c0_0] w [] (fun rv h' => rv = .bool r ∧ h' = []) := by
 subst hn0_0
 unfold i_each at H0
 refine ct_of_cw Tryd.func50 rfl Tryd.ntmps50 rfl (Sat.refl _ _) ?_
 obtain ⟨o0_0, eo0_0, H0⟩ := bS H0
 refine sr (oS rfl (nn (cw_seq (sr (oM rfl (oD (stp_len Tryd.underlying42 rfl) rfl (oM rfl (nn (cw_join (ι := Int) (fun | v1 => o0_0 = .out v1) (fun | v1 => [(0, .slice p0_0 ((a0).length) c0_0), (5, .slice p0_0 ((a0).length) c0_0), (6, .int .i64 ((a0).length : Int)), (7, .int .i64 v1)]) (fun | v1 => []) ?_ ?_)))))))))
 ·refine cw_block (cw_loopS (ι := Nat × Int) (js := []) (fun x => x.1) (fun | (fuel, v1) => i_each_L0 fl a0 fuel v1 = some o0_0) (fun | (_, v1) => [(0, .slice p0_0 ((a0).length) c0_0), (5, .slice p0_0 ((a0).length) c0_0), (6, .int .i64 ((a0).length : Int)), (7, .int .i64 v1)]) (fun | (_, v1) => []) (fl, 0) eo0_0 ⟨rfl, rfl, rfl, rfl, trivial⟩ trivial (by decide) ?_)
  rintro ⟨fuel, v1⟩ H1
  have H1 : i_each_L0 fl a0 fuel v1 = some o0_0 := H1
  rcases fuel with _ | fuel
  ·rw [i_each_L0.eq_1] at H1; cases H1
  rw [i_each_L0.eq_2] at H1
  dsimp only
  refine sr (oW rfl (nn (cw_seq (cw_cond rfl (fun h2 => ?_) (fun h2 => ?_)))))
  ·have H1 := cond_t H1 h2
   obtain ⟨x3, e3, H1⟩ := bS H1
   refine cw_skip (kw_nx (cw_seq (cw_block (sr (oM rfl (oD (stp_indexAddr Tryd.underlying42 ts48 (by decide) rfl rfl rfl (Rdb.ro hr0_0) e3) rfl (oD (stp_loadN (us := [_, _, _]) ts48 rfl (Cells.el (Rdb.ro hr0_0) (by decide) e3 0 3 rfl)) rfl (oE (stpU_alloc 0 tz48 rfl) rfl ?_))))))))
   rintro _ _ ⟨b4, rfl, rfl⟩
   obtain ⟨x5, e5, H1⟩ := bS H1
   obtain ⟨y6, ey6, H1⟩ := bS H1
   refine oS rfl (oC3 0 ts48 rfl rfl (nn (cw_seq (cw_join (ι := Unit) (fun | _ => True) (fun | _ => [(0, .slice p0_0 ((a0).length) c0_0), (5, .slice p0_0 ((a0).length) c0_0), (6, .int .i64 ((a0).length : Int)), (7, .int .i64 v1), (24, .bool y6)]) (fun | _ => []) ?_ ?_))))
   ·rcases Bool.eq_false_or_eq_true (!x5) with hy6 | hy6
    ·have ey6 := cond_t ey6 hy6
     have qy6 := sI ey6
     refine rdq g_mixed [4] [0] { dst := dS [13, 14, 15, 16, 17, 18, 19, 20, 21, 22, 23, 24, 25], pre := gA [] [[], [0], [0, 1], [0, 1, 2], rn 0 4, rn 0 5, rn 0 5, rn 0 7, rn 0 5, [0, 1, 2, 3, 4, 8], rn 0 10, rn 0 11, rn 0 12], ids := fun _ => [], rs := rL [[(4, 0)], [(12, 1)], [(13, 2)], [(14, 3)], [(15, 4)], [(16, 5)], [(16, 5)], [(16, 5)], [(16, 5)], [(16, 5)], [(16, 5)], [(16, 5)], [(16, 5), (23, 12)]], rh := rL [[], [(0, 0)]], V := fun i g => gA undef [.pointer (some ⟨b4, 0, none⟩), .agg #[.int .i64 x3.k.s, .int .i64 x3.k.p], .bool x5, .bool (!x5), .bool (!x5), undef, undef, undef, undef, undef, undef, undef, .bool y6] i, U := fun _ _ => [], Φ := fun _ _ => True } ?_ ?_
     ·refine ⟨lc rfl rfl fun hs hh => stp_fieldAddr (j := 0) Tryd.underlying48 rfl ts46 rfl (sv hs 4 rfl) rfl, lc rfl rfl fun hs hh => stp_loadN (us := [_, _]) ts46 (sv hs 12 rfl) (Cells.box (id := 0) (hh.get 0 _ rfl) 2 rfl), ?_, lc rfl rfl fun hs hh => stp_not (sv hs 14 rfl), lM, lo rfl rfl 16 hy6, lo rfl rfl 16 hy6, lo rfl rfl 16 hy6, lo rfl rfl 16 hy6, lo rfl rfl 16 hy6, lo rfl rfl 16 hy6, lo rfl rfl 16 hy6, lc rfl rfl fun hs hh => stp_pick_tB (sv hs 16 rfl) hy6 rfl qy6, trivial⟩
      refine le rfl rfl (fun g hΦ s h hs hh => (stpU_call (fun i => 1 + i) cf59 (fun w hw => c_i_KeyValid fl w x3.k x5 e5) (yA (sv hs 13 rfl)))) ?_
      rintro g _ _ ⟨_, ⟨rfl, rfl⟩, rfl⟩
      exact ⟨⟨[], [], []⟩, trivial, .inr rfl, rfl⟩
     intro g hΦ
     exact kw_join () trivial ⟨rfl, rfl, rfl, rfl, rfl, trivial⟩ trivial
    have ey6 := cond_f ey6 hy6
    obtain ⟨x7, e7, ey6⟩ := bS ey6
    obtain ⟨x8, e8, ey6⟩ := bS ey6
    have qy6 := sI ey6
    refine rdq g_mixed [0, 3, 4] [0] { dst := dS [13, 14, 15, 16, 17, 18, 19, 20, 21, 22, 23, 24, 25], pre := gA [] [[], [0], [0, 1], [0, 1, 2], rn 0 4, rn 0 5, rn 0 5, rn 0 7, rn 0 5, [0, 1, 2, 3, 4, 8], rn 0 10, rn 0 11, rn 0 12], ids := fun _ => [], rs := rL [[(4, 0)], [(12, 1)], [(13, 2)], [(14, 3)], [(15, 4)], [(0, 0), (16, 5)], [(3, 0), (16, 5)], [(17, 6), (18, 7), (16, 5)], [(4, 0), (16, 5)], [(20, 9), (16, 5)], [(19, 8), (21, 10), (16, 5)], [(22, 11), (16, 5)], [(16, 5), (23, 12)]], rh := rL [[], [(0, 0)], [], [], [], [], [], [], [], [(0, 0)]], V := fun i g => gA undef [.pointer (some ⟨b4, 0, none⟩), .agg #[.int .i64 x3.k.s, .int .i64 x3.k.p], .bool x5, .bool (!x5), .bool (!x5), .slice p0_0 ((a0).length) c0_0, .int .i64 v1, .slice p0_0 ((x7).length) c0_0, .pointer (some ⟨b4, 0, none⟩), .agg #[.int .i64 x3.k.s, .int .i64 x3.k.p], .int .i64 x8, .bool (decide (0 ≤ x8)), .bool y6] i, U := fun _ _ => [], Φ := fun _ _ => True } ?_ ?_
    ·refine ⟨lc rfl rfl fun hs hh => stp_fieldAddr (j := 0) Tryd.underlying48 rfl ts46 rfl (sv hs 4 rfl) rfl, lc rfl rfl fun hs hh => stp_loadN (us := [_, _]) ts46 (sv hs 12 rfl) (Cells.box (id := 0) (hh.get 0 _ rfl) 2 rfl), ?_, lc rfl rfl fun hs hh => stp_not (sv hs 14 rfl), lM, lg rfl rfl 16 hy6 fun hs hh => stp_move (sv hs 0 rfl), lg rfl rfl 16 hy6 fun hs hh => stp_move (sv hs 3 rfl), lg rfl rfl 16 hy6 fun hs hh => stp_take Tryd.underlying42 ts48 (sv hs 17 rfl) rfl (sv hs 18 rfl) (Rdb.ro hr0_0) e7, lg rfl rfl 16 hy6 fun hs hh => stp_fieldAddr (j := 0) Tryd.underlying48 rfl ts46 rfl (sv hs 4 rfl) rfl, lg rfl rfl 16 hy6 fun hs hh => stp_loadN (us := [_, _]) ts46 (sv hs 20 rfl) (Cells.box (id := 0) (hh.get 0 _ rfl) 2 rfl), ?_, lg rfl rfl 16 hy6 fun hs hh => stp_geq (sv hs 22 rfl) rfl, lc rfl rfl fun hs hh => stp_pick_fB (sv hs 16 rfl) hy6 (sv hs 23 rfl) qy6, trivial⟩
     ·refine le rfl rfl (fun g hΦ s h hs hh => (stpU_call (fun i => 1 + i) cf59 (fun w hw => c_i_KeyValid fl w x3.k x5 e5) (yA (sv hs 13 rfl)))) ?_
      rintro g _ _ ⟨_, ⟨rfl, rfl⟩, rfl⟩
      exact ⟨⟨[], [], []⟩, trivial, .inr rfl, rfl⟩
     refine loc_eff rfl rfl (fun g hΦ s h hs hh => ⟨(.some (gval_of rfl (sv hs 16 rfl)) hy6), (stpU_call (fun i => 1 + i) cf52 (fun w hw => c_i_noteOf fl w x7 x3.k rfl (RO.pass (RO.take hr0_0 e7) hw) x8 e8) (yB (sv hs 19 rfl) (sv hs 21 rfl)))⟩) ?_
     rintro g _ _ ⟨_, ⟨rfl, rfl⟩, rfl⟩
     exact ⟨⟨[], [], []⟩, trivial, .inr rfl, rfl⟩
    intro g hΦ
    exact kw_join () trivial ⟨rfl, rfl, rfl, rfl, rfl, trivial⟩ trivial
   rintro _ -
   dsimp only
   refine kw_nx (cw_cond rfl (fun h9 => ?_) (fun h9 => ?_))
   ·have H1 := cond_t H1 h9
    refine sr (oS rfl (nn (cw_ret (kw_bl_ret (kw_nx_ret (kw_lq_ret (kw_bl_ret (kw_join_ret (kw_nx_ret ?_)))))))))
    obtain rfl := sI H1
    obtain rfl := sI H0
    exact kr Tryd.results50 (rT rfl) [] ⟨rfl, rfl⟩
   have H1 := cond_f H1 h9
   obtain ⟨x10, e10, H1⟩ := bS H1
   exact cw_skip (kw_bl_normal (kw_nx (cw_region (oP e10 rfl (oM rfl (ow_nil (kw_lqS (js := []) (fuel, x10) H1 (Nat.lt_succ_self _) ⟨rfl, rfl, rfl, rfl, trivial⟩ trivial (by decide))))))))
  have H1 := cond_f H1 h2
  refine cw_exit (kw_nx_exit (kw_lq_exit (kw_bl ?_)))
  obtain rfl := sI H1
  exact kw_joinS (js := []) v1 rfl ⟨rfl, rfl, rfl, rfl, trivial⟩ trivial (by decide)
 rintro v1 rfl
 dsimp only
 refine kw_nx (sr (oM rfl (oD (stp_len Tryd.underlying42 rfl) rfl (oV rfl (oS rfl (nn (cw_ret ?_)))))))
 obtain rfl := sI H0
 exact kr Tryd.results50 (rT rfl) [] ⟨rfl, rfl⟩

theorem c_i_Table_find_1 (fl : Nat) (w : World) (a0 : F) (qc0 : Nat) (ac0 : K) (hbac0 : RO w (hkeys []) (fun w' => w'.rangeAt qc0 0 [.int .i64 ac0.s, .int .i64 ac0.p])) (r : Bool) (H0 : i_Table_find_1 fl a0 ac0 = some r) :
  Ct Tryd.prog 112 [.agg #[.bool a0.u, .int .i64 a0.k.s, .int .i64 a0.k.p, .int .i64 a0.r, .int .i64 a0.nx], .pointer (some ⟨qc0, 0, none⟩)] w [] (fun rv h' => rv = .bool r ∧ h' = []) := by
 unfold i_Table_find_1 at H0
 refine ct_of_cw Tryd.func112 rfl Tryd.ntmps112 rfl (Sat.refl _ _) ?_
 refine sr (oE (stpU_box 0 rfl rfl) rfl ?_)
 rintro _ _ ⟨b1, rfl, rfl⟩
 obtain ⟨y2, ey2, H0⟩ := bS H0
 refine oS rfl (nn (sr (oA 0 Tryd.underlying84 rfl ts4 rfl (oL 0 ts4 rfl (oM rfl (ow_cutY 5 11 y2 ?_ ?_))))))
 ·rcases Bool.eq_false_or_eq_true a0.u with hy2 | hy2
  ·have ey2 := cond_t ey2 hy2
   refine oG rfl hy2 (fA 1 Tryd.underlying84 rfl ts46 rfl rfl rfl) rfl (oG rfl hy2 (stp_loadN (us := [_, _]) ts46 rfl (Cells.box (id := 0) rfl 2 rfl)) rfl (oG rfl hy2 (stp_loadN (us := [_, _]) ts46 rfl (Cells.ofRO hbac0 2 rfl)) rfl (oG rfl hy2 (stp_eqlS te46 a0.k ac0 rfl rfl) rfl (oD (stp_pick_t rfl hy2 rfl) rfl ?_))))
   obtain rfl := sI ey2
   exact ow_nil (jy 5 0)
  have ey2 := cond_f ey2 hy2
  refine oO rfl hy2 rfl (oO rfl hy2 rfl (oO rfl hy2 rfl (oO rfl hy2 rfl (oD (stp_pick_f rfl hy2 rfl) rfl ?_))))
  obtain rfl := sI ey2
  exact ow_nil (jy 5 0)
 refine oS rfl (nn (cw_ret ?_))
 obtain rfl := sI H0
 exact kr Tryd.results112 (rT rfl) [] ⟨rfl, rfl⟩

theorem c_slices_IndexFunc_Frame_of_i_Table_find_1 (fl : Nat) (w : World) (a0 : (List F)) (q1_0 : Nat) (a1_0 : K) (hn0_0 : n0_0 = (a0).length) (hr0_0 : RO w (hkeys []) (RdL p0_0 c0_0 a0)) (hba1_0 : RO w (hkeys []) (fun w' => w'.rangeAt q1_0 0 [.int .i64 a1_0.s, .int .i64 a1_0.p])) (r : Int) (H0 : slices_IndexFunc_Frame_of_i_Table_find_1 fl a0 a1_0 = some r) :
  Ct Tryd.prog 111 [.slice p0_0 n0_0 c0_0, .func (.func 112) #[] #[.pointer (some ⟨q1_0, 0, none⟩)]] w [] (fun rv h' => rv = .int .i64 r ∧ h' = []) := by
 subst hn0_0
 unfold slices_IndexFunc_Frame_of_i_Table_find_1 at H0
 refine ct_of_cw Tryd.func111 rfl Tryd.ntmps111 rfl (Sat.refl _ _) ?_
 obtain ⟨o0_0, eo0_0, H0⟩ := bS H0
 refine sr (oS rfl (nn (cw_seq (sr (oM rfl (oD (stp_len Tryd.underlying31 rfl) rfl (oM rfl (nn (cw_join (ι := Int) (fun | v1 => o0_0 = .out v1) (fun | v1 => [(0, .slice p0_0 ((a0).length) c0_0), (1, .func (.func 112) #[] #[.pointer (some ⟨q1_0, 0, none⟩)]), (7, .int .i64 ((a0).length : Int)), (8, .int .i64 v1)]) (fun | v1 => []) ?_ ?_)))))))))
 ·refine cw_block (cw_loopS (ι := Nat × Int) (js := []) (fun x => x.1) (fun | (fuel, v1) => slices_IndexFunc_Frame_of_i_Table_find_1_L0 fl a0 a1_0 fuel v1 = some o0_0) (fun | (_, v1) => [(0, .slice p0_0 ((a0).length) c0_0), (1, .func (.func 112) #[] #[.pointer (some ⟨q1_0, 0, none⟩)]), (7, .int .i64 ((a0).length : Int)), (8, .int .i64 v1)]) (fun | (_, v1) => []) (fl, 0) eo0_0 ⟨rfl, rfl, rfl, rfl, trivial⟩ trivial (by decide) ?_)
  rintro ⟨fuel, v1⟩ H1
  have H1 : slices_IndexFunc_Frame_of_i_Table_find_1_L0 fl a0 a1_0 fuel v1 = some o0_0 := H1
  rcases fuel with _ | fuel
  ·rw [slices_IndexFunc_Frame_of_i_Table_find_1_L0.eq_1] at H1; cases H1
  rw [slices_IndexFunc_Frame_of_i_Table_find_1_L0.eq_2] at H1
  dsimp only
  refine sr (oW rfl (nn (cw_seq (cw_cond rfl (fun h2 => ?_) (fun h2 => ?_)))))
  ·have H1 := cond_t H1 h2
   obtain ⟨x3, e3, H1⟩ := bS H1
   refine cw_skip (kw_nx (cw_seq (cw_block (sr (oM rfl (oS rfl (nn (sr (oM rfl (oM rfl (oM rfl (oD (stp_indexAddr Tryd.underlying31 ts84 (by decide) rfl rfl rfl (Rdb.ro hr0_0) e3) rfl (oD (stp_loadN (us := [_, _, _, _, _]) ts84 rfl (Cells.el (Rdb.ro hr0_0) (by decide) e3 0 5 rfl)) rfl ?_)))))))))))))
   obtain ⟨x4, e4, H1⟩ := bS H1
   refine oE (stpU_callF (vals := [_]) (ca := [_]) (fun i => 0 + i) cf112 (fun w hw => c_i_Table_find_1 fl w x3 q1_0 a1_0 (RO.pass hba1_0 hw) x4 e4) rfl (yA rfl)) rfl ?_
   rintro _ _ ⟨_, ⟨rfl, rfl⟩, rfl⟩
   refine nn (cw_cond rfl (fun h5 => ?_) (fun h5 => ?_))
   ·have H1 := cond_t H1 h5
    refine sr (oM rfl (oS rfl (nn (cw_ret (kw_bl_ret (kw_nx_ret (kw_lq_ret (kw_bl_ret (kw_join_ret (kw_nx_ret ?_))))))))))
    obtain rfl := sI H1
    obtain rfl := sI H0
    exact kr Tryd.results111 (rT rfl) [] ⟨rfl, rfl⟩
   have H1 := cond_f H1 h5
   obtain ⟨x6, e6, H1⟩ := bS H1
   exact cw_skip (kw_bl_normal (kw_nx (cw_region (oP e6 rfl (oM rfl (ow_nil (kw_lqS (js := []) (fuel, x6) H1 (Nat.lt_succ_self _) ⟨rfl, rfl, rfl, rfl, trivial⟩ trivial (by decide))))))))
  have H1 := cond_f H1 h2
  refine cw_exit (kw_nx_exit (kw_lq_exit (kw_bl ?_)))
  obtain rfl := sI H1
  exact kw_joinS (js := []) v1 rfl ⟨rfl, rfl, rfl, rfl, trivial⟩ trivial (by decide)
 rintro v1 rfl
 dsimp only
 refine kw_nx (sr (oS rfl (nn (cw_ret ?_))))
 obtain rfl := sI H0
 exact kr Tryd.results111 (rT rfl) [] ⟨rfl, rfl⟩

theorem c_i_Table_find (fl : Nat) (w : World) (a0 : T) (a1 : K) (hn0_0 : n0_0 = (a0.b).length) (hr0_0 : RO w (hkeys []) (RdL p0_0 c0_0 a0.b)) (hn0_1 : n0_1 = (a0.f).length) (hr0_1 : RO w (hkeys []) (RdL p0_1 c0_1 a0.f)) (r : Int) (H0 : i_Table_find fl a0 a1 = some r) :
  Ct Tryd.prog 51 [.agg #[.slice p0_0 n0_0 c0_0, .slice p0_1 n0_1 c0_1], .agg #[.int .i64 a1.s, .int .i64 a1.p]] w [] (fun rv h' => rv = .int .i64 r ∧ h' = []) := by
 subst hn0_0 hn0_1
 unfold i_Table_find at H0
 refine ct_of_cw Tryd.func51 rfl Tryd.ntmps51 rfl (Sat.refl _ _) ?_
 refine sr (oE (stpU_box 0 rfl rfl) rfl ?_)
 rintro _ _ ⟨b1, rfl, rfl⟩
 refine oE (stpU_box 1 rfl rfl) rfl ?_
 rintro _ _ ⟨b2, rfl, rfl⟩
 obtain ⟨x3, e3, H0⟩ := bS H0
 refine oS rfl (nn (sr (oA 1 Tryd.underlying33 rfl ts31 rfl (oL 0 ts31 rfl (oD (stp_makeFunc (yA rfl)) rfl (oE (stpU_call (fun i => 2 + i) cf111 (fun w hw => c_slices_IndexFunc_Frame_of_i_Table_find_1 fl w a0.f b2 a1 rfl (RO.pass hr0_1 hw) (box_pass (id := 1) rfl hw) x3 e3) (yB rfl rfl)) rfl ?_))))))
 rintro _ _ ⟨_, ⟨rfl, rfl⟩, rfl⟩
 refine oS rfl (nn (cw_ret ?_))
 obtain rfl := sI H0
 exact kr Tryd.results51 (rT rfl) [] ⟨rfl, rfl⟩

theorem c_i_SystemValid (fl : Nat) (w : World) (a0 : Sy) (hn0_0 : n0_0 = (a0.t.b).length) (hr0_0 : RO w (hkeys []) (RdL p0_0 c0_0 a0.t.b)) (hn0_1 : n0_1 = (a0.t.f).length) (hr0_1 : RO w (hkeys []) (RdL p0_1 c0_1 a0.t.f)) (hn0_2 : n0_2 = (a0.c).length) (hr0_2 : ROD w (hkeys []) p0_2 c0_2 a0.c) (hg : RO w (hkeys []) (fun w' => w'.rangeAt 0 0 [.bool false, .int .i64 0, .int .i64 0, .int .i64 0, .int .i64 (-1)])) (r : Bool) (H0 : i_SystemValid fl a0 = some r) :
  Ct Tryd.prog 18 [.agg #[.slice p0_0 n0_0 c0_0, .slice p0_1 n0_1 c0_1, .slice p0_2 n0_2 c0_2]] w [] (fun rv h' => rv = .bool r ∧ h' = []) := by
 subst hn0_0 hn0_1 hn0_2
 unfold i_SystemValid at H0
 refine ct_of_cw Tryd.func18 rfl Tryd.ntmps18 rfl (Sat.refl _ _) ?_
 refine sr (oE (stpU_box 0 rfl rfl) rfl ?_)
 rintro _ _ ⟨b1, rfl, rfl⟩
 obtain ⟨x2, e2, H0⟩ := bS H0
 refine oS rfl (nn (cw_seq (sr (oA 0 Tryd.underlying36 rfl ts33 rfl (oB2 0 ts33 rfl (oE (stpU_call (fun i => 1 + i) cf49 (fun w hw => c_i_TableValid fl w a0.t rfl (RO.pass hr0_0 hw) rfl (RO.pass hr0_1 hw) (RO.pass hg hw) x2 e2) (yA rfl)) rfl ?_))))))
 rintro _ _ ⟨_, ⟨rfl, rfl⟩, rfl⟩
 obtain ⟨y3, ey3, H0⟩ := bS H0
 refine oK rfl (oM rfl (ow_cutY 5 20 y3 ?_ ?_))
 ·rcases Bool.eq_false_or_eq_true (!x2) with hy3 | hy3
  ·have ey3 := cond_t ey3 hy3
   refine oO rfl hy3 rfl (oO rfl hy3 rfl (oO rfl hy3 rfl (oO rfl hy3 rfl (oD (stp_pick_t rfl hy3 rfl) rfl ?_))))
   obtain rfl := sI ey3
   exact ow_nil (jy 5 0)
  have ey3 := cond_f ey3 hy3
  refine oG rfl hy3 (fA 2 Tryd.underlying36 rfl ts34 rfl rfl rfl) rfl (oG rfl hy3 (lB 0 ts34 rfl rfl rfl) rfl (oG rfl hy3 (stp_len Tryd.underlying34 rfl) rfl (oG rfl hy3 (stp_lss rfl rfl) rfl (oD (stp_pick_f rfl hy3 rfl) rfl ?_))))
  obtain rfl := sI ey3
  exact ow_nil (jy 5 0)
 obtain ⟨y4, ey4, H0⟩ := bS H0
 refine oM rfl (ow_cutY 5 26 y4 ?_ ?_)
 ·rcases Bool.eq_false_or_eq_true y3 with hy4 | hy4
  ·have ey4 := cond_t ey4 hy4
   refine oO rfl hy4 rfl (oO rfl hy4 rfl (oO rfl hy4 rfl (oO rfl hy4 rfl (oD (stp_pick_t rfl hy4 rfl) rfl ?_))))
   obtain rfl := sI ey4
   exact ow_nil (jy 5 0)
  have ey4 := cond_f ey4 hy4
  refine oG rfl hy4 (fA 2 Tryd.underlying36 rfl ts34 rfl rfl rfl) rfl (oG rfl hy4 (lB 0 ts34 rfl rfl rfl) rfl (oG rfl hy4 (stp_len Tryd.underlying34 rfl) rfl (oG rfl hy4 (stp_gtr rfl rfl) rfl (oD (stp_pick_f rfl hy4 rfl) rfl ?_))))
  obtain rfl := sI ey4
  exact ow_nil (jy 5 0)
 refine ow_nil (kw_nx (cw_cond rfl (fun h5 => ?_) (fun h5 => ?_)))
 ·have H0 := cond_t H0 h5
  refine sr (oS rfl (nn (cw_ret (kw_nx_ret ?_))))
  obtain rfl := sI H0
  exact kr Tryd.results18 (rT rfl) [] ⟨rfl, rfl⟩
 have H0 := cond_f H0 h5
 obtain ⟨o0_0, eo0_0, H0⟩ := bS H0
 refine cw_skip (kw_nx (cw_seq (sr (oA 2 Tryd.underlying36 rfl ts34 rfl (oL 0 ts34 rfl (oD (stp_len Tryd.underlying34 rfl) rfl (oM rfl (nn (cw_join (ι := Int) (fun | v6 => o0_0 = .out v6) (fun | v6 => [(1, .pointer (some ⟨b1, 0, none⟩)), (28, .slice p0_2 ((a0.c).length) c0_2), (29, .int .i64 ((a0.c).length : Int)), (30, .int .i64 v6)]) (fun | v6 => [(0, [(b1, .cells #[.slice p0_0 ((a0.t.b).length) c0_0, .slice p0_1 ((a0.t.f).length) c0_1, .slice p0_2 ((a0.c).length) c0_2] 36 (0, 0))])]) ?_ ?_)))))))))
 ·refine cw_block (cw_loopS (ι := Nat × Int) (js := [0]) (fun x => x.1) (fun | (fuel, v6) => i_SystemValid_L0 fl a0 fuel v6 = some o0_0) (fun | (_, v6) => [(1, .pointer (some ⟨b1, 0, none⟩)), (28, .slice p0_2 ((a0.c).length) c0_2), (29, .int .i64 ((a0.c).length : Int)), (30, .int .i64 v6)]) (fun | (_, v6) => [(0, [(b1, .cells #[.slice p0_0 ((a0.t.b).length) c0_0, .slice p0_1 ((a0.t.f).length) c0_1, .slice p0_2 ((a0.c).length) c0_2] 36 (0, 0))])]) (fl, 0) eo0_0 ⟨rfl, rfl, rfl, rfl, trivial⟩ ⟨0, [], rfl, rfl, trivial⟩ (by decide) ?_)
  rintro ⟨fuel, v6⟩ H1
  have H1 : i_SystemValid_L0 fl a0 fuel v6 = some o0_0 := H1
  rcases fuel with _ | fuel
  ·rw [i_SystemValid_L0.eq_1] at H1; cases H1
  rw [i_SystemValid_L0.eq_2] at H1
  dsimp only
  refine sr (oW rfl (nn (cw_seq (cw_cond rfl (fun h7 => ?_) (fun h7 => ?_)))))
  ·have H1 := cond_t H1 h7
   obtain ⟨x8, e8, H1⟩ := bS H1
   refine cw_skip (kw_nx (cw_seq (cw_block (sr ?_))))
   obtain ⟨u9, p10, n11, c12, p13, n14, c15, hw9, hl9, hx9, rfl, hr9, rfl, hs9⟩ := ROD.get hr0_2 e8
   refine oD (stp_indexAddr Tryd.underlying34 ts44 (by decide) rfl hl9 rfl (Rdb.ro hw9) hx9) rfl (oD (stp_loadN (us := [_, _]) ts44 rfl (Cells.el (Rdb.ro hw9) (by decide) hx9 0 2 rfl)) rfl (oE (stpU_alloc 1 tz44 rfl) rfl ?_))
   rintro _ _ ⟨b16, rfl, rfl⟩
   obtain ⟨x17, e17, H1⟩ := bS H1
   refine oC2 1 ts44 rfl rfl (nn (cw_seq (sr (oA 0 Tryd.underlying44 rfl ts42 rfl (oL 1 ts42 rfl (oE (stpU_call (fun i => 2 + i) cf50 (fun w hw => c_i_each fl w x8.n rfl (RO.pass hr9 hw) x17 e17) (yA rfl)) rfl ?_))))))
   rintro _ _ ⟨_, ⟨rfl, rfl⟩, rfl⟩
   obtain ⟨y18, ey18, H1⟩ := bS H1
   refine oK rfl (oM rfl (ow_cutY 5 43 y18 ?_ ?_))
   ·rcases Bool.eq_false_or_eq_true (!x17) with hy18 | hy18
    ·have ey18 := cond_t ey18 hy18
     refine oO rfl hy18 rfl (oO rfl hy18 rfl (oO rfl hy18 rfl (oO rfl hy18 rfl (oD (stp_pick_t rfl hy18 rfl) rfl ?_))))
     obtain rfl := sI ey18
     exact ow_nil (jy 5 0)
    have ey18 := cond_f ey18 hy18
    obtain ⟨x19, e19, ey18⟩ := bS ey18
    refine oG rfl hy18 (fA 1 Tryd.underlying44 rfl ts42 rfl rfl rfl) rfl (oG rfl hy18 (lB 1 ts42 rfl rfl rfl) rfl (ow_eff (.some rfl hy18) (stpU_call (fun i => 2 + i) cf50 (fun w hw => c_i_each fl w x8.w rfl (RO.pass hs9 hw) x19 e19) (yA rfl)) rfl ?_))
    rintro _ _ ⟨_, ⟨rfl, rfl⟩, rfl⟩
    refine oG rfl hy18 (stp_not rfl) rfl (oD (stp_pick_f rfl hy18 rfl) rfl ?_)
    obtain rfl := sI ey18
    exact ow_nil (jy 5 0)
   refine ow_nil (kw_nx (cw_cond rfl (fun h20 => ?_) (fun h20 => ?_)))
   ·have H1 := cond_t H1 h20
    refine sr (oS rfl (nn (cw_ret (kw_nx_ret (kw_bl_ret (kw_nx_ret (kw_lq_ret (kw_bl_ret (kw_join_ret (kw_nx_ret ?_))))))))))
    obtain rfl := sI H1
    obtain rfl := sI H0
    exact kr Tryd.results18 (rT rfl) [] ⟨rfl, rfl⟩
   have H1 := cond_f H1 h20
   obtain ⟨o1_1, eo1_1, H1⟩ := bS H1
   refine cw_skip (kw_nx (cw_seq (sr (oA 0 Tryd.underlying44 rfl ts42 rfl (oL 1 ts42 rfl (oD (stp_len Tryd.underlying42 rfl) rfl (oM rfl (nn (cw_join (ι := Int) (fun | v21 => o1_1 = .out v21) (fun | v21 => [(1, .pointer (some ⟨b1, 0, none⟩)), (4, .pointer (some ⟨b16, 0, none⟩)), (28, .slice p0_2 ((a0.c).length) c0_2), (29, .int .i64 ((a0.c).length : Int)), (30, .int .i64 v6), (45, .slice p10 ((x8.n).length) c12), (46, .int .i64 ((x8.n).length : Int)), (47, .int .i64 v21)]) (fun | v21 => [(0, [(b1, .cells #[.slice p0_0 ((a0.t.b).length) c0_0, .slice p0_1 ((a0.t.f).length) c0_1, .slice p0_2 ((a0.c).length) c0_2] 36 (0, 0))]), (1, [(b16, .cells #[.slice p10 ((x8.n).length) c12, .slice p13 ((x8.w).length) c15] 44 (0, 0))])]) ?_ ?_)))))))))
   ·refine cw_block (cw_loopS (ι := Nat × Int) (js := [0, 1]) (fun x => x.1) (fun | (fuel, v21) => i_SystemValid_L1 fl a0 x8 fuel v21 = some o1_1) (fun | (_, v21) => [(1, .pointer (some ⟨b1, 0, none⟩)), (4, .pointer (some ⟨b16, 0, none⟩)), (28, .slice p0_2 ((a0.c).length) c0_2), (29, .int .i64 ((a0.c).length : Int)), (30, .int .i64 v6), (45, .slice p10 ((x8.n).length) c12), (46, .int .i64 ((x8.n).length : Int)), (47, .int .i64 v21)]) (fun | (_, v21) => [(0, [(b1, .cells #[.slice p0_0 ((a0.t.b).length) c0_0, .slice p0_1 ((a0.t.f).length) c0_1, .slice p0_2 ((a0.c).length) c0_2] 36 (0, 0))]), (1, [(b16, .cells #[.slice p10 ((x8.n).length) c12, .slice p13 ((x8.w).length) c15] 44 (0, 0))])]) (fl, 0) eo1_1 ⟨rfl, rfl, rfl, rfl, rfl, rfl, rfl, rfl, trivial⟩ ⟨0, [1], rfl, rfl, 1, [], rfl, rfl, trivial⟩ (by decide) ?_)
    rintro ⟨fuel, v21⟩ H2
    have H2 : i_SystemValid_L1 fl a0 x8 fuel v21 = some o1_1 := H2
    rcases fuel with _ | fuel
    ·rw [i_SystemValid_L1.eq_1] at H2; cases H2
    rw [i_SystemValid_L1.eq_2] at H2
    dsimp only
    refine sr (oW rfl (nn (cw_seq (cw_cond rfl (fun h22 => ?_) (fun h22 => ?_)))))
    ·have H2 := cond_t H2 h22
     obtain ⟨x23, e23, H2⟩ := bS H2
     refine cw_skip (kw_nx (cw_seq (cw_block (sr (oD (stp_indexAddr Tryd.underlying42 ts48 (by decide) rfl rfl rfl (Rdb.ro hr9) e23) rfl (oD (stp_loadN (us := [_, _, _]) ts48 rfl (Cells.el (Rdb.ro hr9) (by decide) e23 0 3 rfl)) rfl (oE (stpU_alloc 2 tz48 rfl) rfl ?_)))))))
     rintro _ _ ⟨b24, rfl, rfl⟩
     obtain ⟨x25, e25, H2⟩ := bS H2
     refine oC3 2 ts48 rfl rfl (nn (sr (oA 0 Tryd.underlying36 rfl ts33 rfl (oB2 0 ts33 rfl (oA 0 Tryd.underlying48 rfl ts46 rfl (oB2 2 ts46 rfl (oE (stpU_call (fun i => 3 + i) cf51 (fun w hw => c_i_Table_find fl w a0.t x23.k rfl (RO.pass hr0_0 hw) rfl (RO.pass hr0_1 hw) x25 e25) (yB rfl rfl)) rfl ?_)))))))
     rintro _ _ ⟨_, ⟨rfl, rfl⟩, rfl⟩
     obtain ⟨x26, e26, H2⟩ := bS H2
     refine oS rfl (nn (sr (oA 1 Tryd.underlying44 rfl ts42 rfl (oL 1 ts42 rfl (oA 0 Tryd.underlying48 rfl ts46 rfl (oB2 2 ts46 rfl (oE (stpU_call (fun i => 3 + i) cf52 (fun w hw => c_i_noteOf fl w x8.w x23.k rfl (RO.pass hs9 hw) x26 e26) (yB rfl rfl)) rfl ?_)))))))
     rintro _ _ ⟨_, ⟨rfl, rfl⟩, rfl⟩
     refine oS rfl (nn (sr (oM rfl (oI rfl (nn (cw_cond rfl (fun h27 => ?_) (fun h27 => ?_)))))))
     ·have H2 := cond_t H2 h27
      obtain ⟨x28, e28, H2⟩ := bS H2
      obtain ⟨y29, ey29, H2⟩ := bS H2
      refine cw_seq (cw_join (ι := Unit) (fun | _ => True) (fun | _ => [(1, .pointer (some ⟨b1, 0, none⟩)), (4, .pointer (some ⟨b16, 0, none⟩)), (28, .slice p0_2 ((a0.c).length) c0_2), (29, .int .i64 ((a0.c).length : Int)), (30, .int .i64 v6), (45, .slice p10 ((x8.n).length) c12), (46, .int .i64 ((x8.n).length : Int)), (47, .int .i64 v21), (73, .bool y29)]) (fun | _ => [(0, [(b1, .cells #[.slice p0_0 ((a0.t.b).length) c0_0, .slice p0_1 ((a0.t.f).length) c0_1, .slice p0_2 ((a0.c).length) c0_2] 36 (0, 0))]), (1, [(b16, .cells #[.slice p10 ((x8.n).length) c12, .slice p13 ((x8.w).length) c15] 44 (0, 0))])]) ?_ ?_)
      ·rcases Bool.eq_false_or_eq_true (x28 != x23) with hy29 | hy29
       ·have ey29 := cond_t ey29 hy29
        have qy29 := sI ey29
        refine rdq g_mixed [4, 6, 8] [1, 2] { dst := dS [64, 65, 66, 67, 68, 69, 70, 71, 72, 73, 74], pre := gA [] [[], [0], [], [0, 1, 2], rn 0 4, [], rn 0 6, rn 0 7, rn 0 8, rn 0 9, rn 0 10], ids := fun _ => [], rs := rL [[(4, 0)], [(63, 1)], [(8, 0)], [(64, 2), (65, 3)], [(66, 4)], [(6, 0)], [(67, 5), (68, 6)], [(69, 7)], [(70, 8)], [(70, 8)], [(70, 8), (72, 10)]], rh := rL [[], [(1, 0)], [], [], [], [(2, 0)]], V := fun i g => gA undef [.pointer (some ⟨b16, 1, none⟩), .slice p13 ((x8.w).length) c15, .int .i64 x26, .pointer (some ⟨eB p13, eO p13 + Int.toNat x26 * Enc.sz Nt + 0, none⟩), .agg #[.int .i64 x28.k.s, .int .i64 x28.k.p, .int .i64 x28.fr], .agg #[.int .i64 x23.k.s, .int .i64 x23.k.p, .int .i64 x23.fr], .bool (x28 != x23), .bool (x28 != x23), undef, undef, .bool y29] i, U := fun _ _ => [], Φ := fun _ _ => True } ?_ ?_
        ·exact ⟨lc rfl rfl fun hs hh => stp_fieldAddr (j := 1) Tryd.underlying44 rfl ts42 rfl (sv hs 4 rfl) rfl, lc rfl rfl fun hs hh => stp_load1 ts42 (sv hs 63 rfl) (Cells.box (id := 1) (hh.get 1 _ rfl) 1 rfl), lM, lc rfl rfl fun hs hh => stp_indexAddr Tryd.underlying42 ts48 (by decide) (sv hs 64 rfl) rfl (sv hs 65 rfl) (Rdb.ro hs9) e28, lc rfl rfl fun hs hh => stp_loadN (us := [_, _, _]) ts48 (sv hs 66 rfl) (Cells.el (Rdb.ro hs9) (by decide) e28 0 3 rfl), lc rfl rfl fun hs hh => stp_loadN (us := [_, _, _]) ts48 (sv hs 6 rfl) (Cells.box (id := 2) (hh.get 2 _ rfl) 3 rfl), lc rfl rfl fun hs hh => stp_neqS te48 x28 x23 (sv hs 67 rfl) (sv hs 68 rfl), lM, lo rfl rfl 70 hy29, lo rfl rfl 70 hy29, lc rfl rfl fun hs hh => stp_pick_tB (sv hs 70 rfl) hy29 rfl qy29, trivial⟩
        intro g hΦ
        exact kw_join () trivial ⟨rfl, rfl, rfl, rfl, rfl, rfl, rfl, rfl, rfl, trivial⟩ ⟨rfl, rfl, trivial⟩
       have ey29 := cond_f ey29 hy29
       have qy29 := sI ey29
       refine rdq g_mixed [4, 6, 7, 8] [1, 2] { dst := dS [64, 65, 66, 67, 68, 69, 70, 71, 72, 73, 74], pre := gA [] [[], [0], [], [0, 1, 2], rn 0 4, [], rn 0 6, rn 0 7, rn 0 8, rn 0 9, rn 0 10], ids := fun _ => [], rs := rL [[(4, 0)], [(63, 1)], [(8, 0)], [(64, 2), (65, 3)], [(66, 4)], [(6, 0)], [(67, 5), (68, 6)], [(69, 7)], [(7, 0), (70, 8)], [(71, 9), (70, 8)], [(70, 8), (72, 10)]], rh := rL [[], [(1, 0)], [], [], [], [(2, 0)]], V := fun i g => gA undef [.pointer (some ⟨b16, 1, none⟩), .slice p13 ((x8.w).length) c15, .int .i64 x26, .pointer (some ⟨eB p13, eO p13 + Int.toNat x26 * Enc.sz Nt + 0, none⟩), .agg #[.int .i64 x28.k.s, .int .i64 x28.k.p, .int .i64 x28.fr], .agg #[.int .i64 x23.k.s, .int .i64 x23.k.p, .int .i64 x23.fr], .bool (x28 != x23), .bool (x28 != x23), .int .i64 x25, .bool (decide (0 ≤ x25)), .bool y29] i, U := fun _ _ => [], Φ := fun _ _ => True } ?_ ?_
       ·exact ⟨lc rfl rfl fun hs hh => stp_fieldAddr (j := 1) Tryd.underlying44 rfl ts42 rfl (sv hs 4 rfl) rfl, lc rfl rfl fun hs hh => stp_load1 ts42 (sv hs 63 rfl) (Cells.box (id := 1) (hh.get 1 _ rfl) 1 rfl), lM, lc rfl rfl fun hs hh => stp_indexAddr Tryd.underlying42 ts48 (by decide) (sv hs 64 rfl) rfl (sv hs 65 rfl) (Rdb.ro hs9) e28, lc rfl rfl fun hs hh => stp_loadN (us := [_, _, _]) ts48 (sv hs 66 rfl) (Cells.el (Rdb.ro hs9) (by decide) e28 0 3 rfl), lc rfl rfl fun hs hh => stp_loadN (us := [_, _, _]) ts48 (sv hs 6 rfl) (Cells.box (id := 2) (hh.get 2 _ rfl) 3 rfl), lc rfl rfl fun hs hh => stp_neqS te48 x28 x23 (sv hs 67 rfl) (sv hs 68 rfl), lM, lg rfl rfl 70 hy29 fun hs hh => stp_move (sv hs 7 rfl), lg rfl rfl 70 hy29 fun hs hh => stp_geq (sv hs 71 rfl) rfl, lc rfl rfl fun hs hh => stp_pick_fB (sv hs 70 rfl) hy29 (sv hs 72 rfl) qy29, trivial⟩
       intro g hΦ
       exact kw_join () trivial ⟨rfl, rfl, rfl, rfl, rfl, rfl, rfl, rfl, rfl, trivial⟩ ⟨rfl, rfl, trivial⟩
      rintro _ -
      dsimp only
      refine kw_nx (cw_cond rfl (fun h30 => ?_) (fun h30 => ?_))
      ·have H2 := cond_t H2 h30
       refine sr (oS rfl (nn (cw_ret (kw_bl_ret (kw_nx_ret (kw_lq_ret (kw_bl_ret (kw_join_ret (kw_nx_ret (kw_bl_ret (kw_nx_ret (kw_lq_ret (kw_bl_ret ?_)))))))))))))
       refine kw_join_ret (kw_nx_ret ?_)
       obtain rfl := sI H2
       obtain rfl := sI H1
       obtain rfl := sI H0
       exact kr Tryd.results18 (rT rfl) [] ⟨rfl, rfl⟩
      have H2 := cond_f H2 h30
      obtain ⟨x31, e31, H2⟩ := bS H2
      exact cw_skip (kw_bl_normal (kw_nx (cw_region (oP e31 rfl (oM rfl (ow_nil (kw_lqS (js := [0, 1]) (fuel, x31) H2 (Nat.lt_succ_self _) ⟨rfl, rfl, rfl, rfl, rfl, rfl, rfl, rfl, trivial⟩ ⟨0, [1], rfl, rfl, 1, [], rfl, rfl, trivial⟩ (by decide))))))))
     have H2 := cond_f H2 h27
     obtain ⟨y32, ey32, H2⟩ := bS H2
     refine sr (oM rfl (oW rfl (oM rfl (ow_cutY 5 81 y32 ?_ ?_))))
     ·rcases Bool.eq_false_or_eq_true (decide (x25 < 0)) with hy32 | hy32
      ·have ey32 := cond_t ey32 hy32
       refine oO rfl hy32 rfl (oO rfl hy32 rfl (oO rfl hy32 rfl (oO rfl hy32 rfl (oD (stp_pick_t rfl hy32 rfl) rfl ?_))))
       obtain rfl := sI ey32
       exact ow_nil (jy 5 0)
      have ey32 := cond_f ey32 hy32
      refine oG rfl hy32 (mv rfl) rfl (oG rfl hy32 (fA 2 Tryd.underlying48 rfl ts3 rfl rfl rfl) rfl (oG rfl hy32 (lB 2 ts3 rfl rfl rfl) rfl (oG rfl hy32 (stp_neq rfl rfl) rfl (oD (stp_pick_f rfl hy32 rfl) rfl ?_))))
      obtain rfl := sI ey32
      exact ow_nil (jy 5 0)
     refine ow_nil (kw_nx (cw_cond rfl (fun h33 => ?_) (fun h33 => ?_)))
     ·have H2 := cond_t H2 h33
      refine sr (oS rfl (nn (cw_ret (kw_bl_ret (kw_nx_ret (kw_lq_ret (kw_bl_ret (kw_join_ret (kw_nx_ret (kw_bl_ret (kw_nx_ret (kw_lq_ret (kw_bl_ret ?_)))))))))))))
      refine kw_join_ret (kw_nx_ret ?_)
      obtain rfl := sI H2
      obtain rfl := sI H1
      obtain rfl := sI H0
      exact kr Tryd.results18 (rT rfl) [] ⟨rfl, rfl⟩
     have H2 := cond_f H2 h33
     obtain ⟨x34, e34, H2⟩ := bS H2
     exact cw_skip (kw_bl_normal (kw_nx (cw_region (oP e34 rfl (oM rfl (ow_nil (kw_lqS (js := [0, 1]) (fuel, x34) H2 (Nat.lt_succ_self _) ⟨rfl, rfl, rfl, rfl, rfl, rfl, rfl, rfl, trivial⟩ ⟨0, [1], rfl, rfl, 1, [], rfl, rfl, trivial⟩ (by decide))))))))
    have H2 := cond_f H2 h22
    refine cw_exit (kw_nx_exit (kw_lq_exit (kw_bl ?_)))
    obtain rfl := sI H2
    exact kw_joinS (js := [0, 1]) v21 rfl ⟨rfl, rfl, rfl, rfl, rfl, rfl, rfl, rfl, trivial⟩ ⟨0, [1], rfl, rfl, 1, [], rfl, rfl, trivial⟩ (by decide)
   rintro v21 rfl
   dsimp only
   obtain ⟨o1_2, eo1_2, H1⟩ := bS H1
   refine kw_nx (sr (oA 1 Tryd.underlying44 rfl ts42 rfl (oL 1 ts42 rfl (oD (stp_len Tryd.underlying42 rfl) rfl (oM rfl (nn (cw_join (ι := Int) (fun | v35 => o1_2 = .out v35) (fun | v35 => [(1, .pointer (some ⟨b1, 0, none⟩)), (4, .pointer (some ⟨b16, 0, none⟩)), (28, .slice p0_2 ((a0.c).length) c0_2), (29, .int .i64 ((a0.c).length : Int)), (30, .int .i64 v6), (84, .slice p13 ((x8.w).length) c15), (85, .int .i64 ((x8.w).length : Int)), (86, .int .i64 v35)]) (fun | v35 => [(0, [(b1, .cells #[.slice p0_0 ((a0.t.b).length) c0_0, .slice p0_1 ((a0.t.f).length) c0_1, .slice p0_2 ((a0.c).length) c0_2] 36 (0, 0))]), (1, [(b16, .cells #[.slice p10 ((x8.n).length) c12, .slice p13 ((x8.w).length) c15] 44 (0, 0))])]) ?_ ?_)))))))
   ·refine cw_block (cw_loopS (ι := Nat × Int) (js := [0, 1]) (fun x => x.1) (fun | (fuel, v35) => i_SystemValid_L2 fl a0 x8 fuel v35 = some o1_2) (fun | (_, v35) => [(1, .pointer (some ⟨b1, 0, none⟩)), (4, .pointer (some ⟨b16, 0, none⟩)), (28, .slice p0_2 ((a0.c).length) c0_2), (29, .int .i64 ((a0.c).length : Int)), (30, .int .i64 v6), (84, .slice p13 ((x8.w).length) c15), (85, .int .i64 ((x8.w).length : Int)), (86, .int .i64 v35)]) (fun | (_, v35) => [(0, [(b1, .cells #[.slice p0_0 ((a0.t.b).length) c0_0, .slice p0_1 ((a0.t.f).length) c0_1, .slice p0_2 ((a0.c).length) c0_2] 36 (0, 0))]), (1, [(b16, .cells #[.slice p10 ((x8.n).length) c12, .slice p13 ((x8.w).length) c15] 44 (0, 0))])]) (fl, 0) eo1_2 ⟨rfl, rfl, rfl, rfl, rfl, rfl, rfl, rfl, trivial⟩ ⟨0, [1], rfl, rfl, 1, [], rfl, rfl, trivial⟩ (by decide) ?_)
    rintro ⟨fuel, v35⟩ H2
    have H2 : i_SystemValid_L2 fl a0 x8 fuel v35 = some o1_2 := H2
    rcases fuel with _ | fuel
    ·rw [i_SystemValid_L2.eq_1] at H2; cases H2
    rw [i_SystemValid_L2.eq_2] at H2
    dsimp only
    refine sr (oW rfl (nn (cw_seq (cw_cond rfl (fun h36 => ?_) (fun h36 => ?_)))))
    ·have H2 := cond_t H2 h36
     obtain ⟨x37, e37, H2⟩ := bS H2
     refine cw_skip (kw_nx (cw_seq (cw_block (sr (oD (stp_indexAddr Tryd.underlying42 ts48 (by decide) rfl rfl rfl (Rdb.ro hs9) e37) rfl (oD (stp_loadN (us := [_, _, _]) ts48 rfl (Cells.el (Rdb.ro hs9) (by decide) e37 0 3 rfl)) rfl (oE (stpU_alloc 3 tz48 rfl) rfl ?_)))))))
     rintro _ _ ⟨b38, rfl, rfl⟩
     obtain ⟨x39, e39, H2⟩ := bS H2
     refine oC3 3 ts48 rfl rfl (nn (sr (oA 0 Tryd.underlying44 rfl ts42 rfl (oL 1 ts42 rfl (oA 0 Tryd.underlying48 rfl ts46 rfl (oB2 3 ts46 rfl (oE (stpU_call (fun i => 4 + i) cf52 (fun w hw => c_i_noteOf fl w x8.n x37.k rfl (RO.pass hr9 hw) x39 e39) (yB rfl rfl)) rfl ?_)))))))
     rintro _ _ ⟨_, ⟨rfl, rfl⟩, rfl⟩
     obtain ⟨y40, ey40, H2⟩ := bS H2
     refine oW rfl (oM rfl (ow_cutY 9 105 y40 ?_ ?_))
     ·rcases Bool.eq_false_or_eq_true (decide (x39 < 0)) with hy40 | hy40
      ·have ey40 := cond_t ey40 hy40
       refine oO rfl hy40 rfl (oO rfl hy40 rfl (oO rfl hy40 rfl (oO rfl hy40 rfl (oO rfl hy40 rfl (oO rfl hy40 rfl (oO rfl hy40 rfl (oO rfl hy40 rfl (oD (stp_pick_t rfl hy40 rfl) rfl ?_))))))))
       obtain rfl := sI ey40
       exact ow_nil (jy 9 0)
      have ey40 := cond_f ey40 hy40
      obtain ⟨x41, e41, ey40⟩ := bS ey40
      refine oG rfl hy40 (fA 2 Tryd.underlying48 rfl ts3 rfl rfl rfl) rfl (oG rfl hy40 (lB 3 ts3 rfl rfl rfl) rfl (oG rfl hy40 (fA 0 Tryd.underlying36 rfl ts33 rfl rfl rfl) rfl (oG rfl hy40 (fA 1 Tryd.underlying33 rfl ts31 rfl rfl rfl) rfl (oG rfl hy40 (lB 0 ts31 rfl rfl rfl) rfl (oG rfl hy40 (stp_len Tryd.underlying31 rfl) rfl (ow_eff (.some rfl hy40) (stpU_call (fun i => 4 + i) cf53 (fun w hw => c_i_within fl w x37.fr ((a0.t.f).length : Int) x41 e41) (yB rfl rfl)) rfl ?_))))))
      rintro _ _ ⟨_, ⟨rfl, rfl⟩, rfl⟩
      refine oG rfl hy40 (stp_not rfl) rfl (oD (stp_pick_f rfl hy40 rfl) rfl ?_)
      obtain rfl := sI ey40
      exact ow_nil (jy 9 0)
     obtain ⟨y42, ey42, H2⟩ := bS H2
     refine oM rfl (ow_cutY 9 115 y42 ?_ ?_)
     ·rcases Bool.eq_false_or_eq_true y40 with hy42 | hy42
      ·have ey42 := cond_t ey42 hy42
       refine oO rfl hy42 rfl (oO rfl hy42 rfl (oO rfl hy42 rfl (oO rfl hy42 rfl (oO rfl hy42 rfl (oO rfl hy42 rfl (oO rfl hy42 rfl (oO rfl hy42 rfl (oD (stp_pick_t rfl hy42 rfl) rfl ?_))))))))
       obtain rfl := sI ey42
       exact ow_nil (jy 9 0)
      have ey42 := cond_f ey42 hy42
      obtain ⟨x43, e43, ey42⟩ := bS ey42
      refine oG rfl hy42 (fA 0 Tryd.underlying36 rfl ts33 rfl rfl rfl) rfl (oG rfl hy42 (fA 1 Tryd.underlying33 rfl ts31 rfl rfl rfl) rfl (oG rfl hy42 (lB 0 ts31 rfl rfl rfl) rfl (oG rfl hy42 (fA 2 Tryd.underlying48 rfl ts3 rfl rfl rfl) rfl (oG rfl hy42 (lB 3 ts3 rfl rfl rfl) rfl (oG rfl hy42 (stp_indexAddr Tryd.underlying31 ts84 (by decide) rfl rfl rfl (Rdb.ro hr0_1) e43) rfl (oG rfl hy42 (fA 0 Tryd.underlying84 rfl ts4 rfl rfl rfl) rfl (oG rfl hy42 (stp_load1 ts4 rfl (Cells.el (Rdb.ro hr0_1) (by decide) e43 0 1 rfl)) rfl (oD (stp_pick_f rfl hy42 rfl) rfl ?_))))))))
      obtain rfl := sI ey42
      exact ow_nil (jy 9 0)
     refine ow_nil (kw_nx (cw_cond rfl (fun h44 => ?_) (fun h44 => ?_)))
     ·have H2 := cond_t H2 h44
      refine sr (oS rfl (nn (cw_ret (kw_bl_ret (kw_nx_ret (kw_lq_ret (kw_bl_ret (kw_join_ret (kw_bl_ret (kw_nx_ret (kw_lq_ret (kw_bl_ret (kw_join_ret ?_)))))))))))))
      refine kw_nx_ret ?_
      obtain rfl := sI H2
      obtain rfl := sI H1
      obtain rfl := sI H0
      exact kr Tryd.results18 (rT rfl) [] ⟨rfl, rfl⟩
     have H2 := cond_f H2 h44
     obtain ⟨x45, e45, H2⟩ := bS H2
     exact cw_skip (kw_bl_normal (kw_nx (cw_region (oP e45 rfl (oM rfl (ow_nil (kw_lqS (js := [0, 1]) (fuel, x45) H2 (Nat.lt_succ_self _) ⟨rfl, rfl, rfl, rfl, rfl, rfl, rfl, rfl, trivial⟩ ⟨0, [1], rfl, rfl, 1, [], rfl, rfl, trivial⟩ (by decide))))))))
    have H2 := cond_f H2 h36
    refine cw_exit (kw_nx_exit (kw_lq_exit (kw_bl ?_)))
    obtain rfl := sI H2
    exact kw_joinS (js := [0, 1]) v35 rfl ⟨rfl, rfl, rfl, rfl, rfl, rfl, rfl, rfl, trivial⟩ ⟨0, [1], rfl, rfl, 1, [], rfl, rfl, trivial⟩ (by decide)
   rintro v35 rfl
   dsimp only
   obtain ⟨x46, e46, H1⟩ := bS H1
   exact kw_bl_normal (kw_nx (cw_region (oP e46 rfl (oM rfl (ow_nil (kw_lqS (js := [0]) (fuel, x46) H1 (Nat.lt_succ_self _) ⟨rfl, rfl, rfl, rfl, trivial⟩ ⟨0, [], rfl, rfl, trivial⟩ (by decide)))))))
  have H1 := cond_f H1 h7
  refine cw_exit (kw_nx_exit (kw_lq_exit (kw_bl ?_)))
  obtain rfl := sI H1
  exact kw_joinS (js := [0]) v6 rfl ⟨rfl, rfl, rfl, rfl, trivial⟩ ⟨0, [], rfl, rfl, trivial⟩ (by decide)
 rintro v6 rfl
 dsimp only
 refine kw_nx (sr (oS rfl (nn (cw_ret ?_))))
 obtain rfl := sI H0
 exact kr Tryd.results18 (rT rfl) [] ⟨rfl, rfl⟩
end Go.Proofs.YtfnliecmagnkdaaDoor
