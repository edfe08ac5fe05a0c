/- The walks: functions of the program return what their pure functions say. Printed by a program (gen.py). -/
import Derived.Test.YtfnliecmagnkdabDoorBp
import Derived.Test.YtfnliecmagnkdabDoorBt
import Derived.Test.YtfnliecmagnkdabDoorMan
import Derived.Test.YtfnliecmagnkdabDoorMap
import Derived.Test.YtfnliecmagnkdabDoorCpy
import Derived.Test.YtfnliecmagnkdabDoorClr
import Derived.Test.YtfnliecmagnkdabDoorDp
import Derived.Test.YtfnliecmagnkdabDoorSrt
import Derived.Test.YtfnliecmagnkdabDoorE8
import Derived.Test.YtfnliecmagnkdabDoorBwab
import Derived.Test.YtfnliecmagnkdabDoorBwaf
import Derived.Test.YtfnliecmagnkdabDoorBws
set_option linter.unusedSimpArgs false
set_option linter.unusedVariables false
set_option linter.unusedSectionVars false
namespace Go.Proofs.YtfnliecmagnkdabDoor
open Go.RowKit
set_option maxHeartbeats 4000000
set_option maxRecDepth 20000
variable {p0_0 p0_1 p0_2 : Option Addr} {n0_0 n0_1 n0_2 : Nat} {c0_0 c0_1 c0_2 : Nat} {C0_0 : Res}
theorem c_i_cpuOf (fl : Nat) (w : World) (a0 : Sy) (a1 : Int) (hn0_0 : n0_0 = (a0.t.b).length) (hr0_0 : RO w (hkeys []) (RdL p0_0 c0_0 a0.t.b)) (hn0_1 : n0_1 = (a0.t.f).length) (hr0_1 : RO w (hkeys []) (RdL p0_1 c0_1 a0.t.f)) (hn0_2 : n0_2 = (a0.c).length) (hr0_2 : ROD w (hkeys []) p0_2 c0_2 a0.c) (hg : RO w (hkeys []) (fun w' => w'.rangeAt 0 0 [.bool false, .int .i64 0, .int .i64 0, .int .i64 0, .int .i64 (-1)])) (r : Bool) (H0 : i_cpuOf fl a0 a1 = some r) :
  Ct Tryd.prog 45 [.agg #[.slice p0_0 n0_0 c0_0, .slice p0_1 n0_1 c0_1, .slice p0_2 n0_2 c0_2], .int .i64 a1] w [] (fun rv h' => rv = .bool r ∧ h' = []) := by
 subst hn0_0 hn0_1 hn0_2
 unfold i_cpuOf at H0
 refine ct_of_cw Tryd.func45 rfl Tryd.ntmps45 rfl (Sat.refl _ _) ?_
 refine sr (oE (stpU_box 0 rfl rfl) rfl ?_)
 rintro _ _ ⟨b1, rfl, rfl⟩
 obtain ⟨x2, e2, H0⟩ := bS H0
 refine oS rfl (nn (sr (oB3 0 ts37 rfl (oE (stpU_call (fun i => 1 + i) cf23 (fun w hw => c_i_SystemValid fl w a0 rfl (RO.pass hr0_0 hw) rfl (RO.pass hr0_1 hw) rfl (ROD.pass hr0_2 hw) (RO.pass hg hw) x2 e2) (yA rfl)) rfl ?_))))
 rintro _ _ ⟨_, ⟨rfl, rfl⟩, rfl⟩
 obtain ⟨y3, ey3, H0⟩ := bS H0
 refine oM rfl (ow_cutY 6 13 y3 ?_ ?_)
 ·rcases Bool.eq_false_or_eq_true x2 with hy3 | hy3
  ·have ey3 := cond_t ey3 hy3
   obtain ⟨x4, e4, ey3⟩ := bS ey3
   refine oG rfl hy3 (mv rfl) rfl (oG rfl hy3 (fA 2 Tryd.underlying37 rfl ts35 rfl rfl rfl) rfl (oG rfl hy3 (lB 0 ts35 rfl rfl rfl) rfl (oG rfl hy3 (stp_len Tryd.underlying35 rfl) rfl (ow_eff (.some rfl hy3) (stpU_call (fun i => 1 + i) cf76 (fun w hw => c_i_within fl w a1 ((a0.c).length : Int) x4 e4) (yB rfl rfl)) rfl ?_))))
   rintro _ _ ⟨_, ⟨rfl, rfl⟩, rfl⟩
   refine oD (stp_pick_t rfl hy3 rfl) rfl ?_
   obtain rfl := sI ey3
   exact ow_nil (jy 6 0)
  have ey3 := cond_f ey3 hy3
  refine oO rfl hy3 rfl (oO rfl hy3 rfl (oO rfl hy3 rfl (oO rfl hy3 rfl (oO rfl hy3 rfl (oD (stp_pick_f rfl hy3 rfl) rfl ?_)))))
  obtain rfl := sI ey3
  exact ow_nil (jy 6 0)
 refine oS rfl (nn (cw_ret ?_))
 obtain rfl := sI H0
 exact kr Tryd.results45 (rT rfl) [] ⟨rfl, rfl⟩

theorem c_i_drop_1 (fl : Nat) (w : World) (a0 : Nt) (qc0 : Nat) (ac0 : K) (hbac0 : RO w (hkeys []) (fun w' => w'.rangeAt qc0 0 [.int .i64 ac0.s, .int .i64 ac0.p])) (r : Bool) (H0 : i_drop_1 fl a0 ac0 = some r) :
  Ct Tryd.prog 102 [.agg #[.int .i64 a0.k.s, .int .i64 a0.k.p, .int .i64 a0.fr], .pointer (some ⟨qc0, 0, none⟩)] w [] (fun rv h' => rv = .bool r ∧ h' = []) := by
 unfold i_drop_1 at H0
 refine ct_of_cw Tryd.func102 rfl Tryd.ntmps102 rfl (Sat.refl _ _) ?_
 refine sr (oE (stpU_box 0 rfl rfl) rfl ?_)
 rintro _ _ ⟨b1, rfl, rfl⟩
 refine oS rfl (nn (sr (oA 0 Tryd.underlying55 rfl ts41 rfl (oB2 0 ts41 rfl (oD (stp_loadN (us := [_, _]) ts41 rfl (Cells.ofRO hbac0 2 rfl)) rfl (oD (stp_eqlS te41 a0.k ac0 rfl rfl) rfl (oS rfl (nn (cw_ret ?_)))))))))
 obtain rfl := sI H0
 exact kr Tryd.results102 (rT rfl) [] ⟨rfl, rfl⟩

theorem c_slices_IndexFunc_Note_of_i_drop_1 (fl : Nat) (w : World) (a0 : (List Nt)) (q1_0 : Nat) (a1_0 : K) (hn0_0 : n0_0 = (a0).length) (hr0_0 : RO w (hkeys []) (RdL p0_0 c0_0 a0)) (hba1_0 : RO w (hkeys []) (fun w' => w'.rangeAt q1_0 0 [.int .i64 a1_0.s, .int .i64 a1_0.p])) (r : Int) (H0 : slices_IndexFunc_Note_of_i_drop_1 fl a0 a1_0 = some r) :
  Ct Tryd.prog 97 [.slice p0_0 n0_0 c0_0, .func (.func 102) #[] #[.pointer (some ⟨q1_0, 0, none⟩)]] w [] (fun rv h' => rv = .int .i64 r ∧ h' = []) := by
 subst hn0_0
 unfold slices_IndexFunc_Note_of_i_drop_1 at H0
 refine ct_of_cw Tryd.func97 rfl Tryd.ntmps97 rfl (Sat.refl _ _) ?_
 obtain ⟨o0_0, eo0_0, H0⟩ := bS H0
 refine sr (oS rfl (nn (cw_seq (sr (oM rfl (oD (stp_len Tryd.underlying51 rfl) rfl (oM rfl (nn (cw_join (ι := Int) (fun | v1 => o0_0 = .out v1) (fun | v1 => [(0, .slice p0_0 ((a0).length) c0_0), (1, .func (.func 102) #[] #[.pointer (some ⟨q1_0, 0, none⟩)]), (7, .int .i64 ((a0).length : Int)), (8, .int .i64 v1)]) (fun | v1 => []) ?_ ?_)))))))))
 ·refine cw_block (cw_loopS (ι := Nat × Int) (js := []) (fun x => x.1) (fun | (fuel, v1) => slices_IndexFunc_Note_of_i_drop_1_L0 fl a0 a1_0 fuel v1 = some o0_0) (fun | (_, v1) => [(0, .slice p0_0 ((a0).length) c0_0), (1, .func (.func 102) #[] #[.pointer (some ⟨q1_0, 0, none⟩)]), (7, .int .i64 ((a0).length : Int)), (8, .int .i64 v1)]) (fun | (_, v1) => []) (fl, 0) eo0_0 ⟨rfl, rfl, rfl, rfl, trivial⟩ trivial (by decide) ?_)
  rintro ⟨fuel, v1⟩ H1
  have H1 : slices_IndexFunc_Note_of_i_drop_1_L0 fl a0 a1_0 fuel v1 = some o0_0 := H1
  rcases fuel with _ | fuel
  ·rw [slices_IndexFunc_Note_of_i_drop_1_L0.eq_1] at H1; cases H1
  rw [slices_IndexFunc_Note_of_i_drop_1_L0.eq_2] at H1
  dsimp only
  refine sr (oW rfl (nn (cw_seq (cw_cond rfl (fun h2 => ?_) (fun h2 => ?_)))))
  ·have H1 := cond_t H1 h2
   obtain ⟨x3, e3, H1⟩ := bS H1
   refine cw_skip (kw_nx (cw_seq (cw_block (sr (oM rfl (oS rfl (nn (sr (oM rfl (oM rfl (oM rfl (oD (stp_indexAddr Tryd.underlying51 ts55 (by decide) rfl rfl rfl (Rdb.ro hr0_0) e3) rfl (oD (stp_loadN (us := [_, _, _]) ts55 rfl (Cells.el (Rdb.ro hr0_0) (by decide) e3 0 3 rfl)) rfl ?_)))))))))))))
   obtain ⟨x4, e4, H1⟩ := bS H1
   refine oE (stpU_callF (vals := [_]) (ca := [_]) (fun i => 0 + i) cf102 (fun w hw => c_i_drop_1 fl w x3 q1_0 a1_0 (RO.pass hba1_0 hw) x4 e4) rfl (yA rfl)) rfl ?_
   rintro _ _ ⟨_, ⟨rfl, rfl⟩, rfl⟩
   refine nn (cw_cond rfl (fun h5 => ?_) (fun h5 => ?_))
   ·have H1 := cond_t H1 h5
    refine sr (oM rfl (oS rfl (nn (cw_ret (kw_bl_ret (kw_nx_ret (kw_lq_ret (kw_bl_ret (kw_join_ret (kw_nx_ret ?_))))))))))
    obtain rfl := sI H1
    obtain rfl := sI H0
    exact kr Tryd.results97 (rT rfl) [] ⟨rfl, rfl⟩
   have H1 := cond_f H1 h5
   obtain ⟨x6, e6, H1⟩ := bS H1
   exact cw_skip (kw_bl_normal (kw_nx (cw_region (oP e6 rfl (oM rfl (ow_nil (kw_lqS (js := []) (fuel, x6) H1 (Nat.lt_succ_self _) ⟨rfl, rfl, rfl, rfl, trivial⟩ trivial (by decide))))))))
  have H1 := cond_f H1 h2
  refine cw_exit (kw_nx_exit (kw_lq_exit (kw_bl ?_)))
  obtain rfl := sI H1
  exact kw_joinS (js := []) v1 rfl ⟨rfl, rfl, rfl, rfl, trivial⟩ trivial (by decide)
 rintro v1 rfl
 dsimp only
 refine kw_nx (sr (oS rfl (nn (cw_ret ?_))))
 obtain rfl := sI H0
 exact kr Tryd.results97 (rT rfl) [] ⟨rfl, rfl⟩

theorem c_slices_DeleteFunc_Note_of_i_drop_1 (fl : Nat) (w : World) (a0 : (List Nt)) (q1_0 : Nat) (a1_0 : K) (hn0_0 : n0_0 = (a0).length) (ho0_0 : OwnC 55 p0_0 c0_0 a0 C0_0) (hba1_0 : RO w (hkeys [(0, C0_0)]) (fun w' => w'.rangeAt q1_0 0 [.int .i64 a1_0.s, .int .i64 a1_0.p])) (hM : Sat w (hkeys [(0, C0_0)]) w [(0, C0_0)]) (r : (List Nt)) (H0 : slices_DeleteFunc_Note_of_i_drop_1 fl a0 a1_0 = some r) :
  Ct Tryd.prog 101 [.slice p0_0 n0_0 c0_0, .func (.func 102) #[] #[.pointer (some ⟨q1_0, 0, none⟩)]] w [(0, C0_0)] (fun rv h' => ∃ (x1 : Option Addr) (y1 z1 : Nat) (C1 : Res), rv = .slice x1 y1 z1 ∧ h' = [(0, []), (1, C1)] ∧ y1 = (r).length ∧ OwnC 55 x1 z1 r C1) := by
 subst hn0_0
 unfold slices_DeleteFunc_Note_of_i_drop_1 at H0
 refine ct_of_cw Tryd.func101 rfl Tryd.ntmps101 rfl hM ?_
 obtain ⟨x1, e1, H0⟩ := bS H0
 refine sr (oS rfl (nn (sr (oM rfl (oM rfl (oE (stpU_call (fun i => 1 + i) cf97 (fun w hw => c_slices_IndexFunc_Note_of_i_drop_1 fl w a0 q1_0 a1_0 rfl (OwnC.pass (id := 0) rfl ho0_0 hw) (RO.pass hba1_0 hw) x1 e1) (yB rfl rfl)) rfl ?_))))))
 rintro _ _ ⟨_, ⟨rfl, rfl⟩, rfl⟩
 refine oS rfl (nn (cw_seq (sr (oM rfl (oQ rfl (nn (cw_cond rfl (fun h2 => ?_) (fun h2 => ?_))))))))
 ·have H0 := cond_t H0 h2
  refine sr (oM rfl (oS rfl (nn (cw_ret (kw_nx_ret (kw_addNil 1 ?_))))))
  obtain rfl := sI H0
  exact kr Tryd.results101 (rT rfl) [1, 0] ⟨_, _, _, _, rfl, rfl, rfl, ho0_0⟩
 have H0 := cond_f H0 h2
 obtain ⟨x3, e3, H0⟩ := bS H0
 obtain ⟨o0_0, eo0_0, H0⟩ := bS H0
 refine cw_skip (kw_nx (cw_seq (sr (oM rfl (oP e3 rfl (oS rfl (nn (cw_join (ι := (List Nt) × Int × Int × Res) (fun | (v4, v6, v7, C5) => o0_0 = .out (v4, v6, v7) ∧ (a0).length = (v4).length ∧ OwnC 55 p0_0 c0_0 v4 C5) (fun | (v4, v6, v7, C5) => [(0, .slice p0_0 ((a0).length) c0_0), (1, .func (.func 102) #[] #[.pointer (some ⟨q1_0, 0, none⟩)]), (5, .int .i64 v6), (6, .int .i64 v7)]) (fun | (v4, v6, v7, C5) => [(0, C5)]) ?_ ?_))))))))
 ·refine cw_block (cw_loopS (ι := Nat × (List Nt) × Int × Int × Res) (js := [0]) (fun x => x.1) (fun | (fuel, v4, v6, v7, C5) => slices_DeleteFunc_Note_of_i_drop_1_L0 fl a0 a1_0 fuel v4 v6 v7 = some o0_0 ∧ (a0).length = (v4).length ∧ OwnC 55 p0_0 c0_0 v4 C5) (fun | (_, v4, v6, v7, C5) => [(0, .slice p0_0 ((a0).length) c0_0), (1, .func (.func 102) #[] #[.pointer (some ⟨q1_0, 0, none⟩)]), (5, .int .i64 v6), (6, .int .i64 v7)]) (fun | (_, v4, v6, v7, C5) => [(0, C5)]) (fl, a0, x1, x3, C0_0) ⟨eo0_0, rfl, ho0_0⟩ ⟨rfl, rfl, rfl, rfl, trivial⟩ ⟨0, [], rfl, rfl, trivial⟩ (by decide) ?_)
  rintro ⟨fuel, v4, v6, v7, C5⟩ ⟨H1, hl5, o5⟩
  have H1 : slices_DeleteFunc_Note_of_i_drop_1_L0 fl a0 a1_0 fuel v4 v6 v7 = some o0_0 := H1
  rcases fuel with _ | fuel
  ·rw [slices_DeleteFunc_Note_of_i_drop_1_L0.eq_1] at H1; cases H1
  rw [slices_DeleteFunc_Note_of_i_drop_1_L0.eq_2] at H1
  dsimp only
  refine cw_seq (sr (oM rfl (oM rfl (oD (stp_len Tryd.underlying51 rfl) rfl (oW rfl (nn (cw_cond rfl (fun h8 => ?_) (fun h8 => ?_))))))))
  ·have H1 := cond_t H1 h8
   obtain ⟨x9, e9, H1⟩ := bS H1
   refine cw_skip (kw_nx (cw_seq (cw_block (sr (oM rfl (oM rfl (oD (stp_indexAddr Tryd.underlying51 ts55 (by decide) rfl (by simp [hl5]) rfl (Rdb.own (id := 0) rfl o5) e9) rfl (oD (stp_loadN (us := [_, _, _]) ts55 rfl (Cells.el (Rdb.own (id := 0) rfl o5) (by decide) e9 0 3 rfl)) rfl (oE (stpU_alloc 2 tz55 rfl) rfl ?_)))))))))
   rintro _ _ ⟨b10, rfl, rfl⟩
   obtain ⟨x11, e11, H1⟩ := bS H1
   refine oC3 2 ts55 rfl rfl (nn (sr (oM rfl (oB3 2 ts55 rfl (oE (stpU_callF (vals := [_]) (ca := [_]) (fun i => 3 + i) cf102 (fun w hw => c_i_drop_1 fl w x9 q1_0 a1_0 (RO.pass hba1_0 hw) x11 e11) rfl (yA rfl)) rfl ?_)))))
   rintro _ _ ⟨_, ⟨rfl, rfl⟩, rfl⟩
   refine oK rfl (nn (cw_cond rfl (fun h12 => ?_) (fun h12 => ?_)))
   ·have H1 := cond_t H1 h12
    obtain ⟨x13, e13, H1⟩ := bS H1
    refine sr (oM rfl (oM rfl (oB3 2 ts55 rfl (oD (stp_indexAddr Tryd.underlying51 ts55 (by decide) rfl (by simp [hl5]) rfl (Rdb.own (id := 0) rfl o5) e13) rfl (oF (stpU_storeEl (id := 0) (i := 0) x9 (by decide) ts55 rfl rfl rfl o5 e13 rfl rfl rfl rfl) ?_)))))
    rintro _ _ ⟨C14, rfl, o14⟩
    obtain ⟨x15, e15, H1⟩ := bS H1
    obtain ⟨x16, e16, H1⟩ := bS H1
    exact nn (cw_region (oM rfl (oP e15 rfl (oS rfl (ow_nil (kw_bl_normal (kw_nx (cw_region (oM rfl (oP e16 rfl (oS rfl (ow_nil (kw_lqS (js := [0]) (fuel, (v4.set (Int.toNat v6) x9), x15, x16, C14) ⟨H1, (by simp [hl5]), o14⟩ (Nat.lt_succ_self _) ⟨rfl, rfl, rfl, rfl, trivial⟩ ⟨0, [], rfl, rfl, trivial⟩ (by decide))))))))))))))
   have H1 := cond_f H1 h12
   obtain ⟨x17, e17, H1⟩ := bS H1
   exact cw_skip (kw_bl_normal (kw_nx (cw_region (oM rfl (oP e17 rfl (oS rfl (ow_nil (kw_lqS (js := [0]) (fuel, v4, v6, x17, C5) ⟨H1, (by simp [hl5]), o5⟩ (Nat.lt_succ_self _) ⟨rfl, rfl, rfl, rfl, trivial⟩ ⟨0, [], rfl, rfl, trivial⟩ (by decide)))))))))
  have H1 := cond_f H1 h8
  refine cw_exit (kw_nx_exit (kw_lq_exit (kw_bl ?_)))
  obtain rfl := sI H1
  exact kw_joinS (js := [0]) (v4, v6, v7, C5) ⟨rfl, (by simp [hl5]), o5⟩ ⟨rfl, rfl, rfl, rfl, trivial⟩ ⟨0, [], rfl, rfl, trivial⟩ (by decide)
 rintro ⟨v4, v6, v7, C5⟩ ⟨rfl, hl5, o5⟩
 dsimp only
 obtain ⟨x18, e18, H0⟩ := bS H0
 refine kw_nx (sr (oM rfl (oM rfl (oD (stp_drop Tryd.underlying51 ts55 rfl (by simp [hl5]) rfl (Rdb.own (id := 0) rfl o5) e18) rfl (oF (stpU_clearD (id := 0) sl51 rfl e18 rfl rfl o5) ?_)))))
 rintro _ _ ⟨C19, rfl, rfl, o19⟩
 obtain ⟨x20, e20, H0⟩ := bS H0
 refine nn (sr (oM rfl (oM rfl (oD (stp_take Tryd.underlying51 ts55 rfl (by simp [cpy_len, hl5]) rfl (Rdb.own (id := 0) rfl o19) e20) rfl (oS rfl (nn (cw_ret (kw_addNil 3 ?_))))))))
 obtain rfl := sI H0
 exact kr Tryd.results101 (rT rfl) [3, 0] ⟨_, _, _, _, rfl, rfl, rfl, (OwnC.takeO o19 e20)⟩

theorem c_i_drop (fl : Nat) (w : World) (a0 : (List Nt)) (a1 : K) (hn0_0 : n0_0 = (a0).length) (hr0_0 : RO w (hkeys []) (RdL p0_0 c0_0 a0)) (r : (List Nt)) (H0 : i_drop fl a0 a1 = some r) :
  Ct Tryd.prog 50 [.slice p0_0 n0_0 c0_0, .agg #[.int .i64 a1.s, .int .i64 a1.p]] w [] (fun rv h' => ∃ (x0 : Option Addr) (y0 z0 : Nat) (C0 : Res), rv = .slice x0 y0 z0 ∧ h' = [(0, C0)] ∧ y0 = (r).length ∧ OwnC 55 x0 z0 r C0) := by
 subst hn0_0
 unfold i_drop at H0
 refine ct_of_cw Tryd.func50 rfl Tryd.ntmps50 rfl (Sat.refl _ _) ?_
 refine sr (oE (stpU_box 0 rfl rfl) rfl ?_)
 rintro _ _ ⟨b1, rfl, rfl⟩
 obtain ⟨x2, e2, H0⟩ := bS H0
 refine oS rfl (nn (sr (oM rfl (oE (stpU_call (fun i => 1 + i) cf96 (fun w hw => c_slices_Clone_Note fl w a0 rfl (RO.pass hr0_0 hw) x2 e2) (yA rfl)) rfl ?_))))
 rintro _ _ ⟨_, ⟨p3, _, c5, C6, rfl, rfl, rfl, o6⟩, rfl⟩
 obtain ⟨x7, e7, H0⟩ := bS H0
 refine oD (stp_makeFunc (yA rfl)) rfl (oE (stpU_callM (fun i => bif Nat.beq i 0 then 1 else 2 + i) cf101 (fun w hw hb => c_slices_DeleteFunc_Note_of_i_drop_1 fl w x2 b1 a1 rfl o6 (box_passM (id := 0) rfl hw hb ⟨rfl, trivial⟩) (hw.pass (js := [1]) ⟨1, [], rfl, rfl, trivial⟩ (by decide)) x7 e7) (yB rfl rfl) ⟨rfl, (fun _ _ hp => by obtain ⟨_, _, _, _, _, rfl, _⟩ := hp; exact ⟨_, rfl⟩), trivial⟩) rfl ?_)
 rintro _ _ ⟨_, ⟨p8, _, c10, C11, rfl, rfl, rfl, o11⟩, rfl⟩
 refine oE (stpU_call (fun i => i) cf51 (fun w hw => c_clip51 w p8 ((x7).length) c10 (OwnC.len o11).1) (yA rfl)) rfl ?_
 rintro _ _ ⟨_, ⟨rfl, rfl⟩, rfl⟩
 refine oS rfl (nn (cw_ret ?_))
 obtain rfl := sI H0
 exact kr Tryd.results50 (rT rfl) [3] ⟨_, _, _, _, rfl, rfl, rfl, (OwnC.clip o11)⟩
end Go.Proofs.YtfnliecmagnkdabDoor
