/- The walks: functions of the program return what their pure functions say. Printed by a program (gen.py). -/
import Derived.Test.YtfnliecmagnkdabDoorBp
import Derived.Test.YtfnliecmagnkdabDoorBt
import Derived.Test.YtfnliecmagnkdabDoorMan
import Derived.Test.YtfnliecmagnkdabDoorMap
import Derived.Test.YtfnliecmagnkdabDoorCpy
import Derived.Test.YtfnliecmagnkdabDoorClr
import Derived.Test.YtfnliecmagnkdabDoorDp
import Derived.Test.YtfnliecmagnkdabDoorSrt
import Derived.Test.YtfnliecmagnkdabDoorE8
import Derived.Test.YtfnliecmagnkdabDoorBwaa
set_option linter.unusedSimpArgs false
set_option linter.unusedVariables false
set_option linter.unusedSectionVars false
namespace Go.Proofs.YtfnliecmagnkdabDoor
open Go.RowKit
set_option maxHeartbeats 4000000
set_option maxRecDepth 20000
variable {p0_0 p0_1 p0_2 : Option Addr} {n0_0 n0_1 n0_2 : Nat} {c0_0 c0_1 c0_2 : Nat}
theorem c_l_heldFrameS (fl : Nat) (w : World) (a0 : (List F)) (a1 : Int) (hn0_0 : n0_0 = (a0).length) (hr0_0 : RO w (hkeys []) (RdL p0_0 c0_0 a0)) (r : Int) (H0 : l_heldFrameS fl a0 a1 = some r) :
  Ct Tryd.prog 107 [.slice p0_0 n0_0 c0_0, .int .i64 a1] w [] (fun rv h' => rv = .int .i64 r ∧ h' = []) := by
 subst hn0_0
 unfold l_heldFrameS at H0
 refine ct_of_cw Tryd.func107 rfl Tryd.ntmps107 rfl (Sat.refl _ _) ?_
 obtain ⟨o0_0, eo0_0, H0⟩ := bS H0
 refine sr (oS rfl (nn (cw_seq (sr (oS rfl (nn (cw_join (ι := Int × Int) (fun | (v1, v2) => o0_0 = .out (v1, v2)) (fun | (v1, v2) => [(0, .slice p0_0 ((a0).length) c0_0), (1, .int .i64 v1), (5, .int .i64 v2)]) (fun | (v1, v2) => []) ?_ ?_)))))))
 ·refine cw_block (cw_loopS (ι := Nat × Int × Int) (js := []) (fun x => x.1) (fun | (fuel, v1, v2) => l_heldFrameS_L0 fl a0 fuel v1 v2 = some o0_0) (fun | (_, v1, v2) => [(0, .slice p0_0 ((a0).length) c0_0), (1, .int .i64 v1), (5, .int .i64 v2)]) (fun | (_, v1, v2) => []) (fl, a1, 0) eo0_0 ⟨rfl, rfl, rfl, trivial⟩ trivial (by decide) ?_)
  rintro ⟨fuel, v1, v2⟩ H1
  have H1 : l_heldFrameS_L0 fl a0 fuel v1 v2 = some o0_0 := H1
  rcases fuel with _ | fuel
  ·rw [l_heldFrameS_L0.eq_1] at H1; cases H1
  rw [l_heldFrameS_L0.eq_2] at H1
  dsimp only
  refine cw_seq (sr (oM rfl (oM rfl (oD (stp_len Tryd.underlying32 rfl) rfl (oW rfl (nn (cw_cond rfl (fun h3 => ?_) (fun h3 => ?_))))))))
  ·have H1 := cond_t H1 h3
   obtain ⟨x4, e4, H1⟩ := bS H1
   obtain ⟨x5, e5, H1⟩ := bS H1
   refine cw_skip (kw_nx (cw_seq (cw_block (cw_seq (sr (oM rfl (oM rfl (oD (stp_indexAddr Tryd.underlying32 ts71 (by decide) rfl rfl rfl (Rdb.ro hr0_0) e4) rfl (oA 0 Tryd.underlying71 rfl ts4 rfl (oD (stp_load1 ts4 rfl (Cells.el (Rdb.ro hr0_0) (by decide) e4 0 1 rfl)) rfl (oM rfl (oD (stp_rem rfl rfl e5) rfl (oQ rfl ?_)))))))))))))
   refine oD (stp_neqB Tryd.underlying4 rfl rfl) rfl (nn (cw_cond rfl (fun h6 => ?_) (fun h6 => ?_)))
   ·have H1 := cond_t H1 h6
    refine sr (oS rfl (nn (cw_ret (kw_nx_ret (kw_bl_ret (kw_nx_ret (kw_lq_ret (kw_bl_ret (kw_join_ret (kw_nx_ret ?_))))))))))
    obtain rfl := sI H1
    obtain rfl := sI H0
    exact kr Tryd.results107 (rT rfl) [] ⟨rfl, rfl⟩
   have H1 := cond_f H1 h6
   obtain ⟨x7, e7, H1⟩ := bS H1
   refine cw_skip (kw_nx (sr (oM rfl (oP e7 rfl (oS rfl (nn (cw_seq (sr (oM rfl (oM rfl (oD (stp_indexAddr Tryd.underlying32 ts71 (by decide) rfl rfl rfl (Rdb.ro hr0_0) e4) rfl (oA 1 Tryd.underlying71 rfl ts41 rfl (oA 0 Tryd.underlying41 rfl ts3 rfl ?_)))))))))))))
   refine oD (stp_load1 ts3 rfl (Cells.el (Rdb.ro hr0_0) (by decide) e4 1 1 rfl)) rfl (oM rfl (oU rfl (nn (cw_cond rfl (fun h8 => ?_) (fun h8 => ?_)))))
   ·have H1 := cond_t H1 h8
    refine sr (oS rfl (nn (cw_ret (kw_nx_ret (kw_bl_ret (kw_nx_ret (kw_lq_ret (kw_bl_ret (kw_join_ret (kw_nx_ret ?_))))))))))
    obtain rfl := sI H1
    obtain rfl := sI H0
    exact kr Tryd.results107 (rT rfl) [] ⟨rfl, rfl⟩
   have H1 := cond_f H1 h8
   obtain ⟨x9, e9, H1⟩ := bS H1
   refine cw_skip (kw_nx (sr (oM rfl (oP e9 rfl (oS rfl (nn (cw_seq (sr (oM rfl (oM rfl (oD (stp_indexAddr Tryd.underlying32 ts71 (by decide) rfl rfl rfl (Rdb.ro hr0_0) e4) rfl (oA 1 Tryd.underlying71 rfl ts41 rfl (oA 1 Tryd.underlying41 rfl ts3 rfl ?_)))))))))))))
   refine oD (stp_load1 ts3 rfl (Cells.el (Rdb.ro hr0_0) (by decide) e4 2 1 rfl)) rfl (oM rfl (oU rfl (nn (cw_cond rfl (fun h10 => ?_) (fun h10 => ?_)))))
   ·have H1 := cond_t H1 h10
    refine sr (oS rfl (nn (cw_ret (kw_nx_ret (kw_bl_ret (kw_nx_ret (kw_lq_ret (kw_bl_ret (kw_join_ret (kw_nx_ret ?_))))))))))
    obtain rfl := sI H1
    obtain rfl := sI H0
    exact kr Tryd.results107 (rT rfl) [] ⟨rfl, rfl⟩
   have H1 := cond_f H1 h10
   obtain ⟨x11, e11, H1⟩ := bS H1
   refine cw_skip (kw_nx (sr (oM rfl (oP e11 rfl (oS rfl (nn (cw_seq (sr (oM rfl (oM rfl (oD (stp_indexAddr Tryd.underlying32 ts71 (by decide) rfl rfl rfl (Rdb.ro hr0_0) e4) rfl (oA 3 Tryd.underlying71 rfl ts3 rfl (oD (stp_load1 ts3 rfl (Cells.el (Rdb.ro hr0_0) (by decide) e4 3 1 rfl)) rfl ?_)))))))))))))
   refine oM rfl (oU rfl (nn (cw_cond rfl (fun h12 => ?_) (fun h12 => ?_))))
   ·have H1 := cond_t H1 h12
    refine sr (oS rfl (nn (cw_ret (kw_nx_ret (kw_bl_ret (kw_nx_ret (kw_lq_ret (kw_bl_ret (kw_join_ret (kw_nx_ret ?_))))))))))
    obtain rfl := sI H1
    obtain rfl := sI H0
    exact kr Tryd.results107 (rT rfl) [] ⟨rfl, rfl⟩
   have H1 := cond_f H1 h12
   obtain ⟨x13, e13, H1⟩ := bS H1
   refine cw_skip (kw_nx (sr (oM rfl (oP e13 rfl (oS rfl (nn (cw_seq (sr (oM rfl (oM rfl (oD (stp_indexAddr Tryd.underlying32 ts71 (by decide) rfl rfl rfl (Rdb.ro hr0_0) e4) rfl (oA 4 Tryd.underlying71 rfl ts3 rfl (oD (stp_load1 ts3 rfl (Cells.el (Rdb.ro hr0_0) (by decide) e4 4 1 rfl)) rfl ?_)))))))))))))
   refine oM rfl (oU rfl (nn (cw_cond rfl (fun h14 => ?_) (fun h14 => ?_))))
   ·have H1 := cond_t H1 h14
    refine sr (oS rfl (nn (cw_ret (kw_nx_ret (kw_bl_ret (kw_nx_ret (kw_lq_ret (kw_bl_ret (kw_join_ret (kw_nx_ret ?_))))))))))
    obtain rfl := sI H1
    obtain rfl := sI H0
    exact kr Tryd.results107 (rT rfl) [] ⟨rfl, rfl⟩
   have H1 := cond_f H1 h14
   obtain ⟨x15, e15, H1⟩ := bS H1
   obtain ⟨x16, e16, H1⟩ := bS H1
   refine cw_skip (kw_nx (cw_region (oM rfl (oP e15 rfl (oS rfl (ow_nil (kw_bl_normal (kw_nx (cw_region (oM rfl (oP e16 rfl (oS rfl (ow_nil ?_)))))))))))))
   exact kw_lqS (js := []) (fuel, x15, x16) H1 (Nat.lt_succ_self _) ⟨rfl, rfl, rfl, trivial⟩ trivial (by decide)
  have H1 := cond_f H1 h3
  refine cw_exit (kw_nx_exit (kw_lq_exit (kw_bl ?_)))
  obtain rfl := sI H1
  exact kw_joinS (js := []) (v1, v2) rfl ⟨rfl, rfl, rfl, trivial⟩ trivial (by decide)
 rintro ⟨v1, v2⟩ rfl
 dsimp only
 refine kw_nx (sr (oM rfl (oS rfl (nn (cw_ret ?_)))))
 obtain rfl := sI H0
 exact kr Tryd.results107 (rT rfl) [] ⟨rfl, rfl⟩

theorem c_l_heldTable (fl : Nat) (w : World) (a0 : T) (a1 : Int) (hn0_0 : n0_0 = (a0.b).length) (hr0_0 : RO w (hkeys []) (RdL p0_0 c0_0 a0.b)) (hn0_1 : n0_1 = (a0.f).length) (hr0_1 : RO w (hkeys []) (RdL p0_1 c0_1 a0.f)) (r : Int) (H0 : l_heldTable fl a0 a1 = some r) :
  Ct Tryd.prog 56 [.agg #[.slice p0_0 n0_0 c0_0, .slice p0_1 n0_1 c0_1], .int .i64 a1] w [] (fun rv h' => rv = .int .i64 r ∧ h' = []) := by
 subst hn0_0 hn0_1
 unfold l_heldTable at H0
 refine ct_of_cw Tryd.func56 rfl Tryd.ntmps56 rfl (Sat.refl _ _) ?_
 refine sr (oE (stpU_box 0 rfl rfl) rfl ?_)
 rintro _ _ ⟨b1, rfl, rfl⟩
 obtain ⟨x2, e2, H0⟩ := bS H0
 refine oS rfl (nn (sr (oA 0 Tryd.underlying34 rfl ts22 rfl (oL 0 ts22 rfl (oM rfl (oE (stpU_call (fun i => 1 + i) cf32 (fun w hw => c_l_heldIntS fl w a0.b a1 rfl (RO.pass hr0_0 hw) x2 e2) (yB rfl rfl)) rfl ?_))))))
 rintro _ _ ⟨_, ⟨rfl, rfl⟩, rfl⟩
 refine oS rfl (nn (cw_seq (sr (oM rfl (oW rfl (nn (cw_cond rfl (fun h3 => ?_) (fun h3 => ?_))))))))
 ·have H0 := cond_t H0 h3
  refine sr (oS rfl (nn (cw_ret (kw_nx_ret ?_))))
  obtain rfl := sI H0
  exact kr Tryd.results56 (rT rfl) [] ⟨rfl, rfl⟩
 have H0 := cond_f H0 h3
 obtain ⟨x4, e4, H0⟩ := bS H0
 refine cw_skip (kw_nx (sr (oA 1 Tryd.underlying34 rfl ts32 rfl (oL 0 ts32 rfl (oM rfl (oE (stpU_call (fun i => 1 + i) cf107 (fun w hw => c_l_heldFrameS fl w a0.f x2 rfl (RO.pass hr0_1 hw) x4 e4) (yB rfl rfl)) rfl ?_))))))
 rintro _ _ ⟨_, ⟨rfl, rfl⟩, rfl⟩
 refine oS rfl (nn (cw_seq (sr (oM rfl (oW rfl (nn (cw_cond rfl (fun h5 => ?_) (fun h5 => ?_))))))))
 ·have H0 := cond_t H0 h5
  refine sr (oS rfl (nn (cw_ret (kw_nx_ret ?_))))
  obtain rfl := sI H0
  exact kr Tryd.results56 (rT rfl) [] ⟨rfl, rfl⟩
 have H0 := cond_f H0 h5
 refine cw_skip (kw_nx (sr (oM rfl (oS rfl (nn (cw_ret ?_))))))
 obtain rfl := sI H0
 exact kr Tryd.results56 (rT rfl) [] ⟨rfl, rfl⟩

theorem c_l_heldNoteS (fl : Nat) (w : World) (a0 : (List Nt)) (a1 : Int) (hn0_0 : n0_0 = (a0).length) (hr0_0 : RO w (hkeys []) (RdL p0_0 c0_0 a0)) (r : Int) (H0 : l_heldNoteS fl a0 a1 = some r) :
  Ct Tryd.prog 108 [.slice p0_0 n0_0 c0_0, .int .i64 a1] w [] (fun rv h' => rv = .int .i64 r ∧ h' = []) := by
 subst hn0_0
 unfold l_heldNoteS at H0
 refine ct_of_cw Tryd.func108 rfl Tryd.ntmps108 rfl (Sat.refl _ _) ?_
 obtain ⟨o0_0, eo0_0, H0⟩ := bS H0
 refine sr (oS rfl (nn (cw_seq (sr (oS rfl (nn (cw_join (ι := Int × Int) (fun | (v1, v2) => o0_0 = .out (v1, v2)) (fun | (v1, v2) => [(0, .slice p0_0 ((a0).length) c0_0), (1, .int .i64 v1), (5, .int .i64 v2)]) (fun | (v1, v2) => []) ?_ ?_)))))))
 ·refine cw_block (cw_loopS (ι := Nat × Int × Int) (js := []) (fun x => x.1) (fun | (fuel, v1, v2) => l_heldNoteS_L0 fl a0 fuel v1 v2 = some o0_0) (fun | (_, v1, v2) => [(0, .slice p0_0 ((a0).length) c0_0), (1, .int .i64 v1), (5, .int .i64 v2)]) (fun | (_, v1, v2) => []) (fl, a1, 0) eo0_0 ⟨rfl, rfl, rfl, trivial⟩ trivial (by decide) ?_)
  rintro ⟨fuel, v1, v2⟩ H1
  have H1 : l_heldNoteS_L0 fl a0 fuel v1 v2 = some o0_0 := H1
  rcases fuel with _ | fuel
  ·rw [l_heldNoteS_L0.eq_1] at H1; cases H1
  rw [l_heldNoteS_L0.eq_2] at H1
  dsimp only
  refine cw_seq (sr (oM rfl (oM rfl (oD (stp_len Tryd.underlying51 rfl) rfl (oW rfl (nn (cw_cond rfl (fun h3 => ?_) (fun h3 => ?_))))))))
  ·have H1 := cond_t H1 h3
   obtain ⟨x4, e4, H1⟩ := bS H1
   refine cw_skip (kw_nx (cw_seq (cw_block (cw_seq (sr (oM rfl (oM rfl (oD (stp_indexAddr Tryd.underlying51 ts55 (by decide) rfl rfl rfl (Rdb.ro hr0_0) e4) rfl (oA 0 Tryd.underlying55 rfl ts41 rfl (oA 0 Tryd.underlying41 rfl ts3 rfl (oD (stp_load1 ts3 rfl (Cells.el (Rdb.ro hr0_0) (by decide) e4 0 1 rfl)) rfl (oM rfl (oU rfl ?_)))))))))))))
   refine nn (cw_cond rfl (fun h5 => ?_) (fun h5 => ?_))
   ·have H1 := cond_t H1 h5
    refine sr (oS rfl (nn (cw_ret (kw_nx_ret (kw_bl_ret (kw_nx_ret (kw_lq_ret (kw_bl_ret (kw_join_ret (kw_nx_ret ?_))))))))))
    obtain rfl := sI H1
    obtain rfl := sI H0
    exact kr Tryd.results108 (rT rfl) [] ⟨rfl, rfl⟩
   have H1 := cond_f H1 h5
   obtain ⟨x6, e6, H1⟩ := bS H1
   refine cw_skip (kw_nx (sr (oM rfl (oP e6 rfl (oS rfl (nn (cw_seq (sr (oM rfl (oM rfl (oD (stp_indexAddr Tryd.underlying51 ts55 (by decide) rfl rfl rfl (Rdb.ro hr0_0) e4) rfl (oA 0 Tryd.underlying55 rfl ts41 rfl (oA 1 Tryd.underlying41 rfl ts3 rfl ?_)))))))))))))
   refine oD (stp_load1 ts3 rfl (Cells.el (Rdb.ro hr0_0) (by decide) e4 1 1 rfl)) rfl (oM rfl (oU rfl (nn (cw_cond rfl (fun h7 => ?_) (fun h7 => ?_)))))
   ·have H1 := cond_t H1 h7
    refine sr (oS rfl (nn (cw_ret (kw_nx_ret (kw_bl_ret (kw_nx_ret (kw_lq_ret (kw_bl_ret (kw_join_ret (kw_nx_ret ?_))))))))))
    obtain rfl := sI H1
    obtain rfl := sI H0
    exact kr Tryd.results108 (rT rfl) [] ⟨rfl, rfl⟩
   have H1 := cond_f H1 h7
   obtain ⟨x8, e8, H1⟩ := bS H1
   refine cw_skip (kw_nx (sr (oM rfl (oP e8 rfl (oS rfl (nn (cw_seq (sr (oM rfl (oM rfl (oD (stp_indexAddr Tryd.underlying51 ts55 (by decide) rfl rfl rfl (Rdb.ro hr0_0) e4) rfl (oA 2 Tryd.underlying55 rfl ts3 rfl (oD (stp_load1 ts3 rfl (Cells.el (Rdb.ro hr0_0) (by decide) e4 2 1 rfl)) rfl ?_)))))))))))))
   refine oM rfl (oU rfl (nn (cw_cond rfl (fun h9 => ?_) (fun h9 => ?_))))
   ·have H1 := cond_t H1 h9
    refine sr (oS rfl (nn (cw_ret (kw_nx_ret (kw_bl_ret (kw_nx_ret (kw_lq_ret (kw_bl_ret (kw_join_ret (kw_nx_ret ?_))))))))))
    obtain rfl := sI H1
    obtain rfl := sI H0
    exact kr Tryd.results108 (rT rfl) [] ⟨rfl, rfl⟩
   have H1 := cond_f H1 h9
   obtain ⟨x10, e10, H1⟩ := bS H1
   obtain ⟨x11, e11, H1⟩ := bS H1
   refine cw_skip (kw_nx (cw_region (oM rfl (oP e10 rfl (oS rfl (ow_nil (kw_bl_normal (kw_nx (cw_region (oM rfl (oP e11 rfl (oS rfl (ow_nil ?_)))))))))))))
   exact kw_lqS (js := []) (fuel, x10, x11) H1 (Nat.lt_succ_self _) ⟨rfl, rfl, rfl, trivial⟩ trivial (by decide)
  have H1 := cond_f H1 h3
  refine cw_exit (kw_nx_exit (kw_lq_exit (kw_bl ?_)))
  obtain rfl := sI H1
  exact kw_joinS (js := []) (v1, v2) rfl ⟨rfl, rfl, rfl, trivial⟩ trivial (by decide)
 rintro ⟨v1, v2⟩ rfl
 dsimp only
 refine kw_nx (sr (oM rfl (oS rfl (nn (cw_ret ?_)))))
 obtain rfl := sI H0
 exact kr Tryd.results108 (rT rfl) [] ⟨rfl, rfl⟩

theorem c_l_heldCpuS (fl : Nat) (w : World) (a0 : (List Cp)) (a1 : Int) (hn0_0 : n0_0 = (a0).length) (hr0_0 : ROD w (hkeys []) p0_0 c0_0 a0) (r : Int) (H0 : l_heldCpuS fl a0 a1 = some r) :
  Ct Tryd.prog 57 [.slice p0_0 n0_0 c0_0, .int .i64 a1] w [] (fun rv h' => rv = .int .i64 r ∧ h' = []) := by
 subst hn0_0
 unfold l_heldCpuS at H0
 refine ct_of_cw Tryd.func57 rfl Tryd.ntmps57 rfl (Sat.refl _ _) ?_
 obtain ⟨o0_0, eo0_0, H0⟩ := bS H0
 refine sr (oS rfl (nn (cw_seq (sr (oS rfl (nn (cw_join (ι := Int × Int) (fun | (v1, v2) => o0_0 = .out (v1, v2)) (fun | (v1, v2) => [(0, .slice p0_0 ((a0).length) c0_0), (1, .int .i64 v1), (5, .int .i64 v2)]) (fun | (v1, v2) => []) ?_ ?_)))))))
 ·refine cw_block (cw_loopS (ι := Nat × Int × Int) (js := []) (fun x => x.1) (fun | (fuel, v1, v2) => l_heldCpuS_L0 fl a0 fuel v1 v2 = some o0_0) (fun | (_, v1, v2) => [(0, .slice p0_0 ((a0).length) c0_0), (1, .int .i64 v1), (5, .int .i64 v2)]) (fun | (_, v1, v2) => []) (fl, a1, 0) eo0_0 ⟨rfl, rfl, rfl, trivial⟩ trivial (by decide) ?_)
  rintro ⟨fuel, v1, v2⟩ H1
  have H1 : l_heldCpuS_L0 fl a0 fuel v1 v2 = some o0_0 := H1
  rcases fuel with _ | fuel
  ·rw [l_heldCpuS_L0.eq_1] at H1; cases H1
  rw [l_heldCpuS_L0.eq_2] at H1
  dsimp only
  refine cw_seq (sr (oM rfl (oM rfl (oD (stp_len Tryd.underlying35 rfl) rfl (oW rfl (nn (cw_cond rfl (fun h3 => ?_) (fun h3 => ?_))))))))
  ·have H1 := cond_t H1 h3
   obtain ⟨x4, e4, H1⟩ := bS H1
   refine cw_skip (kw_nx (cw_seq (cw_block (sr (oM rfl (oM rfl ?_))))))
   obtain ⟨u5, p6, n7, c8, p9, n10, c11, hw5, hl5, hx5, rfl, hr5, rfl, hs5⟩ := ROD.get hr0_0 e4
   obtain ⟨x12, e12, H1⟩ := bS H1
   refine oD (stp_indexAddr Tryd.underlying35 ts53 (by decide) rfl hl5 rfl (Rdb.ro hw5) hx5) rfl (oA 0 Tryd.underlying53 rfl ts51 rfl (oD (stp_load1 ts51 rfl (Cells.el (Rdb.ro hw5) (by decide) hx5 0 1 rfl)) rfl (oM rfl (oE (stpU_call (fun i => 0 + i) cf108 (fun w hw => c_l_heldNoteS fl w x4.n v1 rfl (RO.pass hr5 hw) x12 e12) (yB rfl rfl)) rfl ?_))))
   rintro _ _ ⟨_, ⟨rfl, rfl⟩, rfl⟩
   refine oS rfl (nn (cw_seq (sr (oM rfl (oW rfl (nn (cw_cond rfl (fun h13 => ?_) (fun h13 => ?_))))))))
   ·have H1 := cond_t H1 h13
    refine sr (oS rfl (nn (cw_ret (kw_nx_ret (kw_bl_ret (kw_nx_ret (kw_lq_ret (kw_bl_ret (kw_join_ret (kw_nx_ret ?_))))))))))
    obtain rfl := sI H1
    obtain rfl := sI H0
    exact kr Tryd.results57 (rT rfl) [] ⟨rfl, rfl⟩
   have H1 := cond_f H1 h13
   obtain ⟨x14, e14, H1⟩ := bS H1
   refine cw_skip (kw_nx (sr (oM rfl (oM rfl (oD (stp_indexAddr Tryd.underlying35 ts53 (by decide) rfl hl5 rfl (Rdb.ro hw5) hx5) rfl (oA 1 Tryd.underlying53 rfl ts51 rfl (oD (stp_load1 ts51 rfl (Cells.el (Rdb.ro hw5) (by decide) hx5 1 1 rfl)) rfl (oM rfl (oE (stpU_call (fun i => 0 + i) cf108 (fun w hw => c_l_heldNoteS fl w x4.w x12 rfl (RO.pass hs5 hw) x14 e14) (yB rfl rfl)) rfl ?_)))))))))
   rintro _ _ ⟨_, ⟨rfl, rfl⟩, rfl⟩
   refine oS rfl (nn (sr (oM rfl (oW rfl (nn (cw_cond rfl (fun h15 => ?_) (fun h15 => ?_)))))))
   ·have H1 := cond_t H1 h15
    refine sr (oS rfl (nn (cw_ret (kw_bl_ret (kw_nx_ret (kw_lq_ret (kw_bl_ret (kw_join_ret (kw_nx_ret ?_)))))))))
    obtain rfl := sI H1
    obtain rfl := sI H0
    exact kr Tryd.results57 (rT rfl) [] ⟨rfl, rfl⟩
   have H1 := cond_f H1 h15
   obtain ⟨x16, e16, H1⟩ := bS H1
   exact cw_skip (kw_bl_normal (kw_nx (cw_region (oM rfl (oP e16 rfl (oS rfl (ow_nil (kw_lqS (js := []) (fuel, x14, x16) H1 (Nat.lt_succ_self _) ⟨rfl, rfl, rfl, trivial⟩ trivial (by decide)))))))))
  have H1 := cond_f H1 h3
  refine cw_exit (kw_nx_exit (kw_lq_exit (kw_bl ?_)))
  obtain rfl := sI H1
  exact kw_joinS (js := []) (v1, v2) rfl ⟨rfl, rfl, rfl, trivial⟩ trivial (by decide)
 rintro ⟨v1, v2⟩ rfl
 dsimp only
 refine kw_nx (sr (oM rfl (oS rfl (nn (cw_ret ?_)))))
 obtain rfl := sI H0
 exact kr Tryd.results57 (rT rfl) [] ⟨rfl, rfl⟩

theorem c_l_heldSystem (fl : Nat) (w : World) (a0 : Sy) (a1 : Int) (hn0_0 : n0_0 = (a0.t.b).length) (hr0_0 : RO w (hkeys []) (RdL p0_0 c0_0 a0.t.b)) (hn0_1 : n0_1 = (a0.t.f).length) (hr0_1 : RO w (hkeys []) (RdL p0_1 c0_1 a0.t.f)) (hn0_2 : n0_2 = (a0.c).length) (hr0_2 : ROD w (hkeys []) p0_2 c0_2 a0.c) (r : Int) (H0 : l_heldSystem fl a0 a1 = some r) :
  Ct Tryd.prog 17 [.agg #[.slice p0_0 n0_0 c0_0, .slice p0_1 n0_1 c0_1, .slice p0_2 n0_2 c0_2], .int .i64 a1] w [] (fun rv h' => rv = .int .i64 r ∧ h' = []) := by
 subst hn0_0 hn0_1 hn0_2
 unfold l_heldSystem at H0
 refine ct_of_cw Tryd.func17 rfl Tryd.ntmps17 rfl (Sat.refl _ _) ?_
 refine sr (oE (stpU_box 0 rfl rfl) rfl ?_)
 rintro _ _ ⟨b1, rfl, rfl⟩
 obtain ⟨x2, e2, H0⟩ := bS H0
 refine oS rfl (nn (sr (oA 0 Tryd.underlying37 rfl ts34 rfl (oB2 0 ts34 rfl (oM rfl (oE (stpU_call (fun i => 1 + i) cf56 (fun w hw => c_l_heldTable fl w a0.t a1 rfl (RO.pass hr0_0 hw) rfl (RO.pass hr0_1 hw) x2 e2) (yB rfl rfl)) rfl ?_))))))
 rintro _ _ ⟨_, ⟨rfl, rfl⟩, rfl⟩
 refine oS rfl (nn (cw_seq (sr (oM rfl (oW rfl (nn (cw_cond rfl (fun h3 => ?_) (fun h3 => ?_))))))))
 ·have H0 := cond_t H0 h3
  refine sr (oS rfl (nn (cw_ret (kw_nx_ret ?_))))
  obtain rfl := sI H0
  exact kr Tryd.results17 (rT rfl) [] ⟨rfl, rfl⟩
 have H0 := cond_f H0 h3
 obtain ⟨x4, e4, H0⟩ := bS H0
 refine cw_skip (kw_nx (sr (oA 2 Tryd.underlying37 rfl ts35 rfl (oL 0 ts35 rfl (oM rfl (oE (stpU_call (fun i => 1 + i) cf57 (fun w hw => c_l_heldCpuS fl w a0.c x2 rfl (ROD.pass hr0_2 hw) x4 e4) (yB rfl rfl)) rfl ?_))))))
 rintro _ _ ⟨_, ⟨rfl, rfl⟩, rfl⟩
 refine oS rfl (nn (cw_seq (sr (oM rfl (oW rfl (nn (cw_cond rfl (fun h5 => ?_) (fun h5 => ?_))))))))
 ·have H0 := cond_t H0 h5
  refine sr (oS rfl (nn (cw_ret (kw_nx_ret ?_))))
  obtain rfl := sI H0
  exact kr Tryd.results17 (rT rfl) [] ⟨rfl, rfl⟩
 have H0 := cond_f H0 h5
 refine cw_skip (kw_nx (sr (oM rfl (oS rfl (nn (cw_ret ?_))))))
 obtain rfl := sI H0
 exact kr Tryd.results17 (rT rfl) [] ⟨rfl, rfl⟩
end Go.Proofs.YtfnliecmagnkdabDoor
