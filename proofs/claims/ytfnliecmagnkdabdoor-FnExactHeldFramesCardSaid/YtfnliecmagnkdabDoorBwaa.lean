/- The walks: functions of the program return what their pure functions say. Printed by a program (gen.py). -/
import Derived.Test.YtfnliecmagnkdabDoorBp
import Derived.Test.YtfnliecmagnkdabDoorBt
import Derived.Test.YtfnliecmagnkdabDoorMan
import Derived.Test.YtfnliecmagnkdabDoorMap
import Derived.Test.YtfnliecmagnkdabDoorCpy
import Derived.Test.YtfnliecmagnkdabDoorClr
import Derived.Test.YtfnliecmagnkdabDoorDp
import Derived.Test.YtfnliecmagnkdabDoorSrt
import Derived.Test.YtfnliecmagnkdabDoorE8
set_option linter.unusedSimpArgs false
set_option linter.unusedVariables false
set_option linter.unusedSectionVars false
namespace Go.Proofs.YtfnliecmagnkdabDoor
open Go.RowKit
set_option maxHeartbeats 4000000
set_option maxRecDepth 20000
variable {p0_0 p0_1 p0_2 p1_0 p1_1 p1_2 : Option Addr} {n0_0 n0_1 n0_2 n1_0 n1_1 n1_2 : Nat} {c0_0 c0_1 c0_2 c1_0 c1_1 c1_2 : Nat} {C0_0 C0_1 C0_2 : Res}
theorem c_l_szIntS (fl : Nat) (w : World) (a0 : (List Int)) (a1 : Int) (hn0_0 : n0_0 = (a0).length) (hr0_0 : RO w (hkeys []) (RdL p0_0 c0_0 a0)) (r : Int) (H0 : l_szIntS fl a0 a1 = some r) :
  Ct Tryd.prog 84 [.slice p0_0 n0_0 c0_0, .int .i64 a1] w [] (fun rv h' => rv = .int .i64 r ∧ h' = []) := by
 subst hn0_0
 unfold l_szIntS at H0
 refine ct_of_cw Tryd.func84 rfl Tryd.ntmps84 rfl (Sat.refl _ _) ?_
 obtain ⟨x1, e1, H0⟩ := bS H0
 refine sr (oS rfl (nn (sr (oM rfl (oM rfl (oD (stp_len Tryd.underlying22 rfl) rfl (oD (stp_sub rfl rfl e1) rfl (oS rfl (nn (cw_seq (sr (oM rfl (oW rfl ?_)))))))))))))
 refine nn (cw_cond rfl (fun h2 => ?_) (fun h2 => ?_))
 ·have H0 := cond_t H0 h2
  refine sr (oS rfl (nn (cw_ret (kw_nx_ret ?_))))
  obtain rfl := sI H0
  exact kr Tryd.results84 (rT rfl) [] ⟨rfl, rfl⟩
 have H0 := cond_f H0 h2
 refine cw_skip (kw_nx (sr (oM rfl (oS rfl (nn (cw_ret ?_))))))
 obtain rfl := sI H0
 exact kr Tryd.results84 (rT rfl) [] ⟨rfl, rfl⟩

theorem c_l_szFrameS (fl : Nat) (w : World) (a0 : (List F)) (a1 : Int) (hn0_0 : n0_0 = (a0).length) (hr0_0 : RO w (hkeys []) (RdL p0_0 c0_0 a0)) (r : Int) (H0 : l_szFrameS fl a0 a1 = some r) :
  Ct Tryd.prog 85 [.slice p0_0 n0_0 c0_0, .int .i64 a1] w [] (fun rv h' => rv = .int .i64 r ∧ h' = []) := by
 subst hn0_0
 unfold l_szFrameS at H0
 refine ct_of_cw Tryd.func85 rfl Tryd.ntmps85 rfl (Sat.refl _ _) ?_
 obtain ⟨x1, e1, H0⟩ := bS H0
 refine sr (oS rfl (nn (sr (oM rfl (oM rfl (oD (stp_len Tryd.underlying23 rfl) rfl (oD (stp_sub rfl rfl e1) rfl (oS rfl (nn (cw_seq (sr (oM rfl (oW rfl ?_)))))))))))))
 refine nn (cw_cond rfl (fun h2 => ?_) (fun h2 => ?_))
 ·have H0 := cond_t H0 h2
  refine sr (oS rfl (nn (cw_ret (kw_nx_ret ?_))))
  obtain rfl := sI H0
  exact kr Tryd.results85 (rT rfl) [] ⟨rfl, rfl⟩
 have H0 := cond_f H0 h2
 refine cw_skip (kw_nx (sr (oM rfl (oS rfl (nn (cw_ret ?_))))))
 obtain rfl := sI H0
 exact kr Tryd.results85 (rT rfl) [] ⟨rfl, rfl⟩

theorem c_l_szTable (fl : Nat) (w : World) (a0 : T) (a1 : Int) (hn0_0 : n0_0 = (a0.b).length) (hr0_0 : RO w (hkeys []) (RdL p0_0 c0_0 a0.b)) (hn0_1 : n0_1 = (a0.f).length) (hr0_1 : RO w (hkeys []) (RdL p0_1 c0_1 a0.f)) (r : Int) (H0 : l_szTable fl a0 a1 = some r) :
  Ct Tryd.prog 35 [.agg #[.slice p0_0 n0_0 c0_0, .slice p0_1 n0_1 c0_1], .int .i64 a1] w [] (fun rv h' => rv = .int .i64 r ∧ h' = []) := by
 subst hn0_0 hn0_1
 unfold l_szTable at H0
 refine ct_of_cw Tryd.func35 rfl Tryd.ntmps35 rfl (Sat.refl _ _) ?_
 refine sr (oE (stpU_box 0 rfl rfl) rfl ?_)
 rintro _ _ ⟨b1, rfl, rfl⟩
 obtain ⟨x2, e2, H0⟩ := bS H0
 refine oS rfl (nn (sr (oA 0 Tryd.underlying25 rfl ts22 rfl (oL 0 ts22 rfl (oM rfl (oE (stpU_call (fun i => 1 + i) cf84 (fun w hw => c_l_szIntS fl w a0.b a1 rfl (RO.pass hr0_0 hw) x2 e2) (yB rfl rfl)) rfl ?_))))))
 rintro _ _ ⟨_, ⟨rfl, rfl⟩, rfl⟩
 refine oS rfl (nn (cw_seq (sr (oM rfl (oW rfl (nn (cw_cond rfl (fun h3 => ?_) (fun h3 => ?_))))))))
 ·have H0 := cond_t H0 h3
  refine sr (oS rfl (nn (cw_ret (kw_nx_ret ?_))))
  obtain rfl := sI H0
  exact kr Tryd.results35 (rT rfl) [] ⟨rfl, rfl⟩
 have H0 := cond_f H0 h3
 obtain ⟨x4, e4, H0⟩ := bS H0
 refine cw_skip (kw_nx (sr (oA 1 Tryd.underlying25 rfl ts23 rfl (oL 0 ts23 rfl (oM rfl (oE (stpU_call (fun i => 1 + i) cf85 (fun w hw => c_l_szFrameS fl w a0.f x2 rfl (RO.pass hr0_1 hw) x4 e4) (yB rfl rfl)) rfl ?_))))))
 rintro _ _ ⟨_, ⟨rfl, rfl⟩, rfl⟩
 refine oS rfl (nn (cw_seq (sr (oM rfl (oW rfl (nn (cw_cond rfl (fun h5 => ?_) (fun h5 => ?_))))))))
 ·have H0 := cond_t H0 h5
  refine sr (oS rfl (nn (cw_ret (kw_nx_ret ?_))))
  obtain rfl := sI H0
  exact kr Tryd.results35 (rT rfl) [] ⟨rfl, rfl⟩
 have H0 := cond_f H0 h5
 refine cw_skip (kw_nx (sr (oM rfl (oS rfl (nn (cw_ret ?_))))))
 obtain rfl := sI H0
 exact kr Tryd.results35 (rT rfl) [] ⟨rfl, rfl⟩

theorem c_l_szNoteS (fl : Nat) (w : World) (a0 : (List Nt)) (a1 : Int) (hn0_0 : n0_0 = (a0).length) (hr0_0 : RO w (hkeys []) (RdL p0_0 c0_0 a0)) (r : Int) (H0 : l_szNoteS fl a0 a1 = some r) :
  Ct Tryd.prog 126 [.slice p0_0 n0_0 c0_0, .int .i64 a1] w [] (fun rv h' => rv = .int .i64 r ∧ h' = []) := by
 subst hn0_0
 unfold l_szNoteS at H0
 refine ct_of_cw Tryd.func126 rfl Tryd.ntmps126 rfl (Sat.refl _ _) ?_
 obtain ⟨x1, e1, H0⟩ := bS H0
 refine sr (oS rfl (nn (sr (oM rfl (oM rfl (oD (stp_len Tryd.underlying114 rfl) rfl (oD (stp_sub rfl rfl e1) rfl (oS rfl (nn (cw_seq (sr (oM rfl (oW rfl ?_)))))))))))))
 refine nn (cw_cond rfl (fun h2 => ?_) (fun h2 => ?_))
 ·have H0 := cond_t H0 h2
  refine sr (oS rfl (nn (cw_ret (kw_nx_ret ?_))))
  obtain rfl := sI H0
  exact kr Tryd.results126 (rT rfl) [] ⟨rfl, rfl⟩
 have H0 := cond_f H0 h2
 refine cw_skip (kw_nx (sr (oM rfl (oS rfl (nn (cw_ret ?_))))))
 obtain rfl := sI H0
 exact kr Tryd.results126 (rT rfl) [] ⟨rfl, rfl⟩

theorem c_l_szCpu (fl : Nat) (w : World) (a0 : Cp) (a1 : Int) (hn0_0 : n0_0 = (a0.n).length) (hr0_0 : RO w (hkeys []) (RdL p0_0 c0_0 a0.n)) (hn0_1 : n0_1 = (a0.w).length) (hr0_1 : RO w (hkeys []) (RdL p0_1 c0_1 a0.w)) (r : Int) (H0 : l_szCpu fl a0 a1 = some r) :
  Ct Tryd.prog 86 [.agg #[.slice p0_0 n0_0 c0_0, .slice p0_1 n0_1 c0_1], .int .i64 a1] w [] (fun rv h' => rv = .int .i64 r ∧ h' = []) := by
 subst hn0_0 hn0_1
 unfold l_szCpu at H0
 refine ct_of_cw Tryd.func86 rfl Tryd.ntmps86 rfl (Sat.refl _ _) ?_
 refine sr (oE (stpU_box 0 rfl rfl) rfl ?_)
 rintro _ _ ⟨b1, rfl, rfl⟩
 obtain ⟨x2, e2, H0⟩ := bS H0
 refine oS rfl (nn (sr (oA 0 Tryd.underlying116 rfl ts114 rfl (oL 0 ts114 rfl (oM rfl (oE (stpU_call (fun i => 1 + i) cf126 (fun w hw => c_l_szNoteS fl w a0.n a1 rfl (RO.pass hr0_0 hw) x2 e2) (yB rfl rfl)) rfl ?_))))))
 rintro _ _ ⟨_, ⟨rfl, rfl⟩, rfl⟩
 refine oS rfl (nn (cw_seq (sr (oM rfl (oW rfl (nn (cw_cond rfl (fun h3 => ?_) (fun h3 => ?_))))))))
 ·have H0 := cond_t H0 h3
  refine sr (oS rfl (nn (cw_ret (kw_nx_ret ?_))))
  obtain rfl := sI H0
  exact kr Tryd.results86 (rT rfl) [] ⟨rfl, rfl⟩
 have H0 := cond_f H0 h3
 obtain ⟨x4, e4, H0⟩ := bS H0
 refine cw_skip (kw_nx (sr (oA 1 Tryd.underlying116 rfl ts114 rfl (oL 0 ts114 rfl (oM rfl (oE (stpU_call (fun i => 1 + i) cf126 (fun w hw => c_l_szNoteS fl w a0.w x2 rfl (RO.pass hr0_1 hw) x4 e4) (yB rfl rfl)) rfl ?_))))))
 rintro _ _ ⟨_, ⟨rfl, rfl⟩, rfl⟩
 refine oS rfl (nn (cw_seq (sr (oM rfl (oW rfl (nn (cw_cond rfl (fun h5 => ?_) (fun h5 => ?_))))))))
 ·have H0 := cond_t H0 h5
  refine sr (oS rfl (nn (cw_ret (kw_nx_ret ?_))))
  obtain rfl := sI H0
  exact kr Tryd.results86 (rT rfl) [] ⟨rfl, rfl⟩
 have H0 := cond_f H0 h5
 refine cw_skip (kw_nx (sr (oM rfl (oS rfl (nn (cw_ret ?_))))))
 obtain rfl := sI H0
 exact kr Tryd.results86 (rT rfl) [] ⟨rfl, rfl⟩

theorem c_l_szCpuS (fl : Nat) (w : World) (a0 : (List Cp)) (a1 : Int) (hn0_0 : n0_0 = (a0).length) (hr0_0 : ROD w (hkeys []) p0_0 c0_0 a0) (r : Int) (H0 : l_szCpuS fl a0 a1 = some r) :
  Ct Tryd.prog 36 [.slice p0_0 n0_0 c0_0, .int .i64 a1] w [] (fun rv h' => rv = .int .i64 r ∧ h' = []) := by
 subst hn0_0
 unfold l_szCpuS at H0
 refine ct_of_cw Tryd.func36 rfl Tryd.ntmps36 rfl (Sat.refl _ _) ?_
 obtain ⟨x1, e1, H0⟩ := bS H0
 refine sr (oS rfl (nn (sr (oM rfl (oM rfl (oD (stp_len Tryd.underlying26 rfl) rfl (oD (stp_sub rfl rfl e1) rfl (oS rfl (nn (cw_seq (sr (oM rfl (oW rfl ?_)))))))))))))
 refine nn (cw_cond rfl (fun h2 => ?_) (fun h2 => ?_))
 ·have H0 := cond_t H0 h2
  refine sr (oS rfl (nn (cw_ret (kw_nx_ret ?_))))
  obtain rfl := sI H0
  exact kr Tryd.results36 (rT rfl) [] ⟨rfl, rfl⟩
 have H0 := cond_f H0 h2
 obtain ⟨o0_0, eo0_0, H0⟩ := bS H0
 refine cw_skip (kw_nx (cw_seq (sr (oS rfl (nn (cw_join (ι := Int × Int) (fun | (v3, v4) => o0_0 = .out (v3, v4)) (fun | (v3, v4) => [(0, .slice p0_0 ((a0).length) c0_0), (1, .int .i64 v3), (5, .int .i64 v4)]) (fun | (v3, v4) => []) ?_ ?_))))))
 ·refine cw_block (cw_loopS (ι := Nat × Int × Int) (js := []) (fun x => x.1) (fun | (fuel, v3, v4) => l_szCpuS_L0 fl a0 fuel v3 v4 = some o0_0) (fun | (_, v3, v4) => [(0, .slice p0_0 ((a0).length) c0_0), (1, .int .i64 v3), (5, .int .i64 v4)]) (fun | (_, v3, v4) => []) (fl, x1, 0) eo0_0 ⟨rfl, rfl, rfl, trivial⟩ trivial (by decide) ?_)
  rintro ⟨fuel, v3, v4⟩ H1
  have H1 : l_szCpuS_L0 fl a0 fuel v3 v4 = some o0_0 := H1
  rcases fuel with _ | fuel
  ·rw [l_szCpuS_L0.eq_1] at H1; cases H1
  rw [l_szCpuS_L0.eq_2] at H1
  dsimp only
  refine cw_seq (sr (oM rfl (oM rfl (oD (stp_len Tryd.underlying26 rfl) rfl (oW rfl (nn (cw_cond rfl (fun h5 => ?_) (fun h5 => ?_))))))))
  ·have H1 := cond_t H1 h5
   obtain ⟨x6, e6, H1⟩ := bS H1
   refine cw_skip (kw_nx (cw_seq (cw_block (sr (oM rfl (oM rfl ?_))))))
   obtain ⟨u7, p8, n9, c10, p11, n12, c13, hw7, hl7, hx7, rfl, hr7, rfl, hs7⟩ := ROD.get hr0_0 e6
   obtain ⟨x14, e14, H1⟩ := bS H1
   refine oD (stp_indexAddr Tryd.underlying26 ts116 (by decide) rfl hl7 rfl (Rdb.ro hw7) hx7) rfl (oD (stp_loadN (us := [_, _]) ts116 rfl (Cells.el (Rdb.ro hw7) (by decide) hx7 0 2 rfl)) rfl (oM rfl (oE (stpU_call (fun i => 0 + i) cf86 (fun w hw => c_l_szCpu fl w x6 v3 rfl (RO.pass hr7 hw) rfl (RO.pass hs7 hw) x14 e14) (yB rfl rfl)) rfl ?_)))
   rintro _ _ ⟨_, ⟨rfl, rfl⟩, rfl⟩
   refine oS rfl (nn (sr (oM rfl (oW rfl (nn (cw_cond rfl (fun h15 => ?_) (fun h15 => ?_)))))))
   ·have H1 := cond_t H1 h15
    refine sr (oS rfl (nn (cw_ret (kw_bl_ret (kw_nx_ret (kw_lq_ret (kw_bl_ret (kw_join_ret (kw_nx_ret ?_)))))))))
    obtain rfl := sI H1
    obtain rfl := sI H0
    exact kr Tryd.results36 (rT rfl) [] ⟨rfl, rfl⟩
   have H1 := cond_f H1 h15
   obtain ⟨x16, e16, H1⟩ := bS H1
   exact cw_skip (kw_bl_normal (kw_nx (cw_region (oM rfl (oP e16 rfl (oS rfl (ow_nil (kw_lqS (js := []) (fuel, x14, x16) H1 (Nat.lt_succ_self _) ⟨rfl, rfl, rfl, trivial⟩ trivial (by decide)))))))))
  have H1 := cond_f H1 h5
  refine cw_exit (kw_nx_exit (kw_lq_exit (kw_bl ?_)))
  obtain rfl := sI H1
  exact kw_joinS (js := []) (v3, v4) rfl ⟨rfl, rfl, rfl, trivial⟩ trivial (by decide)
 rintro ⟨v3, v4⟩ rfl
 dsimp only
 refine kw_nx (sr (oM rfl (oS rfl (nn (cw_ret ?_)))))
 obtain rfl := sI H0
 exact kr Tryd.results36 (rT rfl) [] ⟨rfl, rfl⟩

theorem c_l_szSystem (fl : Nat) (w : World) (a0 : Sy) (a1 : Int) (hn0_0 : n0_0 = (a0.t.b).length) (hr0_0 : RO w (hkeys []) (RdL p0_0 c0_0 a0.t.b)) (hn0_1 : n0_1 = (a0.t.f).length) (hr0_1 : RO w (hkeys []) (RdL p0_1 c0_1 a0.t.f)) (hn0_2 : n0_2 = (a0.c).length) (hr0_2 : ROD w (hkeys []) p0_2 c0_2 a0.c) (r : Int) (H0 : l_szSystem fl a0 a1 = some r) :
  Ct Tryd.prog 10 [.agg #[.slice p0_0 n0_0 c0_0, .slice p0_1 n0_1 c0_1, .slice p0_2 n0_2 c0_2], .int .i64 a1] w [] (fun rv h' => rv = .int .i64 r ∧ h' = []) := by
 subst hn0_0 hn0_1 hn0_2
 unfold l_szSystem at H0
 refine ct_of_cw Tryd.func10 rfl Tryd.ntmps10 rfl (Sat.refl _ _) ?_
 refine sr (oE (stpU_box 0 rfl rfl) rfl ?_)
 rintro _ _ ⟨b1, rfl, rfl⟩
 obtain ⟨x2, e2, H0⟩ := bS H0
 refine oS rfl (nn (sr (oA 0 Tryd.underlying28 rfl ts25 rfl (oB2 0 ts25 rfl (oM rfl (oE (stpU_call (fun i => 1 + i) cf35 (fun w hw => c_l_szTable fl w a0.t a1 rfl (RO.pass hr0_0 hw) rfl (RO.pass hr0_1 hw) x2 e2) (yB rfl rfl)) rfl ?_))))))
 rintro _ _ ⟨_, ⟨rfl, rfl⟩, rfl⟩
 refine oS rfl (nn (cw_seq (sr (oM rfl (oW rfl (nn (cw_cond rfl (fun h3 => ?_) (fun h3 => ?_))))))))
 ·have H0 := cond_t H0 h3
  refine sr (oS rfl (nn (cw_ret (kw_nx_ret ?_))))
  obtain rfl := sI H0
  exact kr Tryd.results10 (rT rfl) [] ⟨rfl, rfl⟩
 have H0 := cond_f H0 h3
 obtain ⟨x4, e4, H0⟩ := bS H0
 refine cw_skip (kw_nx (sr (oA 2 Tryd.underlying28 rfl ts26 rfl (oL 0 ts26 rfl (oM rfl (oE (stpU_call (fun i => 1 + i) cf36 (fun w hw => c_l_szCpuS fl w a0.c x2 rfl (ROD.pass hr0_2 hw) x4 e4) (yB rfl rfl)) rfl ?_))))))
 rintro _ _ ⟨_, ⟨rfl, rfl⟩, rfl⟩
 refine oS rfl (nn (cw_seq (sr (oM rfl (oW rfl (nn (cw_cond rfl (fun h5 => ?_) (fun h5 => ?_))))))))
 ·have H0 := cond_t H0 h5
  refine sr (oS rfl (nn (cw_ret (kw_nx_ret ?_))))
  obtain rfl := sI H0
  exact kr Tryd.results10 (rT rfl) [] ⟨rfl, rfl⟩
 have H0 := cond_f H0 h5
 refine cw_skip (kw_nx (sr (oM rfl (oS rfl (nn (cw_ret ?_))))))
 obtain rfl := sI H0
 exact kr Tryd.results10 (rT rfl) [] ⟨rfl, rfl⟩

theorem c_l_toIntS (fl : Nat) (w : World) (a0 : (List Int)) (hn0_0 : n0_0 = (a0).length) (hr0_0 : RO w (hkeys []) (RdL p0_0 c0_0 a0)) (r : (List Int)) (H0 : l_toIntS fl a0 = some r) :
  Ct Tryd.prog 92 [.slice p0_0 n0_0 c0_0] w [] (fun rv h' => ∃ (x0 : Option Addr) (y0 z0 : Nat) (C0 : Res), rv = .slice x0 y0 z0 ∧ h' = [(0, C0)] ∧ y0 = (r).length ∧ OwnC 3 x0 z0 r C0) := by
 subst hn0_0
 unfold l_toIntS at H0
 refine ct_of_cw Tryd.func92 rfl Tryd.ntmps92 rfl (Sat.refl _ _) ?_
 obtain ⟨x1, e1, H0⟩ := bS H0
 refine sr (oS rfl (nn (sr (oM rfl (oD (stp_len Tryd.underlying22 rfl) rfl (oE (stpU_make sl22 rfl 0 rfl rfl e1) rfl ?_))))))
 rintro _ _ ⟨p2, C3, rfl, rfl, o3⟩
 obtain ⟨o0_0, eo0_0, H0⟩ := bS H0
 refine oS rfl (nn (cw_seq (sr (oS rfl (nn (cw_join (ι := (List Int) × Int × Res) (fun | (v4, v6, C5) => o0_0 = .out (v4, v6) ∧ x1 = (v4).length ∧ OwnC 3 p2 x1 v4 C5) (fun | (v4, v6, C5) => [(0, .slice p0_0 ((a0).length) c0_0), (3, .slice p2 x1 x1), (4, .int .i64 v6)]) (fun | (v4, v6, C5) => [(0, C5)]) ?_ ?_))))))
 ·refine cw_block (cw_loopS (ι := Nat × (List Int) × Int × Res) (js := [0]) (fun x => x.1) (fun | (fuel, v4, v6, C5) => l_toIntS_L0 fl a0 fuel v4 v6 = some o0_0 ∧ x1 = (v4).length ∧ OwnC 3 p2 x1 v4 C5) (fun | (_, v4, v6, C5) => [(0, .slice p0_0 ((a0).length) c0_0), (3, .slice p2 x1 x1), (4, .int .i64 v6)]) (fun | (_, v4, v6, C5) => [(0, C5)]) (fl, (List.replicate x1 (0 : Int)), 0, C3) ⟨eo0_0, (by simp), o3⟩ ⟨rfl, rfl, rfl, trivial⟩ ⟨0, [], rfl, rfl, trivial⟩ (by decide) ?_)
  rintro ⟨fuel, v4, v6, C5⟩ ⟨H1, hl5, o5⟩
  have H1 : l_toIntS_L0 fl a0 fuel v4 v6 = some o0_0 := H1
  rcases fuel with _ | fuel
  ·rw [l_toIntS_L0.eq_1] at H1; cases H1
  rw [l_toIntS_L0.eq_2] at H1
  dsimp only
  refine cw_seq (sr (oM rfl (oM rfl (oD (stp_len Tryd.underlying22 rfl) rfl (oW rfl (nn (cw_cond rfl (fun h7 => ?_) (fun h7 => ?_))))))))
  ·have H1 := cond_t H1 h7
   obtain ⟨x8, e8, H1⟩ := bS H1
   obtain ⟨x9, e9, H1⟩ := bS H1
   refine cw_skip (kw_nx (cw_seq (cw_block (cw_region (oM rfl (oM rfl (oM rfl (oM rfl (oD (stp_indexAddr Tryd.underlying22 ts3 (by decide) rfl rfl rfl (Rdb.ro hr0_0) e8) rfl (oD (stp_load1 ts3 rfl (Cells.el (Rdb.ro hr0_0) (by decide) e8 0 1 rfl)) rfl (oD (stp_indexAddr Tryd.underlying22 ts3 (by decide) rfl (by simp [hl5]) rfl (Rdb.own (id := 0) rfl o5) e9) rfl (oF (stpU_storeEl (id := 0) (i := 0) x8 (by decide) ts3 rfl rfl rfl o5 e9 rfl rfl rfl rfl) ?_))))))))))))
   rintro _ _ ⟨C10, rfl, o10⟩
   obtain ⟨x11, e11, H1⟩ := bS H1
   exact ow_nil (kw_bl_normal (kw_nx (cw_region (oM rfl (oP e11 rfl (oS rfl (ow_nil (kw_lqS (js := [0]) (fuel, (v4.set (Int.toNat v6) x8), x11, C10) ⟨H1, (by simp [hl5]), o10⟩ (Nat.lt_succ_self _) ⟨rfl, rfl, rfl, trivial⟩ ⟨0, [], rfl, rfl, trivial⟩ (by decide)))))))))
  have H1 := cond_f H1 h7
  refine cw_exit (kw_nx_exit (kw_lq_exit (kw_bl ?_)))
  obtain rfl := sI H1
  exact kw_joinS (js := [0]) (v4, v6, C5) ⟨rfl, (by simp [hl5]), o5⟩ ⟨rfl, rfl, rfl, trivial⟩ ⟨0, [], rfl, rfl, trivial⟩ (by decide)
 rintro ⟨v4, v6, C5⟩ ⟨rfl, hl5, o5⟩
 dsimp only
 refine kw_nx (sr (oM rfl (oS rfl (nn (cw_ret ?_)))))
 obtain rfl := sI H0
 exact kr Tryd.results92 (rT rfl) [0] ⟨_, _, _, _, rfl, rfl, (by simp [hl5]), o5⟩

theorem c_l_toKey (fl : Nat) (w : World) (a0 : K) (r : K) (H0 : l_toKey fl a0 = some r) :
  Ct Tryd.prog 13 [.agg #[.int .i64 a0.s, .int .i64 a0.p]] w [] (fun rv h' => rv = .agg #[.int .i64 r.s, .int .i64 r.p] ∧ h' = []) := by
 unfold l_toKey at H0
 refine ct_of_cw Tryd.func13 rfl Tryd.ntmps13 rfl (Sat.refl _ _) ?_
 refine sr (oE (stpU_box 0 rfl rfl) rfl ?_)
 rintro _ _ ⟨b1, rfl, rfl⟩
 refine oE (stpU_alloc 1 tz41 rfl) rfl ?_
 rintro _ _ ⟨b2, rfl, rfl⟩
 refine nn (sr (oE (stpU_alloc 2 tz41 rfl) rfl ?_))
 rintro _ _ ⟨b3, rfl, rfl⟩
 refine nn (sr (oA 0 Tryd.underlying30 rfl ts3 rfl (oL 0 ts3 rfl (oA 0 Tryd.underlying41 rfl ts3 rfl (oC2 2 ts3 rfl rfl (nn (sr (oA 1 Tryd.underlying30 rfl ts3 rfl (oL 0 ts3 rfl (oA 1 Tryd.underlying41 rfl ts3 rfl (oC2 2 ts3 rfl rfl (nn (sr ?_)))))))))))))
 refine oB2 2 ts41 rfl (oC2 1 ts41 rfl rfl (nn (cw_ret ?_)))
 obtain rfl := sI H0
 exact kr Tryd.results13 (rC2 1 ts41 rfl rfl) [] ⟨rfl, rfl⟩

theorem c_l_toFrame (fl : Nat) (w : World) (a0 : F) (r : F) (H0 : l_toFrame fl a0 = some r) :
  Ct Tryd.prog 127 [.agg #[.bool a0.u, .int .i64 a0.k.s, .int .i64 a0.k.p, .int .i64 a0.r, .int .i64 a0.nx]] w [] (fun rv h' => rv = .agg #[.bool r.u, .int .i64 r.k.s, .int .i64 r.k.p, .int .i64 r.r, .int .i64 r.nx] ∧ h' = []) := by
 unfold l_toFrame at H0
 refine ct_of_cw Tryd.func127 rfl Tryd.ntmps127 rfl (Sat.refl _ _) ?_
 refine sr (oE (stpU_box 0 rfl rfl) rfl ?_)
 rintro _ _ ⟨b1, rfl, rfl⟩
 refine oE (stpU_alloc 1 tz71 rfl) rfl ?_
 rintro _ _ ⟨b2, rfl, rfl⟩
 refine nn (sr (oE (stpU_alloc 2 tz71 rfl) rfl ?_))
 rintro _ _ ⟨b3, rfl, rfl⟩
 obtain ⟨x4, e4, H0⟩ := bS H0
 refine nn (sr (oA 0 Tryd.underlying150 rfl ts4 rfl (oL 0 ts4 rfl (oA 0 Tryd.underlying71 rfl ts4 rfl (oC5 2 ts4 rfl rfl (nn (sr (oA 1 Tryd.underlying150 rfl ts30 rfl (oB2 0 ts30 rfl (oE (stpU_call (fun i => 3 + i) cf13 (fun w hw => c_l_toKey fl w a0.k x4 e4) (yA rfl)) rfl ?_))))))))))
 rintro _ _ ⟨_, ⟨rfl, rfl⟩, rfl⟩
 refine oA 1 Tryd.underlying71 rfl ts41 rfl (oC5 2 ts41 rfl rfl (nn (sr (oA 3 Tryd.underlying150 rfl ts3 rfl (oL 0 ts3 rfl (oA 3 Tryd.underlying71 rfl ts3 rfl (oC5 2 ts3 rfl rfl (nn (sr (oA 4 Tryd.underlying150 rfl ts3 rfl (oL 0 ts3 rfl (oA 4 Tryd.underlying71 rfl ts3 rfl (oC5 2 ts3 rfl rfl ?_)))))))))))))
 refine nn (sr (oB5 2 ts71 rfl (oC5 1 ts71 rfl rfl (nn (cw_ret ?_)))))
 obtain rfl := sI H0
 exact kr Tryd.results127 (rC5 1 ts71 rfl rfl) [] ⟨rfl, rfl⟩

theorem c_l_toFrameS (fl : Nat) (w : World) (a0 : (List F)) (hn0_0 : n0_0 = (a0).length) (hr0_0 : RO w (hkeys []) (RdL p0_0 c0_0 a0)) (r : (List F)) (H0 : l_toFrameS fl a0 = some r) :
  Ct Tryd.prog 93 [.slice p0_0 n0_0 c0_0] w [] (fun rv h' => ∃ (x0 : Option Addr) (y0 z0 : Nat) (C0 : Res), rv = .slice x0 y0 z0 ∧ h' = [(0, C0)] ∧ y0 = (r).length ∧ OwnC 71 x0 z0 r C0) := by
 subst hn0_0
 unfold l_toFrameS at H0
 refine ct_of_cw Tryd.func93 rfl Tryd.ntmps93 rfl (Sat.refl _ _) ?_
 obtain ⟨x1, e1, H0⟩ := bS H0
 refine sr (oS rfl (nn (sr (oM rfl (oD (stp_len Tryd.underlying23 rfl) rfl (oE (stpU_make sl32 rfl 0 rfl rfl e1) rfl ?_))))))
 rintro _ _ ⟨p2, C3, rfl, rfl, o3⟩
 obtain ⟨o0_0, eo0_0, H0⟩ := bS H0
 refine oS rfl (nn (cw_seq (sr (oS rfl (nn (cw_join (ι := (List F) × Int × Res) (fun | (v4, v6, C5) => o0_0 = .out (v4, v6) ∧ x1 = (v4).length ∧ OwnC 71 p2 x1 v4 C5) (fun | (v4, v6, C5) => [(0, .slice p0_0 ((a0).length) c0_0), (3, .slice p2 x1 x1), (4, .int .i64 v6)]) (fun | (v4, v6, C5) => [(0, C5)]) ?_ ?_))))))
 ·refine cw_block (cw_loopS (ι := Nat × (List F) × Int × Res) (js := [0]) (fun x => x.1) (fun | (fuel, v4, v6, C5) => l_toFrameS_L0 fl a0 fuel v4 v6 = some o0_0 ∧ x1 = (v4).length ∧ OwnC 71 p2 x1 v4 C5) (fun | (_, v4, v6, C5) => [(0, .slice p0_0 ((a0).length) c0_0), (3, .slice p2 x1 x1), (4, .int .i64 v6)]) (fun | (_, v4, v6, C5) => [(0, C5)]) (fl, (List.replicate x1 (⟨false, (⟨0, 0⟩ : K), 0, 0⟩ : F)), 0, C3) ⟨eo0_0, (by simp), o3⟩ ⟨rfl, rfl, rfl, trivial⟩ ⟨0, [], rfl, rfl, trivial⟩ (by decide) ?_)
  rintro ⟨fuel, v4, v6, C5⟩ ⟨H1, hl5, o5⟩
  have H1 : l_toFrameS_L0 fl a0 fuel v4 v6 = some o0_0 := H1
  rcases fuel with _ | fuel
  ·rw [l_toFrameS_L0.eq_1] at H1; cases H1
  rw [l_toFrameS_L0.eq_2] at H1
  dsimp only
  refine cw_seq (sr (oM rfl (oM rfl (oD (stp_len Tryd.underlying23 rfl) rfl (oW rfl (nn (cw_cond rfl (fun h7 => ?_) (fun h7 => ?_))))))))
  ·have H1 := cond_t H1 h7
   obtain ⟨x8, e8, H1⟩ := bS H1
   obtain ⟨x9, e9, H1⟩ := bS H1
   refine cw_skip (kw_nx (cw_seq (cw_block (cw_region (oM rfl (oM rfl (oM rfl (oM rfl (oD (stp_indexAddr Tryd.underlying23 ts150 (by decide) rfl rfl rfl (Rdb.ro hr0_0) e8) rfl (oD (stp_loadN (us := [_, _, _, _, _]) ts150 rfl (Cells.el (Rdb.ro hr0_0) (by decide) e8 0 5 rfl)) rfl (oE (stpU_call (fun i => 1 + i) cf127 (fun w hw => c_l_toFrame fl w x8 x9 e9) (yA rfl)) rfl ?_)))))))))))
   rintro _ _ ⟨_, ⟨rfl, rfl⟩, rfl⟩
   obtain ⟨x10, e10, H1⟩ := bS H1
   refine oD (stp_indexAddr Tryd.underlying32 ts71 (by decide) rfl (by simp [hl5]) rfl (Rdb.own (id := 0) rfl o5) e10) rfl (oF (stpU_storeEl (id := 0) (i := 0) x9 (by decide) ts71 rfl rfl rfl o5 e10 rfl rfl rfl rfl) ?_)
   rintro _ _ ⟨C11, rfl, o11⟩
   obtain ⟨x12, e12, H1⟩ := bS H1
   exact ow_nil (kw_bl_normal (kw_nx (cw_region (oM rfl (oP e12 rfl (oS rfl (ow_nil (kw_lqS (js := [0]) (fuel, (v4.set (Int.toNat v6) x9), x12, C11) ⟨H1, (by simp [hl5]), o11⟩ (Nat.lt_succ_self _) ⟨rfl, rfl, rfl, trivial⟩ ⟨0, [], rfl, rfl, trivial⟩ (by decide)))))))))
  have H1 := cond_f H1 h7
  refine cw_exit (kw_nx_exit (kw_lq_exit (kw_bl ?_)))
  obtain rfl := sI H1
  exact kw_joinS (js := [0]) (v4, v6, C5) ⟨rfl, (by simp [hl5]), o5⟩ ⟨rfl, rfl, rfl, trivial⟩ ⟨0, [], rfl, rfl, trivial⟩ (by decide)
 rintro ⟨v4, v6, C5⟩ ⟨rfl, hl5, o5⟩
 dsimp only
 refine kw_nx (sr (oM rfl (oS rfl (nn (cw_ret ?_)))))
 obtain rfl := sI H0
 exact kr Tryd.results93 (rT rfl) [0] ⟨_, _, _, _, rfl, rfl, (by simp [hl5]), o5⟩

theorem c_l_toTable (fl : Nat) (w : World) (a0 : T) (hn0_0 : n0_0 = (a0.b).length) (hr0_0 : RO w (hkeys []) (RdL p0_0 c0_0 a0.b)) (hn0_1 : n0_1 = (a0.f).length) (hr0_1 : RO w (hkeys []) (RdL p0_1 c0_1 a0.f)) (r : T) (H0 : l_toTable fl a0 = some r) :
  Ct Tryd.prog 43 [.agg #[.slice p0_0 n0_0 c0_0, .slice p0_1 n0_1 c0_1]] w [] (fun rv h' => ∃ (x0 : Option Addr) (y0 z0 : Nat) (C0 : Res) (x1 : Option Addr) (y1 z1 : Nat) (C1 : Res), rv = .agg #[.slice x0 y0 z0, .slice x1 y1 z1] ∧ h' = [(0, C0), (1, C1)] ∧ y0 = (r.b).length ∧ OwnC 3 x0 z0 r.b C0 ∧ y1 = (r.f).length ∧ OwnC 71 x1 z1 r.f C1) := by
 subst hn0_0 hn0_1
 unfold l_toTable at H0
 refine ct_of_cw Tryd.func43 rfl Tryd.ntmps43 rfl (Sat.refl _ _) ?_
 refine sr (oE (stpU_box 0 rfl rfl) rfl ?_)
 rintro _ _ ⟨b1, rfl, rfl⟩
 refine oE (stpU_alloc 1 tz34 rfl) rfl ?_
 rintro _ _ ⟨b2, rfl, rfl⟩
 refine nn (sr (oE (stpU_alloc 2 tz34 rfl) rfl ?_))
 rintro _ _ ⟨b3, rfl, rfl⟩
 obtain ⟨x4, e4, H0⟩ := bS H0
 refine nn (sr (oA 0 Tryd.underlying25 rfl ts22 rfl (oL 0 ts22 rfl (oE (stpU_call (fun i => 3 + i) cf92 (fun w hw => c_l_toIntS fl w a0.b rfl (RO.pass hr0_0 hw) x4 e4) (yA rfl)) rfl ?_))))
 rintro _ _ ⟨_, ⟨p5, _, c7, C8, rfl, rfl, rfl, o8⟩, rfl⟩
 obtain ⟨x9, e9, H0⟩ := bS H0
 refine oA 0 Tryd.underlying34 rfl ts22 rfl (oC2 2 ts22 rfl rfl (nn (sr (oA 1 Tryd.underlying25 rfl ts23 rfl (oL 0 ts23 rfl (oE (stpU_call (fun i => 4 + i) cf93 (fun w hw => c_l_toFrameS fl w a0.f rfl (RO.pass hr0_1 hw) x9 e9) (yA rfl)) rfl ?_))))))
 rintro _ _ ⟨_, ⟨p10, _, c12, C13, rfl, rfl, rfl, o13⟩, rfl⟩
 refine oA 1 Tryd.underlying34 rfl ts32 rfl (oC2 2 ts32 rfl rfl (nn (sr (oB2 2 ts34 rfl (oC2 1 ts34 rfl rfl (nn (cw_ret ?_)))))))
 obtain rfl := sI H0
 exact kr Tryd.results43 (rC2 1 ts34 rfl rfl) [3, 4] ⟨_, _, _, _, _, _, _, _, rfl, rfl, rfl, o8, rfl, o13⟩

theorem c_l_toNote (fl : Nat) (w : World) (a0 : Nt) (r : Nt) (H0 : l_toNote fl a0 = some r) :
  Ct Tryd.prog 151 [.agg #[.int .i64 a0.k.s, .int .i64 a0.k.p, .int .i64 a0.fr]] w [] (fun rv h' => rv = .agg #[.int .i64 r.k.s, .int .i64 r.k.p, .int .i64 r.fr] ∧ h' = []) := by
 unfold l_toNote at H0
 refine ct_of_cw Tryd.func151 rfl Tryd.ntmps151 rfl (Sat.refl _ _) ?_
 refine sr (oE (stpU_box 0 rfl rfl) rfl ?_)
 rintro _ _ ⟨b1, rfl, rfl⟩
 refine oE (stpU_alloc 1 tz55 rfl) rfl ?_
 rintro _ _ ⟨b2, rfl, rfl⟩
 refine nn (sr (oE (stpU_alloc 2 tz55 rfl) rfl ?_))
 rintro _ _ ⟨b3, rfl, rfl⟩
 obtain ⟨x4, e4, H0⟩ := bS H0
 refine nn (sr (oA 0 Tryd.underlying170 rfl ts30 rfl (oB2 0 ts30 rfl (oE (stpU_call (fun i => 3 + i) cf13 (fun w hw => c_l_toKey fl w a0.k x4 e4) (yA rfl)) rfl ?_))))
 rintro _ _ ⟨_, ⟨rfl, rfl⟩, rfl⟩
 refine oA 0 Tryd.underlying55 rfl ts41 rfl (oC3 2 ts41 rfl rfl (nn (sr (oA 2 Tryd.underlying170 rfl ts3 rfl (oL 0 ts3 rfl (oA 2 Tryd.underlying55 rfl ts3 rfl (oC3 2 ts3 rfl rfl (nn (sr (oB3 2 ts55 rfl (oC3 1 ts55 rfl rfl (nn (cw_ret ?_)))))))))))))
 obtain rfl := sI H0
 exact kr Tryd.results151 (rC3 1 ts55 rfl rfl) [] ⟨rfl, rfl⟩

theorem c_l_toNoteS (fl : Nat) (w : World) (a0 : (List Nt)) (hn0_0 : n0_0 = (a0).length) (hr0_0 : RO w (hkeys []) (RdL p0_0 c0_0 a0)) (r : (List Nt)) (H0 : l_toNoteS fl a0 = some r) :
  Ct Tryd.prog 128 [.slice p0_0 n0_0 c0_0] w [] (fun rv h' => ∃ (x0 : Option Addr) (y0 z0 : Nat) (C0 : Res), rv = .slice x0 y0 z0 ∧ h' = [(0, C0)] ∧ y0 = (r).length ∧ OwnC 55 x0 z0 r C0) := by
 subst hn0_0
 unfold l_toNoteS at H0
 refine ct_of_cw Tryd.func128 rfl Tryd.ntmps128 rfl (Sat.refl _ _) ?_
 obtain ⟨x1, e1, H0⟩ := bS H0
 refine sr (oS rfl (nn (sr (oM rfl (oD (stp_len Tryd.underlying114 rfl) rfl (oE (stpU_make sl51 rfl 0 rfl rfl e1) rfl ?_))))))
 rintro _ _ ⟨p2, C3, rfl, rfl, o3⟩
 obtain ⟨o0_0, eo0_0, H0⟩ := bS H0
 refine oS rfl (nn (cw_seq (sr (oS rfl (nn (cw_join (ι := (List Nt) × Int × Res) (fun | (v4, v6, C5) => o0_0 = .out (v4, v6) ∧ x1 = (v4).length ∧ OwnC 55 p2 x1 v4 C5) (fun | (v4, v6, C5) => [(0, .slice p0_0 ((a0).length) c0_0), (3, .slice p2 x1 x1), (4, .int .i64 v6)]) (fun | (v4, v6, C5) => [(0, C5)]) ?_ ?_))))))
 ·refine cw_block (cw_loopS (ι := Nat × (List Nt) × Int × Res) (js := [0]) (fun x => x.1) (fun | (fuel, v4, v6, C5) => l_toNoteS_L0 fl a0 fuel v4 v6 = some o0_0 ∧ x1 = (v4).length ∧ OwnC 55 p2 x1 v4 C5) (fun | (_, v4, v6, C5) => [(0, .slice p0_0 ((a0).length) c0_0), (3, .slice p2 x1 x1), (4, .int .i64 v6)]) (fun | (_, v4, v6, C5) => [(0, C5)]) (fl, (List.replicate x1 (⟨(⟨0, 0⟩ : K), 0⟩ : Nt)), 0, C3) ⟨eo0_0, (by simp), o3⟩ ⟨rfl, rfl, rfl, trivial⟩ ⟨0, [], rfl, rfl, trivial⟩ (by decide) ?_)
  rintro ⟨fuel, v4, v6, C5⟩ ⟨H1, hl5, o5⟩
  have H1 : l_toNoteS_L0 fl a0 fuel v4 v6 = some o0_0 := H1
  rcases fuel with _ | fuel
  ·rw [l_toNoteS_L0.eq_1] at H1; cases H1
  rw [l_toNoteS_L0.eq_2] at H1
  dsimp only
  refine cw_seq (sr (oM rfl (oM rfl (oD (stp_len Tryd.underlying114 rfl) rfl (oW rfl (nn (cw_cond rfl (fun h7 => ?_) (fun h7 => ?_))))))))
  ·have H1 := cond_t H1 h7
   obtain ⟨x8, e8, H1⟩ := bS H1
   obtain ⟨x9, e9, H1⟩ := bS H1
   refine cw_skip (kw_nx (cw_seq (cw_block (cw_region (oM rfl (oM rfl (oM rfl (oM rfl (oD (stp_indexAddr Tryd.underlying114 ts170 (by decide) rfl rfl rfl (Rdb.ro hr0_0) e8) rfl (oD (stp_loadN (us := [_, _, _]) ts170 rfl (Cells.el (Rdb.ro hr0_0) (by decide) e8 0 3 rfl)) rfl (oE (stpU_call (fun i => 1 + i) cf151 (fun w hw => c_l_toNote fl w x8 x9 e9) (yA rfl)) rfl ?_)))))))))))
   rintro _ _ ⟨_, ⟨rfl, rfl⟩, rfl⟩
   obtain ⟨x10, e10, H1⟩ := bS H1
   refine oD (stp_indexAddr Tryd.underlying51 ts55 (by decide) rfl (by simp [hl5]) rfl (Rdb.own (id := 0) rfl o5) e10) rfl (oF (stpU_storeEl (id := 0) (i := 0) x9 (by decide) ts55 rfl rfl rfl o5 e10 rfl rfl rfl rfl) ?_)
   rintro _ _ ⟨C11, rfl, o11⟩
   obtain ⟨x12, e12, H1⟩ := bS H1
   exact ow_nil (kw_bl_normal (kw_nx (cw_region (oM rfl (oP e12 rfl (oS rfl (ow_nil (kw_lqS (js := [0]) (fuel, (v4.set (Int.toNat v6) x9), x12, C11) ⟨H1, (by simp [hl5]), o11⟩ (Nat.lt_succ_self _) ⟨rfl, rfl, rfl, trivial⟩ ⟨0, [], rfl, rfl, trivial⟩ (by decide)))))))))
  have H1 := cond_f H1 h7
  refine cw_exit (kw_nx_exit (kw_lq_exit (kw_bl ?_)))
  obtain rfl := sI H1
  exact kw_joinS (js := [0]) (v4, v6, C5) ⟨rfl, (by simp [hl5]), o5⟩ ⟨rfl, rfl, rfl, trivial⟩ ⟨0, [], rfl, rfl, trivial⟩ (by decide)
 rintro ⟨v4, v6, C5⟩ ⟨rfl, hl5, o5⟩
 dsimp only
 refine kw_nx (sr (oM rfl (oS rfl (nn (cw_ret ?_)))))
 obtain rfl := sI H0
 exact kr Tryd.results128 (rT rfl) [0] ⟨_, _, _, _, rfl, rfl, (by simp [hl5]), o5⟩

theorem c_l_toCpu (fl : Nat) (w : World) (a0 : Cp) (hn0_0 : n0_0 = (a0.n).length) (hr0_0 : RO w (hkeys []) (RdL p0_0 c0_0 a0.n)) (hn0_1 : n0_1 = (a0.w).length) (hr0_1 : RO w (hkeys []) (RdL p0_1 c0_1 a0.w)) (r : Cp) (H0 : l_toCpu fl a0 = some r) :
  Ct Tryd.prog 94 [.agg #[.slice p0_0 n0_0 c0_0, .slice p0_1 n0_1 c0_1]] w [] (fun rv h' => ∃ (x0 : Option Addr) (y0 z0 : Nat) (C0 : Res) (x1 : Option Addr) (y1 z1 : Nat) (C1 : Res), rv = .agg #[.slice x0 y0 z0, .slice x1 y1 z1] ∧ h' = [(0, C0), (1, C1)] ∧ y0 = (r.n).length ∧ OwnC 55 x0 z0 r.n C0 ∧ y1 = (r.w).length ∧ OwnC 55 x1 z1 r.w C1) := by
 subst hn0_0 hn0_1
 unfold l_toCpu at H0
 refine ct_of_cw Tryd.func94 rfl Tryd.ntmps94 rfl (Sat.refl _ _) ?_
 refine sr (oE (stpU_box 0 rfl rfl) rfl ?_)
 rintro _ _ ⟨b1, rfl, rfl⟩
 refine oE (stpU_alloc 1 tz53 rfl) rfl ?_
 rintro _ _ ⟨b2, rfl, rfl⟩
 refine nn (sr (oE (stpU_alloc 2 tz53 rfl) rfl ?_))
 rintro _ _ ⟨b3, rfl, rfl⟩
 obtain ⟨x4, e4, H0⟩ := bS H0
 refine nn (sr (oA 0 Tryd.underlying116 rfl ts114 rfl (oL 0 ts114 rfl (oE (stpU_call (fun i => 3 + i) cf128 (fun w hw => c_l_toNoteS fl w a0.n rfl (RO.pass hr0_0 hw) x4 e4) (yA rfl)) rfl ?_))))
 rintro _ _ ⟨_, ⟨p5, _, c7, C8, rfl, rfl, rfl, o8⟩, rfl⟩
 obtain ⟨x9, e9, H0⟩ := bS H0
 refine oA 0 Tryd.underlying53 rfl ts51 rfl (oC2 2 ts51 rfl rfl (nn (sr (oA 1 Tryd.underlying116 rfl ts114 rfl (oL 0 ts114 rfl (oE (stpU_call (fun i => 4 + i) cf128 (fun w hw => c_l_toNoteS fl w a0.w rfl (RO.pass hr0_1 hw) x9 e9) (yA rfl)) rfl ?_))))))
 rintro _ _ ⟨_, ⟨p10, _, c12, C13, rfl, rfl, rfl, o13⟩, rfl⟩
 refine oA 1 Tryd.underlying53 rfl ts51 rfl (oC2 2 ts51 rfl rfl (nn (sr (oB2 2 ts53 rfl (oC2 1 ts53 rfl rfl (nn (cw_ret ?_)))))))
 obtain rfl := sI H0
 exact kr Tryd.results94 (rC2 1 ts53 rfl rfl) [3, 4] ⟨_, _, _, _, _, _, _, _, rfl, rfl, rfl, o8, rfl, o13⟩

theorem c_l_toCpuS (fl : Nat) (w : World) (a0 : (List Cp)) (hn0_0 : n0_0 = (a0).length) (hr0_0 : ROD w (hkeys []) p0_0 c0_0 a0) (r : (List Cp)) (H0 : l_toCpuS fl a0 = some r) :
  Ct Tryd.prog 44 [.slice p0_0 n0_0 c0_0] w [] (fun rv h' => ∃ (x0 : Option Addr) (y0 z0 : Nat) (C0 : Res), rv = .slice x0 y0 z0 ∧ h' = [(0, C0)] ∧ y0 = (r).length ∧ OwnD 53 55 x0 z0 r C0) := by
 subst hn0_0
 unfold l_toCpuS at H0
 refine ct_of_cw Tryd.func44 rfl Tryd.ntmps44 rfl (Sat.refl _ _) ?_
 obtain ⟨x1, e1, H0⟩ := bS H0
 refine sr (oS rfl (nn (sr (oM rfl (oD (stp_len Tryd.underlying26 rfl) rfl (oE (stpU_makeD 55 sl35 rfl 0 rfl rfl e1) rfl ?_))))))
 rintro _ _ ⟨p2, C3, rfl, rfl, o3⟩
 obtain ⟨o0_0, eo0_0, H0⟩ := bS H0
 refine oS rfl (nn (cw_seq (sr (oS rfl (nn (cw_join (ι := (List Cp) × Int × Res) (fun | (v4, v6, C5) => o0_0 = .out (v4, v6) ∧ x1 = (v4).length ∧ OwnD 53 55 p2 x1 v4 C5) (fun | (v4, v6, C5) => [(0, .slice p0_0 ((a0).length) c0_0), (3, .slice p2 x1 x1), (4, .int .i64 v6)]) (fun | (v4, v6, C5) => [(0, C5)]) ?_ ?_))))))
 ·refine cw_block (cw_loopS (ι := Nat × (List Cp) × Int × Res) (js := [0]) (fun x => x.1) (fun | (fuel, v4, v6, C5) => l_toCpuS_L0 fl a0 fuel v4 v6 = some o0_0 ∧ x1 = (v4).length ∧ OwnD 53 55 p2 x1 v4 C5) (fun | (_, v4, v6, C5) => [(0, .slice p0_0 ((a0).length) c0_0), (3, .slice p2 x1 x1), (4, .int .i64 v6)]) (fun | (_, v4, v6, C5) => [(0, C5)]) (fl, (List.replicate x1 (⟨[], []⟩ : Cp)), 0, C3) ⟨eo0_0, (by simp), o3⟩ ⟨rfl, rfl, rfl, trivial⟩ ⟨0, [], rfl, rfl, trivial⟩ (by decide) ?_)
  rintro ⟨fuel, v4, v6, C5⟩ ⟨H1, hl5, o5⟩
  have H1 : l_toCpuS_L0 fl a0 fuel v4 v6 = some o0_0 := H1
  rcases fuel with _ | fuel
  ·rw [l_toCpuS_L0.eq_1] at H1; cases H1
  rw [l_toCpuS_L0.eq_2] at H1
  dsimp only
  refine cw_seq (sr (oM rfl (oM rfl (oD (stp_len Tryd.underlying26 rfl) rfl (oW rfl (nn (cw_cond rfl (fun h7 => ?_) (fun h7 => ?_))))))))
  ·have H1 := cond_t H1 h7
   obtain ⟨x8, e8, H1⟩ := bS H1
   refine cw_skip (kw_nx (cw_seq (cw_block (cw_region (oM rfl (oM rfl (oM rfl (oM rfl ?_))))))))
   obtain ⟨u9, p10, n11, c12, p13, n14, c15, hw9, hl9, hx9, rfl, hr9, rfl, hs9⟩ := ROD.get hr0_0 e8
   obtain ⟨x16, e16, H1⟩ := bS H1
   refine oD (stp_indexAddr Tryd.underlying26 ts116 (by decide) rfl hl9 rfl (Rdb.ro hw9) hx9) rfl (oD (stp_loadN (us := [_, _]) ts116 rfl (Cells.el (Rdb.ro hw9) (by decide) hx9 0 2 rfl)) rfl (oE (stpU_call (fun i => 1 + i) cf94 (fun w hw => c_l_toCpu fl w x8 rfl (RO.pass hr9 hw) rfl (RO.pass hs9 hw) x16 e16) (yA rfl)) rfl ?_))
   rintro _ _ ⟨_, ⟨p17, _, c19, C20, p21, _, c23, C24, rfl, rfl, rfl, o20, rfl, o24⟩, rfl⟩
   obtain ⟨x25, e25, H1⟩ := bS H1
   refine ow_open 0 3 4 5 rfl o5 e25 ?_
   rintro u26 p27 n28 c29 p30 n31 c32 C33 C34 C35 C36 o33 hb34 hx26 rfl o35 rfl o36
   refine oD (stp_indexAddr Tryd.underlying35 ts53 (by decide) rfl (Eq.trans (a := x1) (b := (v4).length) (by simp [hl5]) (Bun.len hb34)) rfl (Rdb.own (id := 0) rfl o33) hx26) rfl (oF (stpU_storeEl (id := 0) (i := 0) (⟨p17, (x16.n).length, c19, p21, (x16.w).length, c23⟩ : CpS) (by decide) ts53 rfl rfl rfl o33 hx26 rfl rfl rfl rfl) ?_)
   rintro _ _ ⟨C37, rfl, o37⟩
   obtain ⟨x38, e38, H1⟩ := bS H1
   refine ow_nil (kw_bl_normal (kw_nx (cw_region (oM rfl (oP e38 rfl (oS rfl (ow_nil (kw_shut 0 3 1 2 o37 (Bun.setL (Bun.set hb34 _) _) (idx_some (idx_set hx26)).2.2 (idx_setD e25 (⟨x16.n, x16.w⟩ : Cp)) rfl o20 rfl o24 ?_))))))))
   rintro C39 o39
   exact kw_lqS (js := [0]) (fuel, (v4.set (Int.toNat v6) (⟨x16.n, x16.w⟩ : Cp)), x38, C39) ⟨H1, (by simp [hl5]), o39⟩ (Nat.lt_succ_self _) ⟨rfl, rfl, rfl, trivial⟩ ⟨0, [], rfl, rfl, trivial⟩ (by decide)
  have H1 := cond_f H1 h7
  refine cw_exit (kw_nx_exit (kw_lq_exit (kw_bl ?_)))
  obtain rfl := sI H1
  exact kw_joinS (js := [0]) (v4, v6, C5) ⟨rfl, (by simp [hl5]), o5⟩ ⟨rfl, rfl, rfl, trivial⟩ ⟨0, [], rfl, rfl, trivial⟩ (by decide)
 rintro ⟨v4, v6, C5⟩ ⟨rfl, hl5, o5⟩
 dsimp only
 refine kw_nx (sr (oM rfl (oS rfl (nn (cw_ret ?_)))))
 obtain rfl := sI H0
 exact kr Tryd.results44 (rT rfl) [0] ⟨_, _, _, _, rfl, rfl, (by simp [hl5]), o5⟩

theorem c_l_toSystem (fl : Nat) (w : World) (a0 : Sy) (hn0_0 : n0_0 = (a0.t.b).length) (hr0_0 : RO w (hkeys []) (RdL p0_0 c0_0 a0.t.b)) (hn0_1 : n0_1 = (a0.t.f).length) (hr0_1 : RO w (hkeys []) (RdL p0_1 c0_1 a0.t.f)) (hn0_2 : n0_2 = (a0.c).length) (hr0_2 : ROD w (hkeys []) p0_2 c0_2 a0.c) (r : Sy) (H0 : l_toSystem fl a0 = some r) :
  Ct Tryd.prog 12 [.agg #[.slice p0_0 n0_0 c0_0, .slice p0_1 n0_1 c0_1, .slice p0_2 n0_2 c0_2]] w [] (fun rv h' => ∃ (x0 : Option Addr) (y0 z0 : Nat) (C0 : Res) (x1 : Option Addr) (y1 z1 : Nat) (C1 : Res) (x2 : Option Addr) (y2 z2 : Nat) (C2 : Res), rv = .agg #[.slice x0 y0 z0, .slice x1 y1 z1, .slice x2 y2 z2] ∧ h' = [(0, C0), (1, C1), (2, C2)] ∧ y0 = (r.t.b).length ∧ OwnC 3 x0 z0 r.t.b C0 ∧ y1 = (r.t.f).length ∧ OwnC 71 x1 z1 r.t.f C1 ∧ y2 = (r.c).length ∧ OwnD 53 55 x2 z2 r.c C2) := by
 subst hn0_0 hn0_1 hn0_2
 unfold l_toSystem at H0
 refine ct_of_cw Tryd.func12 rfl Tryd.ntmps12 rfl (Sat.refl _ _) ?_
 refine sr (oE (stpU_box 0 rfl rfl) rfl ?_)
 rintro _ _ ⟨b1, rfl, rfl⟩
 refine oE (stpU_alloc 1 tz37 rfl) rfl ?_
 rintro _ _ ⟨b2, rfl, rfl⟩
 refine nn (sr (oE (stpU_alloc 2 tz37 rfl) rfl ?_))
 rintro _ _ ⟨b3, rfl, rfl⟩
 obtain ⟨x4, e4, H0⟩ := bS H0
 refine nn (sr (oA 0 Tryd.underlying28 rfl ts25 rfl (oB2 0 ts25 rfl (oE (stpU_call (fun i => 3 + i) cf43 (fun w hw => c_l_toTable fl w a0.t rfl (RO.pass hr0_0 hw) rfl (RO.pass hr0_1 hw) x4 e4) (yA rfl)) rfl ?_))))
 rintro _ _ ⟨_, ⟨p5, _, c7, C8, p9, _, c11, C12, rfl, rfl, rfl, o8, rfl, o12⟩, rfl⟩
 obtain ⟨x13, e13, H0⟩ := bS H0
 refine oA 0 Tryd.underlying37 rfl ts34 rfl (oC3 2 ts34 rfl rfl (nn (sr (oA 2 Tryd.underlying28 rfl ts26 rfl (oL 0 ts26 rfl (oE (stpU_call (fun i => 5 + i) cf44 (fun w hw => c_l_toCpuS fl w a0.c rfl (ROD.pass hr0_2 hw) x13 e13) (yA rfl)) rfl ?_))))))
 rintro _ _ ⟨_, ⟨p14, _, c16, C17, rfl, rfl, rfl, o17⟩, rfl⟩
 refine oA 2 Tryd.underlying37 rfl ts35 rfl (oC3 2 ts35 rfl rfl (nn (sr (oB3 2 ts37 rfl (oC3 1 ts37 rfl rfl (nn (cw_ret ?_)))))))
 obtain rfl := sI H0
 exact kr Tryd.results12 (rC3 1 ts37 rfl rfl) [3, 4, 5] ⟨_, _, _, _, _, _, _, _, _, _, _, _, rfl, rfl, rfl, o8, rfl, o12, rfl, o17⟩

theorem c_l_eqIntS (fl : Nat) (w : World) (a0 : (List Int)) (a1 : (List Int)) (hn0_0 : n0_0 = (a0).length) (hr0_0 : RO w (hkeys []) (RdL p0_0 c0_0 a0)) (hn1_0 : n1_0 = (a1).length) (hr1_0 : RO w (hkeys []) (RdL p1_0 c1_0 a1)) (r : Bool) (H0 : l_eqIntS fl a0 a1 = some r) :
  Ct Tryd.prog 30 [.slice p0_0 n0_0 c0_0, .slice p1_0 n1_0 c1_0] w [] (fun rv h' => rv = .bool r ∧ h' = []) := by
 subst hn0_0 hn1_0
 unfold l_eqIntS at H0
 refine ct_of_cw Tryd.func30 rfl Tryd.ntmps30 rfl (Sat.refl _ _) ?_
 refine sr (oS rfl (nn (cw_seq (sr (oM rfl (oD (stp_len Tryd.underlying22 rfl) rfl (oM rfl (oD (stp_len Tryd.underlying22 rfl) rfl (oU rfl (nn (cw_cond rfl (fun h1 => ?_) (fun h1 => ?_))))))))))))
 ·have H0 := cond_t H0 h1
  refine sr (oS rfl (nn (cw_ret (kw_nx_ret ?_))))
  obtain rfl := sI H0
  exact kr Tryd.results30 (rT rfl) [] ⟨rfl, rfl⟩
 have H0 := cond_f H0 h1
 obtain ⟨o0_0, eo0_0, H0⟩ := bS H0
 refine cw_skip (kw_nx (cw_seq (sr (oS rfl (nn (cw_join (ι := Int) (fun | v2 => o0_0 = .out v2) (fun | v2 => [(0, .slice p0_0 ((a0).length) c0_0), (1, .slice p1_0 ((a1).length) c1_0), (5, .int .i64 v2)]) (fun | v2 => []) ?_ ?_))))))
 ·refine cw_block (cw_loopS (ι := Nat × Int) (js := []) (fun x => x.1) (fun | (fuel, v2) => l_eqIntS_L0 fl a0 a1 fuel v2 = some o0_0) (fun | (_, v2) => [(0, .slice p0_0 ((a0).length) c0_0), (1, .slice p1_0 ((a1).length) c1_0), (5, .int .i64 v2)]) (fun | (_, v2) => []) (fl, 0) eo0_0 ⟨rfl, rfl, rfl, trivial⟩ trivial (by decide) ?_)
  rintro ⟨fuel, v2⟩ H1
  have H1 : l_eqIntS_L0 fl a0 a1 fuel v2 = some o0_0 := H1
  rcases fuel with _ | fuel
  ·rw [l_eqIntS_L0.eq_1] at H1; cases H1
  rw [l_eqIntS_L0.eq_2] at H1
  dsimp only
  refine cw_seq (sr (oM rfl (oM rfl (oD (stp_len Tryd.underlying22 rfl) rfl (oW rfl (nn (cw_cond rfl (fun h3 => ?_) (fun h3 => ?_))))))))
  ·have H1 := cond_t H1 h3
   obtain ⟨x4, e4, H1⟩ := bS H1
   obtain ⟨x5, e5, H1⟩ := bS H1
   refine cw_skip (kw_nx (cw_seq (cw_block (cw_seq (rdq g_mixed [0, 1, 5] [] { dst := dS [18, 19, 20, 21, 22, 23, 24, 25, 26], pre := gA [] [[], [], [0, 1], [0, 1, 2], [], [], [4, 5], [4, 5, 6], rn 0 8], ids := fun _ => [], rs := rL [[(0, 0)], [(5, 0)], [(17, 1), (18, 2)], [(19, 3)], [(1, 0)], [(5, 0)], [(21, 5), (22, 6)], [(23, 7)], [(20, 4), (24, 8)]], rh := fun _ => [], V := fun i g => gA undef [.slice p0_0 ((a0).length) c0_0, .int .i64 v2, .pointer (some ⟨eB p0_0, eO p0_0 + Int.toNat v2 * Enc.sz Int + 0, none⟩), .int .i64 x4, .slice p1_0 ((a1).length) c1_0, .int .i64 v2, .pointer (some ⟨eB p1_0, eO p1_0 + Int.toNat v2 * Enc.sz Int + 0, none⟩), .int .i64 x5, .bool (x4 != x5)] i, U := fun _ _ => [], Φ := fun _ _ => True } ?_ ?_)))))
   ·exact ⟨lM, lM, lc rfl rfl fun hs hh => stp_indexAddr Tryd.underlying22 ts3 (by decide) (sv hs 17 rfl) rfl (sv hs 18 rfl) (Rdb.ro hr0_0) e4, lc rfl rfl fun hs hh => stp_load1 ts3 (sv hs 19 rfl) (Cells.el (Rdb.ro hr0_0) (by decide) e4 0 1 rfl), lM, lM, lc rfl rfl fun hs hh => stp_indexAddr Tryd.underlying22 ts3 (by decide) (sv hs 21 rfl) rfl (sv hs 22 rfl) (Rdb.ro hr1_0) e5, lc rfl rfl fun hs hh => stp_load1 ts3 (sv hs 23 rfl) (Cells.el (Rdb.ro hr1_0) (by decide) e5 0 1 rfl), lc rfl rfl fun hs hh => stp_neq (sv hs 20 rfl) (sv hs 24 rfl), trivial⟩
   intro g hΦ
   refine KW.sub (s' := [(0, .slice p0_0 ((a0).length) c0_0), (1, .slice p1_0 ((a1).length) c1_0), (5, .int .i64 v2), (25, .bool (x4 != x5))]) (h' := []) ?_ ⟨rfl, rfl, rfl, rfl, trivial⟩ trivial
   refine kw_nx (cw_cond rfl (fun h6 => ?_) (fun h6 => ?_))
   ·have H1 := cond_t H1 h6
    refine sr (oS rfl (nn (cw_ret (kw_bl_ret (kw_nx_ret (kw_lq_ret (kw_bl_ret (kw_join_ret (kw_nx_ret ?_)))))))))
    obtain rfl := sI H1
    obtain rfl := sI H0
    exact kr Tryd.results30 (rT rfl) [] ⟨rfl, rfl⟩
   have H1 := cond_f H1 h6
   obtain ⟨x7, e7, H1⟩ := bS H1
   exact cw_skip (kw_bl_normal (kw_nx (cw_region (oM rfl (oP e7 rfl (oS rfl (ow_nil (kw_lqS (js := []) (fuel, x7) H1 (Nat.lt_succ_self _) ⟨rfl, rfl, rfl, trivial⟩ trivial (by decide)))))))))
  have H1 := cond_f H1 h3
  refine cw_exit (kw_nx_exit (kw_lq_exit (kw_bl ?_)))
  obtain rfl := sI H1
  exact kw_joinS (js := []) v2 rfl ⟨rfl, rfl, rfl, trivial⟩ trivial (by decide)
 rintro v2 rfl
 dsimp only
 refine kw_nx (sr (oS rfl (nn (cw_ret ?_))))
 obtain rfl := sI H0
 exact kr Tryd.results30 (rT rfl) [] ⟨rfl, rfl⟩

theorem c_l_eqKey (fl : Nat) (w : World) (a0 : K) (a1 : K) (r : Bool) (H0 : l_eqKey fl a0 a1 = some r) :
  Ct Tryd.prog 152 [.agg #[.int .i64 a0.s, .int .i64 a0.p], .agg #[.int .i64 a1.s, .int .i64 a1.p]] w [] (fun rv h' => rv = .bool r ∧ h' = []) := by
 unfold l_eqKey at H0
 refine ct_of_cw Tryd.func152 rfl Tryd.ntmps152 rfl (Sat.refl _ _) ?_
 refine sr (oE (stpU_box 0 rfl rfl) rfl ?_)
 rintro _ _ ⟨b1, rfl, rfl⟩
 refine oE (stpU_box 1 rfl rfl) rfl ?_
 rintro _ _ ⟨b2, rfl, rfl⟩
 refine oS rfl (nn (cw_seq (sr (oA 0 Tryd.underlying41 rfl ts3 rfl (oL 0 ts3 rfl (oA 0 Tryd.underlying41 rfl ts3 rfl (oL 1 ts3 rfl (oU rfl (nn (cw_cond rfl (fun h3 => ?_) (fun h3 => ?_)))))))))))
 ·have H0 := cond_t H0 h3
  refine sr (oS rfl (nn (cw_ret (kw_nx_ret ?_))))
  obtain rfl := sI H0
  exact kr Tryd.results152 (rT rfl) [] ⟨rfl, rfl⟩
 have H0 := cond_f H0 h3
 refine cw_skip (kw_nx (cw_seq (sr (oA 1 Tryd.underlying41 rfl ts3 rfl (oL 0 ts3 rfl (oA 1 Tryd.underlying41 rfl ts3 rfl (oL 1 ts3 rfl (oU rfl (nn (cw_cond rfl (fun h4 => ?_) (fun h4 => ?_)))))))))))
 ·have H0 := cond_t H0 h4
  refine sr (oS rfl (nn (cw_ret (kw_nx_ret ?_))))
  obtain rfl := sI H0
  exact kr Tryd.results152 (rT rfl) [] ⟨rfl, rfl⟩
 have H0 := cond_f H0 h4
 refine cw_skip (kw_nx (sr (oS rfl (nn (cw_ret ?_)))))
 obtain rfl := sI H0
 exact kr Tryd.results152 (rT rfl) [] ⟨rfl, rfl⟩

theorem c_l_eqFrame (fl : Nat) (w : World) (a0 : F) (a1 : F) (r : Bool) (H0 : l_eqFrame fl a0 a1 = some r) :
  Ct Tryd.prog 132 [.agg #[.bool a0.u, .int .i64 a0.k.s, .int .i64 a0.k.p, .int .i64 a0.r, .int .i64 a0.nx], .agg #[.bool a1.u, .int .i64 a1.k.s, .int .i64 a1.k.p, .int .i64 a1.r, .int .i64 a1.nx]] w [] (fun rv h' => rv = .bool r ∧ h' = []) := by
 unfold l_eqFrame at H0
 refine ct_of_cw Tryd.func132 rfl Tryd.ntmps132 rfl (Sat.refl _ _) ?_
 refine sr (oE (stpU_box 0 rfl rfl) rfl ?_)
 rintro _ _ ⟨b1, rfl, rfl⟩
 refine oE (stpU_box 1 rfl rfl) rfl ?_
 rintro _ _ ⟨b2, rfl, rfl⟩
 refine oS rfl (nn (cw_seq (sr (oA 0 Tryd.underlying71 rfl ts4 rfl (oL 0 ts4 rfl (oA 0 Tryd.underlying71 rfl ts4 rfl (oL 1 ts4 rfl (oD (stp_neqB Tryd.underlying4 rfl rfl) rfl (nn (cw_cond rfl (fun h3 => ?_) (fun h3 => ?_)))))))))))
 ·have H0 := cond_t H0 h3
  refine sr (oS rfl (nn (cw_ret (kw_nx_ret ?_))))
  obtain rfl := sI H0
  exact kr Tryd.results132 (rT rfl) [] ⟨rfl, rfl⟩
 have H0 := cond_f H0 h3
 obtain ⟨x4, e4, H0⟩ := bS H0
 refine cw_skip (kw_nx (cw_seq (sr (oA 1 Tryd.underlying71 rfl ts41 rfl (oB2 0 ts41 rfl (oA 1 Tryd.underlying71 rfl ts41 rfl (oB2 1 ts41 rfl (oE (stpU_call (fun i => 2 + i) cf152 (fun w hw => c_l_eqKey fl w a0.k a1.k x4 e4) (yB rfl rfl)) rfl ?_))))))))
 rintro _ _ ⟨_, ⟨rfl, rfl⟩, rfl⟩
 refine oK rfl (nn (cw_cond rfl (fun h5 => ?_) (fun h5 => ?_)))
 ·have H0 := cond_t H0 h5
  refine sr (oS rfl (nn (cw_ret (kw_nx_ret ?_))))
  obtain rfl := sI H0
  exact kr Tryd.results132 (rT rfl) [] ⟨rfl, rfl⟩
 have H0 := cond_f H0 h5
 refine cw_skip (kw_nx (cw_seq (sr (oA 3 Tryd.underlying71 rfl ts3 rfl (oL 0 ts3 rfl (oA 3 Tryd.underlying71 rfl ts3 rfl (oL 1 ts3 rfl (oU rfl (nn (cw_cond rfl (fun h6 => ?_) (fun h6 => ?_)))))))))))
 ·have H0 := cond_t H0 h6
  refine sr (oS rfl (nn (cw_ret (kw_nx_ret ?_))))
  obtain rfl := sI H0
  exact kr Tryd.results132 (rT rfl) [] ⟨rfl, rfl⟩
 have H0 := cond_f H0 h6
 refine cw_skip (kw_nx (cw_seq (sr (oA 4 Tryd.underlying71 rfl ts3 rfl (oL 0 ts3 rfl (oA 4 Tryd.underlying71 rfl ts3 rfl (oL 1 ts3 rfl (oU rfl (nn (cw_cond rfl (fun h7 => ?_) (fun h7 => ?_)))))))))))
 ·have H0 := cond_t H0 h7
  refine sr (oS rfl (nn (cw_ret (kw_nx_ret ?_))))
  obtain rfl := sI H0
  exact kr Tryd.results132 (rT rfl) [] ⟨rfl, rfl⟩
 have H0 := cond_f H0 h7
 refine cw_skip (kw_nx (sr (oS rfl (nn (cw_ret ?_)))))
 obtain rfl := sI H0
 exact kr Tryd.results132 (rT rfl) [] ⟨rfl, rfl⟩

theorem c_l_eqFrameS (fl : Nat) (w : World) (a0 : (List F)) (a1 : (List F)) (hn0_0 : n0_0 = (a0).length) (hr0_0 : RO w (hkeys []) (RdL p0_0 c0_0 a0)) (hn1_0 : n1_0 = (a1).length) (hr1_0 : RO w (hkeys []) (RdL p1_0 c1_0 a1)) (r : Bool) (H0 : l_eqFrameS fl a0 a1 = some r) :
  Ct Tryd.prog 103 [.slice p0_0 n0_0 c0_0, .slice p1_0 n1_0 c1_0] w [] (fun rv h' => rv = .bool r ∧ h' = []) := by
 subst hn0_0 hn1_0
 unfold l_eqFrameS at H0
 refine ct_of_cw Tryd.func103 rfl Tryd.ntmps103 rfl (Sat.refl _ _) ?_
 refine sr (oS rfl (nn (cw_seq (sr (oM rfl (oD (stp_len Tryd.underlying32 rfl) rfl (oM rfl (oD (stp_len Tryd.underlying32 rfl) rfl (oU rfl (nn (cw_cond rfl (fun h1 => ?_) (fun h1 => ?_))))))))))))
 ·have H0 := cond_t H0 h1
  refine sr (oS rfl (nn (cw_ret (kw_nx_ret ?_))))
  obtain rfl := sI H0
  exact kr Tryd.results103 (rT rfl) [] ⟨rfl, rfl⟩
 have H0 := cond_f H0 h1
 obtain ⟨o0_0, eo0_0, H0⟩ := bS H0
 refine cw_skip (kw_nx (cw_seq (sr (oS rfl (nn (cw_join (ι := Int) (fun | v2 => o0_0 = .out v2) (fun | v2 => [(0, .slice p0_0 ((a0).length) c0_0), (1, .slice p1_0 ((a1).length) c1_0), (5, .int .i64 v2)]) (fun | v2 => []) ?_ ?_))))))
 ·refine cw_block (cw_loopS (ι := Nat × Int) (js := []) (fun x => x.1) (fun | (fuel, v2) => l_eqFrameS_L0 fl a0 a1 fuel v2 = some o0_0) (fun | (_, v2) => [(0, .slice p0_0 ((a0).length) c0_0), (1, .slice p1_0 ((a1).length) c1_0), (5, .int .i64 v2)]) (fun | (_, v2) => []) (fl, 0) eo0_0 ⟨rfl, rfl, rfl, trivial⟩ trivial (by decide) ?_)
  rintro ⟨fuel, v2⟩ H1
  have H1 : l_eqFrameS_L0 fl a0 a1 fuel v2 = some o0_0 := H1
  rcases fuel with _ | fuel
  ·rw [l_eqFrameS_L0.eq_1] at H1; cases H1
  rw [l_eqFrameS_L0.eq_2] at H1
  dsimp only
  refine cw_seq (sr (oM rfl (oM rfl (oD (stp_len Tryd.underlying32 rfl) rfl (oW rfl (nn (cw_cond rfl (fun h3 => ?_) (fun h3 => ?_))))))))
  ·have H1 := cond_t H1 h3
   obtain ⟨x4, e4, H1⟩ := bS H1
   obtain ⟨x5, e5, H1⟩ := bS H1
   obtain ⟨x6, e6, H1⟩ := bS H1
   refine cw_skip (kw_nx (cw_seq (cw_block (cw_seq (rdq g_mixed [0, 1, 5] [] { dst := dS [18, 19, 20, 21, 22, 23, 24, 25, 26, 27], pre := gA [] [[], [], [0, 1], [0, 1, 2], [], [], [4, 5], [4, 5, 6], rn 0 8, rn 0 9], ids := fun _ => [], rs := rL [[(0, 0)], [(5, 0)], [(17, 1), (18, 2)], [(19, 3)], [(1, 0)], [(5, 0)], [(21, 5), (22, 6)], [(23, 7)], [(20, 4), (24, 8)], [(25, 9)]], rh := fun _ => [], V := fun i g => gA undef [.slice p0_0 ((a0).length) c0_0, .int .i64 v2, .pointer (some ⟨eB p0_0, eO p0_0 + Int.toNat v2 * Enc.sz F + 0, none⟩), .agg #[.bool x4.u, .int .i64 x4.k.s, .int .i64 x4.k.p, .int .i64 x4.r, .int .i64 x4.nx], .slice p1_0 ((a1).length) c1_0, .int .i64 v2, .pointer (some ⟨eB p1_0, eO p1_0 + Int.toNat v2 * Enc.sz F + 0, none⟩), .agg #[.bool x5.u, .int .i64 x5.k.s, .int .i64 x5.k.p, .int .i64 x5.r, .int .i64 x5.nx], .bool x6, .bool (!x6)] i, U := fun _ _ => [], Φ := fun _ _ => True } ?_ ?_)))))
   ·refine ⟨lM, lM, lc rfl rfl fun hs hh => stp_indexAddr Tryd.underlying32 ts71 (by decide) (sv hs 17 rfl) rfl (sv hs 18 rfl) (Rdb.ro hr0_0) e4, lc rfl rfl fun hs hh => stp_loadN (us := [_, _, _, _, _]) ts71 (sv hs 19 rfl) (Cells.el (Rdb.ro hr0_0) (by decide) e4 0 5 rfl), lM, lM, lc rfl rfl fun hs hh => stp_indexAddr Tryd.underlying32 ts71 (by decide) (sv hs 21 rfl) rfl (sv hs 22 rfl) (Rdb.ro hr1_0) e5, lc rfl rfl fun hs hh => stp_loadN (us := [_, _, _, _, _]) ts71 (sv hs 23 rfl) (Cells.el (Rdb.ro hr1_0) (by decide) e5 0 5 rfl), ?_, lc rfl rfl fun hs hh => stp_not (sv hs 25 rfl), trivial⟩
    refine le rfl rfl (fun g hΦ s h hs hh => (stpU_call (fun i => 0 + i) cf132 (fun w hw => c_l_eqFrame fl w x4 x5 x6 e6) (yB (sv hs 20 rfl) (sv hs 24 rfl)))) ?_
    rintro g _ _ ⟨_, ⟨rfl, rfl⟩, rfl⟩
    exact ⟨⟨[], [], []⟩, trivial, .inr rfl, rfl⟩
   intro g hΦ
   refine KW.sub (s' := [(0, .slice p0_0 ((a0).length) c0_0), (1, .slice p1_0 ((a1).length) c1_0), (5, .int .i64 v2), (26, .bool (!x6))]) (h' := []) ?_ ⟨rfl, rfl, rfl, rfl, trivial⟩ trivial
   refine kw_nx (cw_cond rfl (fun h7 => ?_) (fun h7 => ?_))
   ·have H1 := cond_t H1 h7
    refine sr (oS rfl (nn (cw_ret (kw_bl_ret (kw_nx_ret (kw_lq_ret (kw_bl_ret (kw_join_ret (kw_nx_ret ?_)))))))))
    obtain rfl := sI H1
    obtain rfl := sI H0
    exact kr Tryd.results103 (rT rfl) [] ⟨rfl, rfl⟩
   have H1 := cond_f H1 h7
   obtain ⟨x8, e8, H1⟩ := bS H1
   exact cw_skip (kw_bl_normal (kw_nx (cw_region (oM rfl (oP e8 rfl (oS rfl (ow_nil (kw_lqS (js := []) (fuel, x8) H1 (Nat.lt_succ_self _) ⟨rfl, rfl, rfl, trivial⟩ trivial (by decide)))))))))
  have H1 := cond_f H1 h3
  refine cw_exit (kw_nx_exit (kw_lq_exit (kw_bl ?_)))
  obtain rfl := sI H1
  exact kw_joinS (js := []) v2 rfl ⟨rfl, rfl, rfl, trivial⟩ trivial (by decide)
 rintro v2 rfl
 dsimp only
 refine kw_nx (sr (oS rfl (nn (cw_ret ?_))))
 obtain rfl := sI H0
 exact kr Tryd.results103 (rT rfl) [] ⟨rfl, rfl⟩

theorem c_l_eqTable (fl : Nat) (w : World) (a0 : T) (a1 : T) (hn0_0 : n0_0 = (a0.b).length) (hr0_0 : RO w (hkeys []) (RdL p0_0 c0_0 a0.b)) (hn0_1 : n0_1 = (a0.f).length) (hr0_1 : RO w (hkeys []) (RdL p0_1 c0_1 a0.f)) (hn1_0 : n1_0 = (a1.b).length) (hr1_0 : RO w (hkeys []) (RdL p1_0 c1_0 a1.b)) (hn1_1 : n1_1 = (a1.f).length) (hr1_1 : RO w (hkeys []) (RdL p1_1 c1_1 a1.f)) (r : Bool) (H0 : l_eqTable fl a0 a1 = some r) :
  Ct Tryd.prog 52 [.agg #[.slice p0_0 n0_0 c0_0, .slice p0_1 n0_1 c0_1], .agg #[.slice p1_0 n1_0 c1_0, .slice p1_1 n1_1 c1_1]] w [] (fun rv h' => rv = .bool r ∧ h' = []) := by
 subst hn0_0 hn0_1 hn1_0 hn1_1
 unfold l_eqTable at H0
 refine ct_of_cw Tryd.func52 rfl Tryd.ntmps52 rfl (Sat.refl _ _) ?_
 refine sr (oE (stpU_box 0 rfl rfl) rfl ?_)
 rintro _ _ ⟨b1, rfl, rfl⟩
 refine oE (stpU_box 1 rfl rfl) rfl ?_
 rintro _ _ ⟨b2, rfl, rfl⟩
 obtain ⟨x3, e3, H0⟩ := bS H0
 refine oS rfl (nn (cw_seq (sr (oA 0 Tryd.underlying34 rfl ts22 rfl (oL 0 ts22 rfl (oA 0 Tryd.underlying34 rfl ts22 rfl (oL 1 ts22 rfl (oE (stpU_call (fun i => 2 + i) cf30 (fun w hw => c_l_eqIntS fl w a0.b a1.b rfl (RO.pass hr0_0 hw) rfl (RO.pass hr1_0 hw) x3 e3) (yB rfl rfl)) rfl ?_))))))))
 rintro _ _ ⟨_, ⟨rfl, rfl⟩, rfl⟩
 refine oK rfl (nn (cw_cond rfl (fun h4 => ?_) (fun h4 => ?_)))
 ·have H0 := cond_t H0 h4
  refine sr (oS rfl (nn (cw_ret (kw_nx_ret ?_))))
  obtain rfl := sI H0
  exact kr Tryd.results52 (rT rfl) [] ⟨rfl, rfl⟩
 have H0 := cond_f H0 h4
 obtain ⟨x5, e5, H0⟩ := bS H0
 refine cw_skip (kw_nx (cw_seq (sr (oA 1 Tryd.underlying34 rfl ts32 rfl (oL 0 ts32 rfl (oA 1 Tryd.underlying34 rfl ts32 rfl (oL 1 ts32 rfl (oE (stpU_call (fun i => 2 + i) cf103 (fun w hw => c_l_eqFrameS fl w a0.f a1.f rfl (RO.pass hr0_1 hw) rfl (RO.pass hr1_1 hw) x5 e5) (yB rfl rfl)) rfl ?_))))))))
 rintro _ _ ⟨_, ⟨rfl, rfl⟩, rfl⟩
 refine oK rfl (nn (cw_cond rfl (fun h6 => ?_) (fun h6 => ?_)))
 ·have H0 := cond_t H0 h6
  refine sr (oS rfl (nn (cw_ret (kw_nx_ret ?_))))
  obtain rfl := sI H0
  exact kr Tryd.results52 (rT rfl) [] ⟨rfl, rfl⟩
 have H0 := cond_f H0 h6
 refine cw_skip (kw_nx (sr (oS rfl (nn (cw_ret ?_)))))
 obtain rfl := sI H0
 exact kr Tryd.results52 (rT rfl) [] ⟨rfl, rfl⟩

theorem c_l_eqNote (fl : Nat) (w : World) (a0 : Nt) (a1 : Nt) (r : Bool) (H0 : l_eqNote fl a0 a1 = some r) :
  Ct Tryd.prog 153 [.agg #[.int .i64 a0.k.s, .int .i64 a0.k.p, .int .i64 a0.fr], .agg #[.int .i64 a1.k.s, .int .i64 a1.k.p, .int .i64 a1.fr]] w [] (fun rv h' => rv = .bool r ∧ h' = []) := by
 unfold l_eqNote at H0
 refine ct_of_cw Tryd.func153 rfl Tryd.ntmps153 rfl (Sat.refl _ _) ?_
 refine sr (oE (stpU_box 0 rfl rfl) rfl ?_)
 rintro _ _ ⟨b1, rfl, rfl⟩
 refine oE (stpU_box 1 rfl rfl) rfl ?_
 rintro _ _ ⟨b2, rfl, rfl⟩
 obtain ⟨x3, e3, H0⟩ := bS H0
 refine oS rfl (nn (cw_seq (sr (oA 0 Tryd.underlying55 rfl ts41 rfl (oB2 0 ts41 rfl (oA 0 Tryd.underlying55 rfl ts41 rfl (oB2 1 ts41 rfl (oE (stpU_call (fun i => 2 + i) cf152 (fun w hw => c_l_eqKey fl w a0.k a1.k x3 e3) (yB rfl rfl)) rfl ?_))))))))
 rintro _ _ ⟨_, ⟨rfl, rfl⟩, rfl⟩
 refine oK rfl (nn (cw_cond rfl (fun h4 => ?_) (fun h4 => ?_)))
 ·have H0 := cond_t H0 h4
  refine sr (oS rfl (nn (cw_ret (kw_nx_ret ?_))))
  obtain rfl := sI H0
  exact kr Tryd.results153 (rT rfl) [] ⟨rfl, rfl⟩
 have H0 := cond_f H0 h4
 refine cw_skip (kw_nx (cw_seq (sr (oA 2 Tryd.underlying55 rfl ts3 rfl (oL 0 ts3 rfl (oA 2 Tryd.underlying55 rfl ts3 rfl (oL 1 ts3 rfl (oU rfl (nn (cw_cond rfl (fun h5 => ?_) (fun h5 => ?_)))))))))))
 ·have H0 := cond_t H0 h5
  refine sr (oS rfl (nn (cw_ret (kw_nx_ret ?_))))
  obtain rfl := sI H0
  exact kr Tryd.results153 (rT rfl) [] ⟨rfl, rfl⟩
 have H0 := cond_f H0 h5
 refine cw_skip (kw_nx (sr (oS rfl (nn (cw_ret ?_)))))
 obtain rfl := sI H0
 exact kr Tryd.results153 (rT rfl) [] ⟨rfl, rfl⟩

theorem c_l_eqNoteS (fl : Nat) (w : World) (a0 : (List Nt)) (a1 : (List Nt)) (hn0_0 : n0_0 = (a0).length) (hr0_0 : RO w (hkeys []) (RdL p0_0 c0_0 a0)) (hn1_0 : n1_0 = (a1).length) (hr1_0 : RO w (hkeys []) (RdL p1_0 c1_0 a1)) (r : Bool) (H0 : l_eqNoteS fl a0 a1 = some r) :
  Ct Tryd.prog 133 [.slice p0_0 n0_0 c0_0, .slice p1_0 n1_0 c1_0] w [] (fun rv h' => rv = .bool r ∧ h' = []) := by
 subst hn0_0 hn1_0
 unfold l_eqNoteS at H0
 refine ct_of_cw Tryd.func133 rfl Tryd.ntmps133 rfl (Sat.refl _ _) ?_
 refine sr (oS rfl (nn (cw_seq (sr (oM rfl (oD (stp_len Tryd.underlying51 rfl) rfl (oM rfl (oD (stp_len Tryd.underlying51 rfl) rfl (oU rfl (nn (cw_cond rfl (fun h1 => ?_) (fun h1 => ?_))))))))))))
 ·have H0 := cond_t H0 h1
  refine sr (oS rfl (nn (cw_ret (kw_nx_ret ?_))))
  obtain rfl := sI H0
  exact kr Tryd.results133 (rT rfl) [] ⟨rfl, rfl⟩
 have H0 := cond_f H0 h1
 obtain ⟨o0_0, eo0_0, H0⟩ := bS H0
 refine cw_skip (kw_nx (cw_seq (sr (oS rfl (nn (cw_join (ι := Int) (fun | v2 => o0_0 = .out v2) (fun | v2 => [(0, .slice p0_0 ((a0).length) c0_0), (1, .slice p1_0 ((a1).length) c1_0), (5, .int .i64 v2)]) (fun | v2 => []) ?_ ?_))))))
 ·refine cw_block (cw_loopS (ι := Nat × Int) (js := []) (fun x => x.1) (fun | (fuel, v2) => l_eqNoteS_L0 fl a0 a1 fuel v2 = some o0_0) (fun | (_, v2) => [(0, .slice p0_0 ((a0).length) c0_0), (1, .slice p1_0 ((a1).length) c1_0), (5, .int .i64 v2)]) (fun | (_, v2) => []) (fl, 0) eo0_0 ⟨rfl, rfl, rfl, trivial⟩ trivial (by decide) ?_)
  rintro ⟨fuel, v2⟩ H1
  have H1 : l_eqNoteS_L0 fl a0 a1 fuel v2 = some o0_0 := H1
  rcases fuel with _ | fuel
  ·rw [l_eqNoteS_L0.eq_1] at H1; cases H1
  rw [l_eqNoteS_L0.eq_2] at H1
  dsimp only
  refine cw_seq (sr (oM rfl (oM rfl (oD (stp_len Tryd.underlying51 rfl) rfl (oW rfl (nn (cw_cond rfl (fun h3 => ?_) (fun h3 => ?_))))))))
  ·have H1 := cond_t H1 h3
   obtain ⟨x4, e4, H1⟩ := bS H1
   obtain ⟨x5, e5, H1⟩ := bS H1
   obtain ⟨x6, e6, H1⟩ := bS H1
   refine cw_skip (kw_nx (cw_seq (cw_block (cw_seq (rdq g_mixed [0, 1, 5] [] { dst := dS [18, 19, 20, 21, 22, 23, 24, 25, 26, 27], pre := gA [] [[], [], [0, 1], [0, 1, 2], [], [], [4, 5], [4, 5, 6], rn 0 8, rn 0 9], ids := fun _ => [], rs := rL [[(0, 0)], [(5, 0)], [(17, 1), (18, 2)], [(19, 3)], [(1, 0)], [(5, 0)], [(21, 5), (22, 6)], [(23, 7)], [(20, 4), (24, 8)], [(25, 9)]], rh := fun _ => [], V := fun i g => gA undef [.slice p0_0 ((a0).length) c0_0, .int .i64 v2, .pointer (some ⟨eB p0_0, eO p0_0 + Int.toNat v2 * Enc.sz Nt + 0, none⟩), .agg #[.int .i64 x4.k.s, .int .i64 x4.k.p, .int .i64 x4.fr], .slice p1_0 ((a1).length) c1_0, .int .i64 v2, .pointer (some ⟨eB p1_0, eO p1_0 + Int.toNat v2 * Enc.sz Nt + 0, none⟩), .agg #[.int .i64 x5.k.s, .int .i64 x5.k.p, .int .i64 x5.fr], .bool x6, .bool (!x6)] i, U := fun _ _ => [], Φ := fun _ _ => True } ?_ ?_)))))
   ·refine ⟨lM, lM, lc rfl rfl fun hs hh => stp_indexAddr Tryd.underlying51 ts55 (by decide) (sv hs 17 rfl) rfl (sv hs 18 rfl) (Rdb.ro hr0_0) e4, lc rfl rfl fun hs hh => stp_loadN (us := [_, _, _]) ts55 (sv hs 19 rfl) (Cells.el (Rdb.ro hr0_0) (by decide) e4 0 3 rfl), lM, lM, lc rfl rfl fun hs hh => stp_indexAddr Tryd.underlying51 ts55 (by decide) (sv hs 21 rfl) rfl (sv hs 22 rfl) (Rdb.ro hr1_0) e5, lc rfl rfl fun hs hh => stp_loadN (us := [_, _, _]) ts55 (sv hs 23 rfl) (Cells.el (Rdb.ro hr1_0) (by decide) e5 0 3 rfl), ?_, lc rfl rfl fun hs hh => stp_not (sv hs 25 rfl), trivial⟩
    refine le rfl rfl (fun g hΦ s h hs hh => (stpU_call (fun i => 0 + i) cf153 (fun w hw => c_l_eqNote fl w x4 x5 x6 e6) (yB (sv hs 20 rfl) (sv hs 24 rfl)))) ?_
    rintro g _ _ ⟨_, ⟨rfl, rfl⟩, rfl⟩
    exact ⟨⟨[], [], []⟩, trivial, .inr rfl, rfl⟩
   intro g hΦ
   refine KW.sub (s' := [(0, .slice p0_0 ((a0).length) c0_0), (1, .slice p1_0 ((a1).length) c1_0), (5, .int .i64 v2), (26, .bool (!x6))]) (h' := []) ?_ ⟨rfl, rfl, rfl, rfl, trivial⟩ trivial
   refine kw_nx (cw_cond rfl (fun h7 => ?_) (fun h7 => ?_))
   ·have H1 := cond_t H1 h7
    refine sr (oS rfl (nn (cw_ret (kw_bl_ret (kw_nx_ret (kw_lq_ret (kw_bl_ret (kw_join_ret (kw_nx_ret ?_)))))))))
    obtain rfl := sI H1
    obtain rfl := sI H0
    exact kr Tryd.results133 (rT rfl) [] ⟨rfl, rfl⟩
   have H1 := cond_f H1 h7
   obtain ⟨x8, e8, H1⟩ := bS H1
   exact cw_skip (kw_bl_normal (kw_nx (cw_region (oM rfl (oP e8 rfl (oS rfl (ow_nil (kw_lqS (js := []) (fuel, x8) H1 (Nat.lt_succ_self _) ⟨rfl, rfl, rfl, trivial⟩ trivial (by decide)))))))))
  have H1 := cond_f H1 h3
  refine cw_exit (kw_nx_exit (kw_lq_exit (kw_bl ?_)))
  obtain rfl := sI H1
  exact kw_joinS (js := []) v2 rfl ⟨rfl, rfl, rfl, trivial⟩ trivial (by decide)
 rintro v2 rfl
 dsimp only
 refine kw_nx (sr (oS rfl (nn (cw_ret ?_))))
 obtain rfl := sI H0
 exact kr Tryd.results133 (rT rfl) [] ⟨rfl, rfl⟩

theorem c_l_eqCpu (fl : Nat) (w : World) (a0 : Cp) (a1 : Cp) (hn0_0 : n0_0 = (a0.n).length) (hr0_0 : RO w (hkeys []) (RdL p0_0 c0_0 a0.n)) (hn0_1 : n0_1 = (a0.w).length) (hr0_1 : RO w (hkeys []) (RdL p0_1 c0_1 a0.w)) (hn1_0 : n1_0 = (a1.n).length) (hr1_0 : RO w (hkeys []) (RdL p1_0 c1_0 a1.n)) (hn1_1 : n1_1 = (a1.w).length) (hr1_1 : RO w (hkeys []) (RdL p1_1 c1_1 a1.w)) (r : Bool) (H0 : l_eqCpu fl a0 a1 = some r) :
  Ct Tryd.prog 104 [.agg #[.slice p0_0 n0_0 c0_0, .slice p0_1 n0_1 c0_1], .agg #[.slice p1_0 n1_0 c1_0, .slice p1_1 n1_1 c1_1]] w [] (fun rv h' => rv = .bool r ∧ h' = []) := by
 subst hn0_0 hn0_1 hn1_0 hn1_1
 unfold l_eqCpu at H0
 refine ct_of_cw Tryd.func104 rfl Tryd.ntmps104 rfl (Sat.refl _ _) ?_
 refine sr (oE (stpU_box 0 rfl rfl) rfl ?_)
 rintro _ _ ⟨b1, rfl, rfl⟩
 refine oE (stpU_box 1 rfl rfl) rfl ?_
 rintro _ _ ⟨b2, rfl, rfl⟩
 obtain ⟨x3, e3, H0⟩ := bS H0
 refine oS rfl (nn (cw_seq (sr (oA 0 Tryd.underlying53 rfl ts51 rfl (oL 0 ts51 rfl (oA 0 Tryd.underlying53 rfl ts51 rfl (oL 1 ts51 rfl (oE (stpU_call (fun i => 2 + i) cf133 (fun w hw => c_l_eqNoteS fl w a0.n a1.n rfl (RO.pass hr0_0 hw) rfl (RO.pass hr1_0 hw) x3 e3) (yB rfl rfl)) rfl ?_))))))))
 rintro _ _ ⟨_, ⟨rfl, rfl⟩, rfl⟩
 refine oK rfl (nn (cw_cond rfl (fun h4 => ?_) (fun h4 => ?_)))
 ·have H0 := cond_t H0 h4
  refine sr (oS rfl (nn (cw_ret (kw_nx_ret ?_))))
  obtain rfl := sI H0
  exact kr Tryd.results104 (rT rfl) [] ⟨rfl, rfl⟩
 have H0 := cond_f H0 h4
 obtain ⟨x5, e5, H0⟩ := bS H0
 refine cw_skip (kw_nx (cw_seq (sr (oA 1 Tryd.underlying53 rfl ts51 rfl (oL 0 ts51 rfl (oA 1 Tryd.underlying53 rfl ts51 rfl (oL 1 ts51 rfl (oE (stpU_call (fun i => 2 + i) cf133 (fun w hw => c_l_eqNoteS fl w a0.w a1.w rfl (RO.pass hr0_1 hw) rfl (RO.pass hr1_1 hw) x5 e5) (yB rfl rfl)) rfl ?_))))))))
 rintro _ _ ⟨_, ⟨rfl, rfl⟩, rfl⟩
 refine oK rfl (nn (cw_cond rfl (fun h6 => ?_) (fun h6 => ?_)))
 ·have H0 := cond_t H0 h6
  refine sr (oS rfl (nn (cw_ret (kw_nx_ret ?_))))
  obtain rfl := sI H0
  exact kr Tryd.results104 (rT rfl) [] ⟨rfl, rfl⟩
 have H0 := cond_f H0 h6
 refine cw_skip (kw_nx (sr (oS rfl (nn (cw_ret ?_)))))
 obtain rfl := sI H0
 exact kr Tryd.results104 (rT rfl) [] ⟨rfl, rfl⟩

theorem c_l_eqCpuS (fl : Nat) (w : World) (a0 : (List Cp)) (a1 : (List Cp)) (hn0_0 : n0_0 = (a0).length) (hr0_0 : ROD w (hkeys []) p0_0 c0_0 a0) (hn1_0 : n1_0 = (a1).length) (hr1_0 : ROD w (hkeys []) p1_0 c1_0 a1) (r : Bool) (H0 : l_eqCpuS fl a0 a1 = some r) :
  Ct Tryd.prog 53 [.slice p0_0 n0_0 c0_0, .slice p1_0 n1_0 c1_0] w [] (fun rv h' => rv = .bool r ∧ h' = []) := by
 subst hn0_0 hn1_0
 unfold l_eqCpuS at H0
 refine ct_of_cw Tryd.func53 rfl Tryd.ntmps53 rfl (Sat.refl _ _) ?_
 refine sr (oS rfl (nn (cw_seq (sr (oM rfl (oD (stp_len Tryd.underlying35 rfl) rfl (oM rfl (oD (stp_len Tryd.underlying35 rfl) rfl (oU rfl (nn (cw_cond rfl (fun h1 => ?_) (fun h1 => ?_))))))))))))
 ·have H0 := cond_t H0 h1
  refine sr (oS rfl (nn (cw_ret (kw_nx_ret ?_))))
  obtain rfl := sI H0
  exact kr Tryd.results53 (rT rfl) [] ⟨rfl, rfl⟩
 have H0 := cond_f H0 h1
 obtain ⟨o0_0, eo0_0, H0⟩ := bS H0
 refine cw_skip (kw_nx (cw_seq (sr (oS rfl (nn (cw_join (ι := Int) (fun | v2 => o0_0 = .out v2) (fun | v2 => [(0, .slice p0_0 ((a0).length) c0_0), (1, .slice p1_0 ((a1).length) c1_0), (5, .int .i64 v2)]) (fun | v2 => []) ?_ ?_))))))
 ·refine cw_block (cw_loopS (ι := Nat × Int) (js := []) (fun x => x.1) (fun | (fuel, v2) => l_eqCpuS_L0 fl a0 a1 fuel v2 = some o0_0) (fun | (_, v2) => [(0, .slice p0_0 ((a0).length) c0_0), (1, .slice p1_0 ((a1).length) c1_0), (5, .int .i64 v2)]) (fun | (_, v2) => []) (fl, 0) eo0_0 ⟨rfl, rfl, rfl, trivial⟩ trivial (by decide) ?_)
  rintro ⟨fuel, v2⟩ H1
  have H1 : l_eqCpuS_L0 fl a0 a1 fuel v2 = some o0_0 := H1
  rcases fuel with _ | fuel
  ·rw [l_eqCpuS_L0.eq_1] at H1; cases H1
  rw [l_eqCpuS_L0.eq_2] at H1
  dsimp only
  refine cw_seq (sr (oM rfl (oM rfl (oD (stp_len Tryd.underlying35 rfl) rfl (oW rfl (nn (cw_cond rfl (fun h3 => ?_) (fun h3 => ?_))))))))
  ·have H1 := cond_t H1 h3
   obtain ⟨x4, e4, H1⟩ := bS H1
   refine cw_skip (kw_nx (cw_seq (cw_block (cw_seq ?_))))
   obtain ⟨u5, p6, n7, c8, p9, n10, c11, hw5, hl5, hx5, rfl, hr5, rfl, hs5⟩ := ROD.get hr0_0 e4
   obtain ⟨x12, e12, H1⟩ := bS H1
   obtain ⟨u13, p14, n15, c16, p17, n18, c19, hw13, hl13, hx13, rfl, hr13, rfl, hs13⟩ := ROD.get hr1_0 e12
   obtain ⟨x20, e20, H1⟩ := bS H1
   refine rdq g_mixed [0, 1, 5] [] { dst := dS [18, 19, 20, 21, 22, 23, 24, 25, 26, 27], pre := gA [] [[], [], [0, 1], [0, 1, 2], [], [], [4, 5], [4, 5, 6], rn 0 8, rn 0 9], ids := fun _ => [], rs := rL [[(0, 0)], [(5, 0)], [(17, 1), (18, 2)], [(19, 3)], [(1, 0)], [(5, 0)], [(21, 5), (22, 6)], [(23, 7)], [(20, 4), (24, 8)], [(25, 9)]], rh := fun _ => [], V := fun i g => gA undef [.slice p0_0 ((a0).length) c0_0, .int .i64 v2, .pointer (some ⟨eB p0_0, eO p0_0 + Int.toNat v2 * Enc.sz CpS + 0, none⟩), .agg #[.slice p6 ((x4.n).length) c8, .slice p9 ((x4.w).length) c11], .slice p1_0 ((a1).length) c1_0, .int .i64 v2, .pointer (some ⟨eB p1_0, eO p1_0 + Int.toNat v2 * Enc.sz CpS + 0, none⟩), .agg #[.slice p14 ((x12.n).length) c16, .slice p17 ((x12.w).length) c19], .bool x20, .bool (!x20)] i, U := fun _ _ => [], Φ := fun _ _ => True } ?_ ?_
   ·refine ⟨lM, lM, lc rfl rfl fun hs hh => stp_indexAddr Tryd.underlying35 ts53 (by decide) (sv hs 17 rfl) hl5 (sv hs 18 rfl) (Rdb.ro hw5) hx5, lc rfl rfl fun hs hh => stp_loadN (us := [_, _]) ts53 (sv hs 19 rfl) (Cells.el (Rdb.ro hw5) (by decide) hx5 0 2 rfl), lM, lM, lc rfl rfl fun hs hh => stp_indexAddr Tryd.underlying35 ts53 (by decide) (sv hs 21 rfl) hl13 (sv hs 22 rfl) (Rdb.ro hw13) hx13, lc rfl rfl fun hs hh => stp_loadN (us := [_, _]) ts53 (sv hs 23 rfl) (Cells.el (Rdb.ro hw13) (by decide) hx13 0 2 rfl), ?_, lc rfl rfl fun hs hh => stp_not (sv hs 25 rfl), trivial⟩
    refine le rfl rfl (fun g hΦ s h hs hh => (stpU_call (fun i => 0 + i) cf104 (fun w hw => c_l_eqCpu fl w x4 x12 rfl (RO.pass hr5 hw) rfl (RO.pass hs5 hw) rfl (RO.pass hr13 hw) rfl (RO.pass hs13 hw) x20 e20) (yB (sv hs 20 rfl) (sv hs 24 rfl)))) ?_
    rintro g _ _ ⟨_, ⟨rfl, rfl⟩, rfl⟩
    exact ⟨⟨[], [], []⟩, trivial, .inr rfl, rfl⟩
   intro g hΦ
   refine KW.sub (s' := [(0, .slice p0_0 ((a0).length) c0_0), (1, .slice p1_0 ((a1).length) c1_0), (5, .int .i64 v2), (26, .bool (!x20))]) (h' := []) ?_ ⟨rfl, rfl, rfl, rfl, trivial⟩ trivial
   refine kw_nx (cw_cond rfl (fun h21 => ?_) (fun h21 => ?_))
   ·have H1 := cond_t H1 h21
    refine sr (oS rfl (nn (cw_ret (kw_bl_ret (kw_nx_ret (kw_lq_ret (kw_bl_ret (kw_join_ret (kw_nx_ret ?_)))))))))
    obtain rfl := sI H1
    obtain rfl := sI H0
    exact kr Tryd.results53 (rT rfl) [] ⟨rfl, rfl⟩
   have H1 := cond_f H1 h21
   obtain ⟨x22, e22, H1⟩ := bS H1
   exact cw_skip (kw_bl_normal (kw_nx (cw_region (oM rfl (oP e22 rfl (oS rfl (ow_nil (kw_lqS (js := []) (fuel, x22) H1 (Nat.lt_succ_self _) ⟨rfl, rfl, rfl, trivial⟩ trivial (by decide)))))))))
  have H1 := cond_f H1 h3
  refine cw_exit (kw_nx_exit (kw_lq_exit (kw_bl ?_)))
  obtain rfl := sI H1
  exact kw_joinS (js := []) v2 rfl ⟨rfl, rfl, rfl, trivial⟩ trivial (by decide)
 rintro v2 rfl
 dsimp only
 refine kw_nx (sr (oS rfl (nn (cw_ret ?_))))
 obtain rfl := sI H0
 exact kr Tryd.results53 (rT rfl) [] ⟨rfl, rfl⟩

theorem c_l_eqSystem (fl : Nat) (w : World) (a0 : Sy) (a1 : Sy) (hn0_0 : n0_0 = (a0.t.b).length) (hr0_0 : RO w (hkeys []) (RdL p0_0 c0_0 a0.t.b)) (hn0_1 : n0_1 = (a0.t.f).length) (hr0_1 : RO w (hkeys []) (RdL p0_1 c0_1 a0.t.f)) (hn0_2 : n0_2 = (a0.c).length) (hr0_2 : ROD w (hkeys []) p0_2 c0_2 a0.c) (hn1_0 : n1_0 = (a1.t.b).length) (hr1_0 : RO w (hkeys []) (RdL p1_0 c1_0 a1.t.b)) (hn1_1 : n1_1 = (a1.t.f).length) (hr1_1 : RO w (hkeys []) (RdL p1_1 c1_1 a1.t.f)) (hn1_2 : n1_2 = (a1.c).length) (hr1_2 : ROD w (hkeys []) p1_2 c1_2 a1.c) (r : Bool) (H0 : l_eqSystem fl a0 a1 = some r) :
  Ct Tryd.prog 15 [.agg #[.slice p0_0 n0_0 c0_0, .slice p0_1 n0_1 c0_1, .slice p0_2 n0_2 c0_2], .agg #[.slice p1_0 n1_0 c1_0, .slice p1_1 n1_1 c1_1, .slice p1_2 n1_2 c1_2]] w [] (fun rv h' => rv = .bool r ∧ h' = []) := by
 subst hn0_0 hn0_1 hn0_2 hn1_0 hn1_1 hn1_2
 unfold l_eqSystem at H0
 refine ct_of_cw Tryd.func15 rfl Tryd.ntmps15 rfl (Sat.refl _ _) ?_
 refine sr (oE (stpU_box 0 rfl rfl) rfl ?_)
 rintro _ _ ⟨b1, rfl, rfl⟩
 refine oE (stpU_box 1 rfl rfl) rfl ?_
 rintro _ _ ⟨b2, rfl, rfl⟩
 obtain ⟨x3, e3, H0⟩ := bS H0
 refine oS rfl (nn (cw_seq (sr (oA 0 Tryd.underlying37 rfl ts34 rfl (oB2 0 ts34 rfl (oA 0 Tryd.underlying37 rfl ts34 rfl (oB2 1 ts34 rfl (oE (stpU_call (fun i => 2 + i) cf52 (fun w hw => c_l_eqTable fl w a0.t a1.t rfl (RO.pass hr0_0 hw) rfl (RO.pass hr0_1 hw) rfl (RO.pass hr1_0 hw) rfl (RO.pass hr1_1 hw) x3 e3) (yB rfl rfl)) rfl ?_))))))))
 rintro _ _ ⟨_, ⟨rfl, rfl⟩, rfl⟩
 refine oK rfl (nn (cw_cond rfl (fun h4 => ?_) (fun h4 => ?_)))
 ·have H0 := cond_t H0 h4
  refine sr (oS rfl (nn (cw_ret (kw_nx_ret ?_))))
  obtain rfl := sI H0
  exact kr Tryd.results15 (rT rfl) [] ⟨rfl, rfl⟩
 have H0 := cond_f H0 h4
 obtain ⟨x5, e5, H0⟩ := bS H0
 refine cw_skip (kw_nx (cw_seq (sr (oA 2 Tryd.underlying37 rfl ts35 rfl (oL 0 ts35 rfl (oA 2 Tryd.underlying37 rfl ts35 rfl (oL 1 ts35 rfl (oE (stpU_call (fun i => 2 + i) cf53 (fun w hw => c_l_eqCpuS fl w a0.c a1.c rfl (ROD.pass hr0_2 hw) rfl (ROD.pass hr1_2 hw) x5 e5) (yB rfl rfl)) rfl ?_))))))))
 rintro _ _ ⟨_, ⟨rfl, rfl⟩, rfl⟩
 refine oK rfl (nn (cw_cond rfl (fun h6 => ?_) (fun h6 => ?_)))
 ·have H0 := cond_t H0 h6
  refine sr (oS rfl (nn (cw_ret (kw_nx_ret ?_))))
  obtain rfl := sI H0
  exact kr Tryd.results15 (rT rfl) [] ⟨rfl, rfl⟩
 have H0 := cond_f H0 h6
 refine cw_skip (kw_nx (sr (oS rfl (nn (cw_ret ?_)))))
 obtain rfl := sI H0
 exact kr Tryd.results15 (rT rfl) [] ⟨rfl, rfl⟩

theorem c_l_markIntS (fl : Nat) (w : World) (a0 : (List Int)) (a1 : Int) (hn0_0 : n0_0 = (a0).length) (ho0_0 : OwnC 3 p0_0 c0_0 a0 C0_0) (hM : Sat w (hkeys [(0, C0_0)]) w [(0, C0_0)]) (r : Int × (List Int)) (H0 : l_markIntS fl a0 a1 = some r) :
  Ct Tryd.prog 31 [.slice p0_0 n0_0 c0_0, .int .i64 a1] w [(0, C0_0)] (fun rv h' => ∃ (D0 : Res), rv = .int .i64 r.1 ∧ h' = [(0, D0)] ∧ n0_0 = (r.2).length ∧ OwnC 3 p0_0 c0_0 r.2 D0) := by
 subst hn0_0
 unfold l_markIntS at H0
 refine ct_of_cw Tryd.func31 rfl Tryd.ntmps31 rfl hM ?_
 obtain ⟨o0_0, eo0_0, H0⟩ := bS H0
 refine sr (oS rfl (nn (cw_seq (sr (oS rfl (nn (cw_join (ι := (List Int) × Int × Int × Res) (fun | (v1, v3, v4, C2) => o0_0 = .out (v1, v3, v4) ∧ (a0).length = (v1).length ∧ OwnC 3 p0_0 c0_0 v1 C2) (fun | (v1, v3, v4, C2) => [(0, .slice p0_0 ((a0).length) c0_0), (1, .int .i64 v3), (5, .int .i64 v4)]) (fun | (v1, v3, v4, C2) => [(0, C2)]) ?_ ?_)))))))
 ·refine cw_block (cw_loopS (ι := Nat × (List Int) × Int × Int × Res) (js := [0]) (fun x => x.1) (fun | (fuel, v1, v3, v4, C2) => l_markIntS_L0 fl a0 fuel v1 v3 v4 = some o0_0 ∧ (a0).length = (v1).length ∧ OwnC 3 p0_0 c0_0 v1 C2) (fun | (_, v1, v3, v4, C2) => [(0, .slice p0_0 ((a0).length) c0_0), (1, .int .i64 v3), (5, .int .i64 v4)]) (fun | (_, v1, v3, v4, C2) => [(0, C2)]) (fl, a0, a1, 0, C0_0) ⟨eo0_0, rfl, ho0_0⟩ ⟨rfl, rfl, rfl, trivial⟩ ⟨0, [], rfl, rfl, trivial⟩ (by decide) ?_)
  rintro ⟨fuel, v1, v3, v4, C2⟩ ⟨H1, hl2, o2⟩
  have H1 : l_markIntS_L0 fl a0 fuel v1 v3 v4 = some o0_0 := H1
  rcases fuel with _ | fuel
  ·rw [l_markIntS_L0.eq_1] at H1; cases H1
  rw [l_markIntS_L0.eq_2] at H1
  dsimp only
  refine cw_seq (sr (oM rfl (oM rfl (oD (stp_len Tryd.underlying22 rfl) rfl (oW rfl (nn (cw_cond rfl (fun h5 => ?_) (fun h5 => ?_))))))))
  ·have H1 := cond_t H1 h5
   obtain ⟨x6, e6, H1⟩ := bS H1
   refine cw_skip (kw_nx (cw_seq (cw_block (sr (oM rfl (oM rfl (oM rfl (oD (stp_indexAddr Tryd.underlying22 ts3 (by decide) rfl (by simp [hl2]) rfl (Rdb.own (id := 0) rfl o2) e6) rfl (oF (stpU_storeEl (id := 0) (i := 0) v3 (by decide) ts3 rfl rfl rfl o2 e6 rfl rfl rfl rfl) ?_)))))))))
   rintro _ _ ⟨C7, rfl, o7⟩
   obtain ⟨x8, e8, H1⟩ := bS H1
   obtain ⟨x9, e9, H1⟩ := bS H1
   exact nn (cw_region (oM rfl (oP e8 rfl (oS rfl (ow_nil (kw_bl_normal (kw_nx (cw_region (oM rfl (oP e9 rfl (oS rfl (ow_nil (kw_lqS (js := [0]) (fuel, (v1.set (Int.toNat v4) v3), x8, x9, C7) ⟨H1, (by simp [hl2]), o7⟩ (Nat.lt_succ_self _) ⟨rfl, rfl, rfl, trivial⟩ ⟨0, [], rfl, rfl, trivial⟩ (by decide))))))))))))))
  have H1 := cond_f H1 h5
  refine cw_exit (kw_nx_exit (kw_lq_exit (kw_bl ?_)))
  obtain rfl := sI H1
  exact kw_joinS (js := [0]) (v1, v3, v4, C2) ⟨rfl, (by simp [hl2]), o2⟩ ⟨rfl, rfl, rfl, trivial⟩ ⟨0, [], rfl, rfl, trivial⟩ (by decide)
 rintro ⟨v1, v3, v4, C2⟩ ⟨rfl, hl2, o2⟩
 dsimp only
 refine kw_nx (sr (oM rfl (oS rfl (nn (cw_ret ?_)))))
 obtain rfl := sI H0
 exact kr Tryd.results31 (rT rfl) [0] ⟨_, rfl, rfl, (by simp [hl2]), o2⟩

theorem c_l_markFrameS (fl : Nat) (w : World) (a0 : (List F)) (a1 : Int) (hn0_0 : n0_0 = (a0).length) (ho0_0 : OwnC 71 p0_0 c0_0 a0 C0_0) (hM : Sat w (hkeys [(0, C0_0)]) w [(0, C0_0)]) (r : Int × (List F)) (H0 : l_markFrameS fl a0 a1 = some r) :
  Ct Tryd.prog 105 [.slice p0_0 n0_0 c0_0, .int .i64 a1] w [(0, C0_0)] (fun rv h' => ∃ (D0 : Res), rv = .int .i64 r.1 ∧ h' = [(0, D0)] ∧ n0_0 = (r.2).length ∧ OwnC 71 p0_0 c0_0 r.2 D0) := by
 subst hn0_0
 unfold l_markFrameS at H0
 refine ct_of_cw Tryd.func105 rfl Tryd.ntmps105 rfl hM ?_
 obtain ⟨o0_0, eo0_0, H0⟩ := bS H0
 refine sr (oS rfl (nn (cw_seq (sr (oS rfl (nn (cw_join (ι := (List F) × Int × Int × Res) (fun | (v1, v3, v4, C2) => o0_0 = .out (v1, v3, v4) ∧ (a0).length = (v1).length ∧ OwnC 71 p0_0 c0_0 v1 C2) (fun | (v1, v3, v4, C2) => [(0, .slice p0_0 ((a0).length) c0_0), (1, .int .i64 v3), (5, .int .i64 v4)]) (fun | (v1, v3, v4, C2) => [(0, C2)]) ?_ ?_)))))))
 ·refine cw_block (cw_loopS (ι := Nat × (List F) × Int × Int × Res) (js := [0]) (fun x => x.1) (fun | (fuel, v1, v3, v4, C2) => l_markFrameS_L0 fl a0 fuel v1 v3 v4 = some o0_0 ∧ (a0).length = (v1).length ∧ OwnC 71 p0_0 c0_0 v1 C2) (fun | (_, v1, v3, v4, C2) => [(0, .slice p0_0 ((a0).length) c0_0), (1, .int .i64 v3), (5, .int .i64 v4)]) (fun | (_, v1, v3, v4, C2) => [(0, C2)]) (fl, a0, a1, 0, C0_0) ⟨eo0_0, rfl, ho0_0⟩ ⟨rfl, rfl, rfl, trivial⟩ ⟨0, [], rfl, rfl, trivial⟩ (by decide) ?_)
  rintro ⟨fuel, v1, v3, v4, C2⟩ ⟨H1, hl2, o2⟩
  have H1 : l_markFrameS_L0 fl a0 fuel v1 v3 v4 = some o0_0 := H1
  rcases fuel with _ | fuel
  ·rw [l_markFrameS_L0.eq_1] at H1; cases H1
  rw [l_markFrameS_L0.eq_2] at H1
  dsimp only
  refine cw_seq (sr (oM rfl (oM rfl (oD (stp_len Tryd.underlying32 rfl) rfl (oW rfl (nn (cw_cond rfl (fun h5 => ?_) (fun h5 => ?_))))))))
  ·have H1 := cond_t H1 h5
   obtain ⟨x6, e6, H1⟩ := bS H1
   obtain ⟨x7, e7, H1⟩ := bS H1
   refine cw_skip (kw_nx (cw_seq (cw_block (sr (oM rfl (oM rfl (oM rfl (oD (stp_rem rfl rfl e6) rfl (oQ rfl (oD (stp_indexAddr Tryd.underlying32 ts71 (by decide) rfl (by simp [hl2]) rfl (Rdb.own (id := 0) rfl o2) e7) rfl (oA 0 Tryd.underlying71 rfl ts4 rfl (oF (stpU_storeEl (id := 0) (i := 0) (⟨(x6 == 0), x7.k, x7.r, x7.nx⟩ : F) (by decide) ts4 rfl rfl rfl o2 e7 rfl rfl rfl rfl) ?_))))))))))))
   rintro _ _ ⟨C8, rfl, o8⟩
   obtain ⟨x9, e9, H1⟩ := bS H1
   obtain ⟨x10, e10, H1⟩ := bS H1
   refine nn (sr (oM rfl (oP e9 rfl (oS rfl (nn (sr (oM rfl (oM rfl (oM rfl (oD (stp_indexAddr Tryd.underlying32 ts71 (by decide) rfl (by simp [hl2]) rfl (Rdb.own (id := 0) rfl o8) e10) rfl (oA 1 Tryd.underlying71 rfl ts41 rfl (oA 0 Tryd.underlying41 rfl ts3 rfl (oF (stpU_storeEl (id := 0) (i := 1) (⟨x10.u, (⟨x9, x10.k.p⟩ : K), x10.r, x10.nx⟩ : F) (by decide) ts3 rfl rfl rfl o8 e10 rfl rfl rfl rfl) ?_)))))))))))))
   rintro _ _ ⟨C11, rfl, o11⟩
   obtain ⟨x12, e12, H1⟩ := bS H1
   obtain ⟨x13, e13, H1⟩ := bS H1
   refine nn (sr (oM rfl (oP e12 rfl (oS rfl (nn (sr (oM rfl (oM rfl (oM rfl (oD (stp_indexAddr Tryd.underlying32 ts71 (by decide) rfl (by simp [hl2]) rfl (Rdb.own (id := 0) rfl o11) e13) rfl (oA 1 Tryd.underlying71 rfl ts41 rfl (oA 1 Tryd.underlying41 rfl ts3 rfl (oF (stpU_storeEl (id := 0) (i := 2) (⟨x13.u, (⟨x13.k.s, x12⟩ : K), x13.r, x13.nx⟩ : F) (by decide) ts3 rfl rfl rfl o11 e13 rfl rfl rfl rfl) ?_)))))))))))))
   rintro _ _ ⟨C14, rfl, o14⟩
   obtain ⟨x15, e15, H1⟩ := bS H1
   obtain ⟨x16, e16, H1⟩ := bS H1
   refine nn (sr (oM rfl (oP e15 rfl (oS rfl (nn (sr (oM rfl (oM rfl (oM rfl (oD (stp_indexAddr Tryd.underlying32 ts71 (by decide) rfl (by simp [hl2]) rfl (Rdb.own (id := 0) rfl o14) e16) rfl (oA 3 Tryd.underlying71 rfl ts3 rfl (oF (stpU_storeEl (id := 0) (i := 3) (⟨x16.u, x16.k, x15, x16.nx⟩ : F) (by decide) ts3 rfl rfl rfl o14 e16 rfl rfl rfl rfl) ?_))))))))))))
   rintro _ _ ⟨C17, rfl, o17⟩
   obtain ⟨x18, e18, H1⟩ := bS H1
   obtain ⟨x19, e19, H1⟩ := bS H1
   refine nn (sr (oM rfl (oP e18 rfl (oS rfl (nn (sr (oM rfl (oM rfl (oM rfl (oD (stp_indexAddr Tryd.underlying32 ts71 (by decide) rfl (by simp [hl2]) rfl (Rdb.own (id := 0) rfl o17) e19) rfl (oA 4 Tryd.underlying71 rfl ts3 rfl (oF (stpU_storeEl (id := 0) (i := 4) (⟨x19.u, x19.k, x19.r, x18⟩ : F) (by decide) ts3 rfl rfl rfl o17 e19 rfl rfl rfl rfl) ?_))))))))))))
   rintro _ _ ⟨C20, rfl, o20⟩
   obtain ⟨x21, e21, H1⟩ := bS H1
   obtain ⟨x22, e22, H1⟩ := bS H1
   exact nn (cw_region (oM rfl (oP e21 rfl (oS rfl (ow_nil (kw_bl_normal (kw_nx (cw_region (oM rfl (oP e22 rfl (oS rfl (ow_nil (kw_lqS (js := [0]) (fuel, (((((v1.set (Int.toNat v4) (⟨(x6 == 0), x7.k, x7.r, x7.nx⟩ : F)).set (Int.toNat v4) (⟨x10.u, (⟨x9, x10.k.p⟩ : K), x10.r, x10.nx⟩ : F)).set (Int.toNat v4) (⟨x13.u, (⟨x13.k.s, x12⟩ : K), x13.r, x13.nx⟩ : F)).set (Int.toNat v4) (⟨x16.u, x16.k, x15, x16.nx⟩ : F)).set (Int.toNat v4) (⟨x19.u, x19.k, x19.r, x18⟩ : F)), x21, x22, C20) ⟨H1, (by simp [hl2]), o20⟩ (Nat.lt_succ_self _) ⟨rfl, rfl, rfl, trivial⟩ ⟨0, [], rfl, rfl, trivial⟩ (by decide))))))))))))))
  have H1 := cond_f H1 h5
  refine cw_exit (kw_nx_exit (kw_lq_exit (kw_bl ?_)))
  obtain rfl := sI H1
  exact kw_joinS (js := [0]) (v1, v3, v4, C2) ⟨rfl, (by simp [hl2]), o2⟩ ⟨rfl, rfl, rfl, trivial⟩ ⟨0, [], rfl, rfl, trivial⟩ (by decide)
 rintro ⟨v1, v3, v4, C2⟩ ⟨rfl, hl2, o2⟩
 dsimp only
 refine kw_nx (sr (oM rfl (oS rfl (nn (cw_ret ?_)))))
 obtain rfl := sI H0
 exact kr Tryd.results105 (rT rfl) [0] ⟨_, rfl, rfl, (by simp [hl2]), o2⟩

theorem c_l_markTable (fl : Nat) (w : World) (a0 : T) (a1 : Int) (hn0_0 : n0_0 = (a0.b).length) (ho0_0 : OwnC 3 p0_0 c0_0 a0.b C0_0) (hn0_1 : n0_1 = (a0.f).length) (ho0_1 : OwnC 71 p0_1 c0_1 a0.f C0_1) (hM : Sat w (hkeys [(0, C0_0), (1, C0_1)]) w [(0, C0_0), (1, C0_1)]) (r : Int × (List Int) × (List F)) (H0 : l_markTable fl a0 a1 = some r) :
  Ct Tryd.prog 54 [.agg #[.slice p0_0 n0_0 c0_0, .slice p0_1 n0_1 c0_1], .int .i64 a1] w [(0, C0_0), (1, C0_1)] (fun rv h' => ∃ (D0 : Res) (D1 : Res), rv = .int .i64 r.1 ∧ h' = [(0, D0), (1, D1)] ∧ n0_0 = (r.2.1).length ∧ OwnC 3 p0_0 c0_0 r.2.1 D0 ∧ n0_1 = (r.2.2).length ∧ OwnC 71 p0_1 c0_1 r.2.2 D1) := by
 subst hn0_0 hn0_1
 unfold l_markTable at H0
 refine ct_of_cw Tryd.func54 rfl Tryd.ntmps54 rfl hM ?_
 refine sr (oE (stpU_box 2 rfl rfl) rfl ?_)
 rintro _ _ ⟨b1, rfl, rfl⟩
 obtain ⟨x2, e2, H0⟩ := bS H0
 refine oS rfl (nn (sr (oA 0 Tryd.underlying34 rfl ts22 rfl (oL 2 ts22 rfl (oM rfl (oE (stpU_callM (fun i => bif Nat.beq i 0 then 0 else 3 + i) cf31 (fun w hw hb => c_l_markIntS fl w a0.b a1 rfl ho0_0 (hw.pass (js := [0]) ⟨0, [], rfl, rfl, trivial⟩ (by decide)) x2 e2) (yB rfl rfl) ⟨rfl, (fun _ _ hp => by obtain ⟨_, _, rfl, _⟩ := hp; exact ⟨_, rfl⟩), trivial⟩) rfl ?_))))))
 rintro _ _ ⟨_, ⟨C3, rfl, rfl, hl3, o3⟩, rfl⟩
 obtain ⟨x4, e4, H0⟩ := bS H0
 refine oS rfl (nn (sr (oA 1 Tryd.underlying34 rfl ts32 rfl (oL 2 ts32 rfl (oM rfl (oE (stpU_callM (fun i => bif Nat.beq i 0 then 1 else 4 + i) cf105 (fun w hw hb => c_l_markFrameS fl w a0.f x2.1 rfl ho0_1 (hw.pass (js := [1]) ⟨1, [], rfl, rfl, trivial⟩ (by decide)) x4 e4) (yB rfl rfl) ⟨rfl, (fun _ _ hp => by obtain ⟨_, _, rfl, _⟩ := hp; exact ⟨_, rfl⟩), trivial⟩) rfl ?_))))))
 rintro _ _ ⟨_, ⟨C5, rfl, rfl, hl5, o5⟩, rfl⟩
 refine oS rfl (nn (sr (oM rfl (oS rfl (nn (cw_ret ?_))))))
 obtain rfl := sI H0
 exact kr Tryd.results54 (rT rfl) [0, 1] ⟨_, _, rfl, rfl, (by simp [hl3]), o3, (by simp [hl5]), o5⟩

theorem c_l_markNoteS (fl : Nat) (w : World) (a0 : (List Nt)) (a1 : Int) (hn0_0 : n0_0 = (a0).length) (ho0_0 : OwnC 55 p0_0 c0_0 a0 C0_0) (hM : Sat w (hkeys [(0, C0_0)]) w [(0, C0_0)]) (r : Int × (List Nt)) (H0 : l_markNoteS fl a0 a1 = some r) :
  Ct Tryd.prog 106 [.slice p0_0 n0_0 c0_0, .int .i64 a1] w [(0, C0_0)] (fun rv h' => ∃ (D0 : Res), rv = .int .i64 r.1 ∧ h' = [(0, D0)] ∧ n0_0 = (r.2).length ∧ OwnC 55 p0_0 c0_0 r.2 D0) := by
 subst hn0_0
 unfold l_markNoteS at H0
 refine ct_of_cw Tryd.func106 rfl Tryd.ntmps106 rfl hM ?_
 obtain ⟨o0_0, eo0_0, H0⟩ := bS H0
 refine sr (oS rfl (nn (cw_seq (sr (oS rfl (nn (cw_join (ι := (List Nt) × Int × Int × Res) (fun | (v1, v3, v4, C2) => o0_0 = .out (v1, v3, v4) ∧ (a0).length = (v1).length ∧ OwnC 55 p0_0 c0_0 v1 C2) (fun | (v1, v3, v4, C2) => [(0, .slice p0_0 ((a0).length) c0_0), (1, .int .i64 v3), (5, .int .i64 v4)]) (fun | (v1, v3, v4, C2) => [(0, C2)]) ?_ ?_)))))))
 ·refine cw_block (cw_loopS (ι := Nat × (List Nt) × Int × Int × Res) (js := [0]) (fun x => x.1) (fun | (fuel, v1, v3, v4, C2) => l_markNoteS_L0 fl a0 fuel v1 v3 v4 = some o0_0 ∧ (a0).length = (v1).length ∧ OwnC 55 p0_0 c0_0 v1 C2) (fun | (_, v1, v3, v4, C2) => [(0, .slice p0_0 ((a0).length) c0_0), (1, .int .i64 v3), (5, .int .i64 v4)]) (fun | (_, v1, v3, v4, C2) => [(0, C2)]) (fl, a0, a1, 0, C0_0) ⟨eo0_0, rfl, ho0_0⟩ ⟨rfl, rfl, rfl, trivial⟩ ⟨0, [], rfl, rfl, trivial⟩ (by decide) ?_)
  rintro ⟨fuel, v1, v3, v4, C2⟩ ⟨H1, hl2, o2⟩
  have H1 : l_markNoteS_L0 fl a0 fuel v1 v3 v4 = some o0_0 := H1
  rcases fuel with _ | fuel
  ·rw [l_markNoteS_L0.eq_1] at H1; cases H1
  rw [l_markNoteS_L0.eq_2] at H1
  dsimp only
  refine cw_seq (sr (oM rfl (oM rfl (oD (stp_len Tryd.underlying51 rfl) rfl (oW rfl (nn (cw_cond rfl (fun h5 => ?_) (fun h5 => ?_))))))))
  ·have H1 := cond_t H1 h5
   obtain ⟨x6, e6, H1⟩ := bS H1
   refine cw_skip (kw_nx (cw_seq (cw_block (sr (oM rfl (oM rfl (oM rfl (oD (stp_indexAddr Tryd.underlying51 ts55 (by decide) rfl (by simp [hl2]) rfl (Rdb.own (id := 0) rfl o2) e6) rfl (oA 0 Tryd.underlying55 rfl ts41 rfl (oA 0 Tryd.underlying41 rfl ts3 rfl (oF (stpU_storeEl (id := 0) (i := 0) (⟨(⟨v3, x6.k.p⟩ : K), x6.fr⟩ : Nt) (by decide) ts3 rfl rfl rfl o2 e6 rfl rfl rfl rfl) ?_)))))))))))
   rintro _ _ ⟨C7, rfl, o7⟩
   obtain ⟨x8, e8, H1⟩ := bS H1
   obtain ⟨x9, e9, H1⟩ := bS H1
   refine nn (sr (oM rfl (oP e8 rfl (oS rfl (nn (sr (oM rfl (oM rfl (oM rfl (oD (stp_indexAddr Tryd.underlying51 ts55 (by decide) rfl (by simp [hl2]) rfl (Rdb.own (id := 0) rfl o7) e9) rfl (oA 0 Tryd.underlying55 rfl ts41 rfl (oA 1 Tryd.underlying41 rfl ts3 rfl (oF (stpU_storeEl (id := 0) (i := 1) (⟨(⟨x9.k.s, x8⟩ : K), x9.fr⟩ : Nt) (by decide) ts3 rfl rfl rfl o7 e9 rfl rfl rfl rfl) ?_)))))))))))))
   rintro _ _ ⟨C10, rfl, o10⟩
   obtain ⟨x11, e11, H1⟩ := bS H1
   obtain ⟨x12, e12, H1⟩ := bS H1
   refine nn (sr (oM rfl (oP e11 rfl (oS rfl (nn (sr (oM rfl (oM rfl (oM rfl (oD (stp_indexAddr Tryd.underlying51 ts55 (by decide) rfl (by simp [hl2]) rfl (Rdb.own (id := 0) rfl o10) e12) rfl (oA 2 Tryd.underlying55 rfl ts3 rfl (oF (stpU_storeEl (id := 0) (i := 2) (⟨x12.k, x11⟩ : Nt) (by decide) ts3 rfl rfl rfl o10 e12 rfl rfl rfl rfl) ?_))))))))))))
   rintro _ _ ⟨C13, rfl, o13⟩
   obtain ⟨x14, e14, H1⟩ := bS H1
   obtain ⟨x15, e15, H1⟩ := bS H1
   exact nn (cw_region (oM rfl (oP e14 rfl (oS rfl (ow_nil (kw_bl_normal (kw_nx (cw_region (oM rfl (oP e15 rfl (oS rfl (ow_nil (kw_lqS (js := [0]) (fuel, (((v1.set (Int.toNat v4) (⟨(⟨v3, x6.k.p⟩ : K), x6.fr⟩ : Nt)).set (Int.toNat v4) (⟨(⟨x9.k.s, x8⟩ : K), x9.fr⟩ : Nt)).set (Int.toNat v4) (⟨x12.k, x11⟩ : Nt)), x14, x15, C13) ⟨H1, (by simp [hl2]), o13⟩ (Nat.lt_succ_self _) ⟨rfl, rfl, rfl, trivial⟩ ⟨0, [], rfl, rfl, trivial⟩ (by decide))))))))))))))
  have H1 := cond_f H1 h5
  refine cw_exit (kw_nx_exit (kw_lq_exit (kw_bl ?_)))
  obtain rfl := sI H1
  exact kw_joinS (js := [0]) (v1, v3, v4, C2) ⟨rfl, (by simp [hl2]), o2⟩ ⟨rfl, rfl, rfl, trivial⟩ ⟨0, [], rfl, rfl, trivial⟩ (by decide)
 rintro ⟨v1, v3, v4, C2⟩ ⟨rfl, hl2, o2⟩
 dsimp only
 refine kw_nx (sr (oM rfl (oS rfl (nn (cw_ret ?_)))))
 obtain rfl := sI H0
 exact kr Tryd.results106 (rT rfl) [0] ⟨_, rfl, rfl, (by simp [hl2]), o2⟩

theorem c_l_markCpuS (fl : Nat) (w : World) (a0 : (List Cp)) (a1 : Int) (hn0_0 : n0_0 = (a0).length) (ho0_0 : OwnD 53 55 p0_0 c0_0 a0 C0_0) (hM : Sat w (hkeys [(0, C0_0)]) w [(0, C0_0)]) (r : Int × (List Cp)) (H0 : l_markCpuS fl a0 a1 = some r) :
  Ct Tryd.prog 55 [.slice p0_0 n0_0 c0_0, .int .i64 a1] w [(0, C0_0)] (fun rv h' => ∃ (D0 : Res), rv = .int .i64 r.1 ∧ h' = [(0, D0)] ∧ n0_0 = (r.2).length ∧ OwnD 53 55 p0_0 c0_0 r.2 D0) := by
 subst hn0_0
 unfold l_markCpuS at H0
 refine ct_of_cw Tryd.func55 rfl Tryd.ntmps55 rfl hM ?_
 obtain ⟨o0_0, eo0_0, H0⟩ := bS H0
 refine sr (oS rfl (nn (cw_seq (sr (oS rfl (nn (cw_join (ι := (List Cp) × Int × Int × Res) (fun | (v1, v3, v4, C2) => o0_0 = .out (v1, v3, v4) ∧ (a0).length = (v1).length ∧ OwnD 53 55 p0_0 c0_0 v1 C2) (fun | (v1, v3, v4, C2) => [(0, .slice p0_0 ((a0).length) c0_0), (1, .int .i64 v3), (5, .int .i64 v4)]) (fun | (v1, v3, v4, C2) => [(0, C2)]) ?_ ?_)))))))
 ·refine cw_block (cw_loopS (ι := Nat × (List Cp) × Int × Int × Res) (js := [0]) (fun x => x.1) (fun | (fuel, v1, v3, v4, C2) => l_markCpuS_L0 fl a0 fuel v1 v3 v4 = some o0_0 ∧ (a0).length = (v1).length ∧ OwnD 53 55 p0_0 c0_0 v1 C2) (fun | (_, v1, v3, v4, C2) => [(0, .slice p0_0 ((a0).length) c0_0), (1, .int .i64 v3), (5, .int .i64 v4)]) (fun | (_, v1, v3, v4, C2) => [(0, C2)]) (fl, a0, a1, 0, C0_0) ⟨eo0_0, rfl, ho0_0⟩ ⟨rfl, rfl, rfl, trivial⟩ ⟨0, [], rfl, rfl, trivial⟩ (by decide) ?_)
  rintro ⟨fuel, v1, v3, v4, C2⟩ ⟨H1, hl2, o2⟩
  have H1 : l_markCpuS_L0 fl a0 fuel v1 v3 v4 = some o0_0 := H1
  rcases fuel with _ | fuel
  ·rw [l_markCpuS_L0.eq_1] at H1; cases H1
  rw [l_markCpuS_L0.eq_2] at H1
  dsimp only
  refine cw_seq (sr (oM rfl (oM rfl (oD (stp_len Tryd.underlying35 rfl) rfl (oW rfl (nn (cw_cond rfl (fun h5 => ?_) (fun h5 => ?_))))))))
  ·have H1 := cond_t H1 h5
   obtain ⟨x6, e6, H1⟩ := bS H1
   refine cw_skip (kw_nx (cw_seq (cw_block (sr (oM rfl (oM rfl (ow_open 0 1 2 3 rfl o2 e6 ?_)))))))
   rintro u7 p8 n9 c10 p11 n12 c13 C14 C15 C16 C17 o14 hb15 hx7 rfl o16 rfl o17
   obtain ⟨x18, e18, H1⟩ := bS H1
   refine oD (stp_indexAddr Tryd.underlying35 ts53 (by decide) rfl (Eq.trans (a := (a0).length) (b := (v1).length) (by simp [hl2]) (Bun.len hb15)) rfl (Rdb.own (id := 0) rfl o14) hx7) rfl (oA 0 Tryd.underlying53 rfl ts51 rfl (oD (stp_load1 ts51 rfl (Cells.el (Rdb.own (id := 0) rfl o14) (by decide) hx7 0 1 rfl)) rfl (oM rfl (oE (stpU_callM (fun i => bif Nat.beq i 0 then 2 else 4 + i) cf106 (fun w hw hb => c_l_markNoteS fl w x6.n v3 rfl o16 (hw.pass (js := [2]) ⟨2, [], rfl, rfl, trivial⟩ (by decide)) x18 e18) (yB rfl rfl) ⟨rfl, (fun _ _ hp => by obtain ⟨_, _, rfl, _⟩ := hp; exact ⟨_, rfl⟩), trivial⟩) rfl ?_))))
   rintro _ _ ⟨_, ⟨C19, rfl, rfl, hl19, o19⟩, rfl⟩
   obtain ⟨x20, e20, H1⟩ := bS H1
   refine oS rfl (nn (cw_region (oM rfl (oM rfl (oD (stp_indexAddr Tryd.underlying35 ts53 (by decide) rfl (Eq.trans (a := (a0).length) (b := (v1).length) (by simp [hl2]) (Bun.len hb15)) rfl (Rdb.own (id := 0) rfl o14) hx7) rfl (oA 1 Tryd.underlying53 rfl ts51 rfl (oD (stp_load1 ts51 rfl (Cells.el (Rdb.own (id := 0) rfl o14) (by decide) hx7 1 1 rfl)) rfl (oM rfl (oE (stpU_callM (fun i => bif Nat.beq i 0 then 3 else 5 + i) cf106 (fun w hw hb => c_l_markNoteS fl w x6.w x18.1 rfl o17 (hw.pass (js := [3]) ⟨3, [], rfl, rfl, trivial⟩ (by decide)) x20 e20) (yB rfl rfl) ⟨rfl, (fun _ _ hp => by obtain ⟨_, _, rfl, _⟩ := hp; exact ⟨_, rfl⟩), trivial⟩) rfl ?_)))))))))
   rintro _ _ ⟨_, ⟨C21, rfl, rfl, hl21, o21⟩, rfl⟩
   obtain ⟨x22, e22, H1⟩ := bS H1
   refine oS rfl (ow_nil (kw_bl_normal (kw_nx (cw_region (oM rfl (oP e22 rfl (oS rfl (ow_nil (kw_shut 0 1 2 3 o14 (Bun.setL hb15 _) (idx_some hx7).2.2 (idx_setD e6 (⟨x18.2, x20.2⟩ : Cp)) (by simp [hl19]) o19 (by simp [hl21]) o21 ?_)))))))))
   rintro C23 o23
   exact kw_lqS (js := [0]) (fuel, (v1.set (Int.toNat v4) (⟨x18.2, x20.2⟩ : Cp)), x20.1, x22, C23) ⟨H1, (by simp [hl2]), o23⟩ (Nat.lt_succ_self _) ⟨rfl, rfl, rfl, trivial⟩ ⟨0, [], rfl, rfl, trivial⟩ (by decide)
  have H1 := cond_f H1 h5
  refine cw_exit (kw_nx_exit (kw_lq_exit (kw_bl ?_)))
  obtain rfl := sI H1
  exact kw_joinS (js := [0]) (v1, v3, v4, C2) ⟨rfl, (by simp [hl2]), o2⟩ ⟨rfl, rfl, rfl, trivial⟩ ⟨0, [], rfl, rfl, trivial⟩ (by decide)
 rintro ⟨v1, v3, v4, C2⟩ ⟨rfl, hl2, o2⟩
 dsimp only
 refine kw_nx (sr (oM rfl (oS rfl (nn (cw_ret ?_)))))
 obtain rfl := sI H0
 exact kr Tryd.results55 (rT rfl) [0] ⟨_, rfl, rfl, (by simp [hl2]), o2⟩

theorem c_l_markSystem (fl : Nat) (w : World) (a0 : Sy) (a1 : Int) (hn0_0 : n0_0 = (a0.t.b).length) (ho0_0 : OwnC 3 p0_0 c0_0 a0.t.b C0_0) (hn0_1 : n0_1 = (a0.t.f).length) (ho0_1 : OwnC 71 p0_1 c0_1 a0.t.f C0_1) (hn0_2 : n0_2 = (a0.c).length) (ho0_2 : OwnD 53 55 p0_2 c0_2 a0.c C0_2) (hM : Sat w (hkeys [(0, C0_0), (1, C0_1), (2, C0_2)]) w [(0, C0_0), (1, C0_1), (2, C0_2)]) (r : Int × (List Int) × (List F) × (List Cp)) (H0 : l_markSystem fl a0 a1 = some r) :
  Ct Tryd.prog 16 [.agg #[.slice p0_0 n0_0 c0_0, .slice p0_1 n0_1 c0_1, .slice p0_2 n0_2 c0_2], .int .i64 a1] w [(0, C0_0), (1, C0_1), (2, C0_2)] (fun rv h' => ∃ (D0 : Res) (D1 : Res) (D2 : Res), rv = .int .i64 r.1 ∧ h' = [(0, D0), (1, D1), (2, D2)] ∧ n0_0 = (r.2.1).length ∧ OwnC 3 p0_0 c0_0 r.2.1 D0 ∧ n0_1 = (r.2.2.1).length ∧ OwnC 71 p0_1 c0_1 r.2.2.1 D1 ∧ n0_2 = (r.2.2.2).length ∧ OwnD 53 55 p0_2 c0_2 r.2.2.2 D2) := by
 subst hn0_0 hn0_1 hn0_2
 unfold l_markSystem at H0
 refine ct_of_cw Tryd.func16 rfl Tryd.ntmps16 rfl hM ?_
 refine sr (oE (stpU_box 3 rfl rfl) rfl ?_)
 rintro _ _ ⟨b1, rfl, rfl⟩
 obtain ⟨x2, e2, H0⟩ := bS H0
 refine oS rfl (nn (sr (oA 0 Tryd.underlying37 rfl ts34 rfl (oB2 3 ts34 rfl (oM rfl (oE (stpU_callM (fun i => bif Nat.beq i 0 then 0 else bif Nat.beq i 1 then 1 else 4 + i) cf54 (fun w hw hb => c_l_markTable fl w a0.t a1 rfl ho0_0 rfl ho0_1 (hw.pass (js := [0, 1]) ⟨0, [1], rfl, rfl, 1, [], rfl, rfl, trivial⟩ (by decide)) x2 e2) (yB rfl rfl) ⟨rfl, (fun _ _ hp => by obtain ⟨_, _, _, rfl, _⟩ := hp; exact ⟨_, rfl⟩), rfl, (fun _ _ hp => by obtain ⟨_, _, _, rfl, _⟩ := hp; exact ⟨_, rfl⟩), trivial⟩) rfl ?_))))))
 rintro _ _ ⟨_, ⟨C3, C4, rfl, rfl, hl3, o3, hl4, o4⟩, rfl⟩
 obtain ⟨x5, e5, H0⟩ := bS H0
 refine oS rfl (nn (sr (oA 2 Tryd.underlying37 rfl ts35 rfl (oL 3 ts35 rfl (oM rfl (oE (stpU_callM (fun i => bif Nat.beq i 0 then 2 else 6 + i) cf55 (fun w hw hb => c_l_markCpuS fl w a0.c x2.1 rfl ho0_2 (hw.pass (js := [2]) ⟨2, [], rfl, rfl, trivial⟩ (by decide)) x5 e5) (yB rfl rfl) ⟨rfl, (fun _ _ hp => by obtain ⟨_, _, rfl, _⟩ := hp; exact ⟨_, rfl⟩), trivial⟩) rfl ?_))))))
 rintro _ _ ⟨_, ⟨C6, rfl, rfl, hl6, o6⟩, rfl⟩
 refine oS rfl (nn (sr (oM rfl (oS rfl (nn (cw_ret ?_))))))
 obtain rfl := sI H0
 exact kr Tryd.results16 (rT rfl) [0, 1, 2] ⟨_, _, _, rfl, rfl, (by simp [hl3]), o3, (by simp [hl4]), o4, (by simp [hl6]), o6⟩

theorem c_l_heldIntS (fl : Nat) (w : World) (a0 : (List Int)) (a1 : Int) (hn0_0 : n0_0 = (a0).length) (hr0_0 : RO w (hkeys []) (RdL p0_0 c0_0 a0)) (r : Int) (H0 : l_heldIntS fl a0 a1 = some r) :
  Ct Tryd.prog 32 [.slice p0_0 n0_0 c0_0, .int .i64 a1] w [] (fun rv h' => rv = .int .i64 r ∧ h' = []) := by
 subst hn0_0
 unfold l_heldIntS at H0
 refine ct_of_cw Tryd.func32 rfl Tryd.ntmps32 rfl (Sat.refl _ _) ?_
 obtain ⟨o0_0, eo0_0, H0⟩ := bS H0
 refine sr (oS rfl (nn (cw_seq (sr (oS rfl (nn (cw_join (ι := Int × Int) (fun | (v1, v2) => o0_0 = .out (v1, v2)) (fun | (v1, v2) => [(0, .slice p0_0 ((a0).length) c0_0), (1, .int .i64 v1), (5, .int .i64 v2)]) (fun | (v1, v2) => []) ?_ ?_)))))))
 ·refine cw_block (cw_loopS (ι := Nat × Int × Int) (js := []) (fun x => x.1) (fun | (fuel, v1, v2) => l_heldIntS_L0 fl a0 fuel v1 v2 = some o0_0) (fun | (_, v1, v2) => [(0, .slice p0_0 ((a0).length) c0_0), (1, .int .i64 v1), (5, .int .i64 v2)]) (fun | (_, v1, v2) => []) (fl, a1, 0) eo0_0 ⟨rfl, rfl, rfl, trivial⟩ trivial (by decide) ?_)
  rintro ⟨fuel, v1, v2⟩ H1
  have H1 : l_heldIntS_L0 fl a0 fuel v1 v2 = some o0_0 := H1
  rcases fuel with _ | fuel
  ·rw [l_heldIntS_L0.eq_1] at H1; cases H1
  rw [l_heldIntS_L0.eq_2] at H1
  dsimp only
  refine cw_seq (sr (oM rfl (oM rfl (oD (stp_len Tryd.underlying22 rfl) rfl (oW rfl (nn (cw_cond rfl (fun h3 => ?_) (fun h3 => ?_))))))))
  ·have H1 := cond_t H1 h3
   obtain ⟨x4, e4, H1⟩ := bS H1
   refine cw_skip (kw_nx (cw_seq (cw_block (cw_seq (sr (oM rfl (oM rfl (oD (stp_indexAddr Tryd.underlying22 ts3 (by decide) rfl rfl rfl (Rdb.ro hr0_0) e4) rfl (oD (stp_load1 ts3 rfl (Cells.el (Rdb.ro hr0_0) (by decide) e4 0 1 rfl)) rfl (oM rfl (oU rfl (nn (cw_cond rfl (fun h5 => ?_) (fun h5 => ?_))))))))))))))
   ·have H1 := cond_t H1 h5
    refine sr (oS rfl (nn (cw_ret (kw_nx_ret (kw_bl_ret (kw_nx_ret (kw_lq_ret (kw_bl_ret (kw_join_ret (kw_nx_ret ?_))))))))))
    obtain rfl := sI H1
    obtain rfl := sI H0
    exact kr Tryd.results32 (rT rfl) [] ⟨rfl, rfl⟩
   have H1 := cond_f H1 h5
   obtain ⟨x6, e6, H1⟩ := bS H1
   obtain ⟨x7, e7, H1⟩ := bS H1
   refine cw_skip (kw_nx (cw_region (oM rfl (oP e6 rfl (oS rfl (ow_nil (kw_bl_normal (kw_nx (cw_region (oM rfl (oP e7 rfl (oS rfl (ow_nil ?_)))))))))))))
   exact kw_lqS (js := []) (fuel, x6, x7) H1 (Nat.lt_succ_self _) ⟨rfl, rfl, rfl, trivial⟩ trivial (by decide)
  have H1 := cond_f H1 h3
  refine cw_exit (kw_nx_exit (kw_lq_exit (kw_bl ?_)))
  obtain rfl := sI H1
  exact kw_joinS (js := []) (v1, v2) rfl ⟨rfl, rfl, rfl, trivial⟩ trivial (by decide)
 rintro ⟨v1, v2⟩ rfl
 dsimp only
 refine kw_nx (sr (oM rfl (oS rfl (nn (cw_ret ?_)))))
 obtain rfl := sI H0
 exact kr Tryd.results32 (rT rfl) [] ⟨rfl, rfl⟩
end Go.Proofs.YtfnliecmagnkdabDoor
