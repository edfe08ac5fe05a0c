/- The walks: functions of the program return what their pure functions say. Printed by a program (gen.py). -/
import Derived.Test.YtfnliecmagnkdaaDoorGp
import Derived.Test.YtfnliecmagnkdaaDoorGt
import Derived.Test.YtfnliecmagnkdaaDoorMan
import Derived.Test.YtfnliecmagnkdaaDoorMap
import Derived.Test.YtfnliecmagnkdaaDoorCpy
import Derived.Test.YtfnliecmagnkdaaDoorClr
import Derived.Test.YtfnliecmagnkdaaDoorDp
import Derived.Test.YtfnliecmagnkdaaDoorSrt
import Derived.Test.YtfnliecmagnkdaaDoorE8
set_option linter.unusedSimpArgs false
set_option linter.unusedVariables false
set_option linter.unusedSectionVars false
namespace Go.Proofs.YtfnliecmagnkdaaDoor
open Go.RowKit
set_option maxHeartbeats 4000000
set_option maxRecDepth 20000
variable {p0_0 p0_1 p0_2 p1_0 p1_1 p1_2 : Option Addr} {n0_0 n0_1 n0_2 n1_0 n1_1 n1_2 : Nat} {c0_0 c0_1 c0_2 c1_0 c1_1 c1_2 : Nat}
theorem c_l_szIntS (fl : Nat) (w : World) (a0 : (List Int)) (a1 : Int) (hn0_0 : n0_0 = (a0).length) (hr0_0 : RO w (hkeys []) (RdL p0_0 c0_0 a0)) (r : Int) (H0 : l_szIntS fl a0 a1 = some r) :
  Ct Tryd.prog 99 [.slice p0_0 n0_0 c0_0, .int .i64 a1] w [] (fun rv h' => rv = .int .i64 r ∧ h' = []) := by
 subst hn0_0
 unfold l_szIntS at H0
 refine ct_of_cw Tryd.func99 rfl Tryd.ntmps99 rfl (Sat.refl _ _) ?_
 obtain ⟨x1, e1, H0⟩ := bS H0
 refine sr (oS rfl (nn (sr (oM rfl (oM rfl (oD (stp_len Tryd.underlying22 rfl) rfl (oD (stp_sub rfl rfl e1) rfl (oS rfl (nn (cw_seq (sr (oM rfl (oW rfl ?_)))))))))))))
 refine nn (cw_cond rfl (fun h2 => ?_) (fun h2 => ?_))
 ·have H0 := cond_t H0 h2
  refine sr (oS rfl (nn (cw_ret (kw_nx_ret ?_))))
  obtain rfl := sI H0
  exact kr Tryd.results99 (rT rfl) [] ⟨rfl, rfl⟩
 have H0 := cond_f H0 h2
 refine cw_skip (kw_nx (sr (oM rfl (oS rfl (nn (cw_ret ?_))))))
 obtain rfl := sI H0
 exact kr Tryd.results99 (rT rfl) [] ⟨rfl, rfl⟩

theorem c_l_szFrameS (fl : Nat) (w : World) (a0 : (List F)) (a1 : Int) (hn0_0 : n0_0 = (a0).length) (hr0_0 : RO w (hkeys []) (RdL p0_0 c0_0 a0)) (r : Int) (H0 : l_szFrameS fl a0 a1 = some r) :
  Ct Tryd.prog 100 [.slice p0_0 n0_0 c0_0, .int .i64 a1] w [] (fun rv h' => rv = .int .i64 r ∧ h' = []) := by
 subst hn0_0
 unfold l_szFrameS at H0
 refine ct_of_cw Tryd.func100 rfl Tryd.ntmps100 rfl (Sat.refl _ _) ?_
 obtain ⟨x1, e1, H0⟩ := bS H0
 refine sr (oS rfl (nn (sr (oM rfl (oM rfl (oD (stp_len Tryd.underlying23 rfl) rfl (oD (stp_sub rfl rfl e1) rfl (oS rfl (nn (cw_seq (sr (oM rfl (oW rfl ?_)))))))))))))
 refine nn (cw_cond rfl (fun h2 => ?_) (fun h2 => ?_))
 ·have H0 := cond_t H0 h2
  refine sr (oS rfl (nn (cw_ret (kw_nx_ret ?_))))
  obtain rfl := sI H0
  exact kr Tryd.results100 (rT rfl) [] ⟨rfl, rfl⟩
 have H0 := cond_f H0 h2
 refine cw_skip (kw_nx (sr (oM rfl (oS rfl (nn (cw_ret ?_))))))
 obtain rfl := sI H0
 exact kr Tryd.results100 (rT rfl) [] ⟨rfl, rfl⟩

theorem c_l_szTable (fl : Nat) (w : World) (a0 : T) (a1 : Int) (hn0_0 : n0_0 = (a0.b).length) (hr0_0 : RO w (hkeys []) (RdL p0_0 c0_0 a0.b)) (hn0_1 : n0_1 = (a0.f).length) (hr0_1 : RO w (hkeys []) (RdL p0_1 c0_1 a0.f)) (r : Int) (H0 : l_szTable fl a0 a1 = some r) :
  Ct Tryd.prog 43 [.agg #[.slice p0_0 n0_0 c0_0, .slice p0_1 n0_1 c0_1], .int .i64 a1] w [] (fun rv h' => rv = .int .i64 r ∧ h' = []) := by
 subst hn0_0 hn0_1
 unfold l_szTable at H0
 refine ct_of_cw Tryd.func43 rfl Tryd.ntmps43 rfl (Sat.refl _ _) ?_
 refine sr (oE (stpU_box 0 rfl rfl) rfl ?_)
 rintro _ _ ⟨b1, rfl, rfl⟩
 obtain ⟨x2, e2, H0⟩ := bS H0
 refine oS rfl (nn (sr (oA 0 Tryd.underlying25 rfl ts22 rfl (oL 0 ts22 rfl (oM rfl (oE (stpU_call (fun i => 1 + i) cf99 (fun w hw => c_l_szIntS fl w a0.b a1 rfl (RO.pass hr0_0 hw) x2 e2) (yB rfl rfl)) rfl ?_))))))
 rintro _ _ ⟨_, ⟨rfl, rfl⟩, rfl⟩
 refine oS rfl (nn (cw_seq (sr (oM rfl (oW rfl (nn (cw_cond rfl (fun h3 => ?_) (fun h3 => ?_))))))))
 ·have H0 := cond_t H0 h3
  refine sr (oS rfl (nn (cw_ret (kw_nx_ret ?_))))
  obtain rfl := sI H0
  exact kr Tryd.results43 (rT rfl) [] ⟨rfl, rfl⟩
 have H0 := cond_f H0 h3
 obtain ⟨x4, e4, H0⟩ := bS H0
 refine cw_skip (kw_nx (sr (oA 1 Tryd.underlying25 rfl ts23 rfl (oL 0 ts23 rfl (oM rfl (oE (stpU_call (fun i => 1 + i) cf100 (fun w hw => c_l_szFrameS fl w a0.f x2 rfl (RO.pass hr0_1 hw) x4 e4) (yB rfl rfl)) rfl ?_))))))
 rintro _ _ ⟨_, ⟨rfl, rfl⟩, rfl⟩
 refine oS rfl (nn (cw_seq (sr (oM rfl (oW rfl (nn (cw_cond rfl (fun h5 => ?_) (fun h5 => ?_))))))))
 ·have H0 := cond_t H0 h5
  refine sr (oS rfl (nn (cw_ret (kw_nx_ret ?_))))
  obtain rfl := sI H0
  exact kr Tryd.results43 (rT rfl) [] ⟨rfl, rfl⟩
 have H0 := cond_f H0 h5
 refine cw_skip (kw_nx (sr (oM rfl (oS rfl (nn (cw_ret ?_))))))
 obtain rfl := sI H0
 exact kr Tryd.results43 (rT rfl) [] ⟨rfl, rfl⟩

theorem c_l_szNoteS (fl : Nat) (w : World) (a0 : (List Nt)) (a1 : Int) (hn0_0 : n0_0 = (a0).length) (hr0_0 : RO w (hkeys []) (RdL p0_0 c0_0 a0)) (r : Int) (H0 : l_szNoteS fl a0 a1 = some r) :
  Ct Tryd.prog 145 [.slice p0_0 n0_0 c0_0, .int .i64 a1] w [] (fun rv h' => rv = .int .i64 r ∧ h' = []) := by
 subst hn0_0
 unfold l_szNoteS at H0
 refine ct_of_cw Tryd.func145 rfl Tryd.ntmps145 rfl (Sat.refl _ _) ?_
 obtain ⟨x1, e1, H0⟩ := bS H0
 refine sr (oS rfl (nn (sr (oM rfl (oM rfl (oD (stp_len Tryd.underlying121 rfl) rfl (oD (stp_sub rfl rfl e1) rfl (oS rfl (nn (cw_seq (sr (oM rfl (oW rfl ?_)))))))))))))
 refine nn (cw_cond rfl (fun h2 => ?_) (fun h2 => ?_))
 ·have H0 := cond_t H0 h2
  refine sr (oS rfl (nn (cw_ret (kw_nx_ret ?_))))
  obtain rfl := sI H0
  exact kr Tryd.results145 (rT rfl) [] ⟨rfl, rfl⟩
 have H0 := cond_f H0 h2
 refine cw_skip (kw_nx (sr (oM rfl (oS rfl (nn (cw_ret ?_))))))
 obtain rfl := sI H0
 exact kr Tryd.results145 (rT rfl) [] ⟨rfl, rfl⟩

theorem c_l_szCpu (fl : Nat) (w : World) (a0 : Cp) (a1 : Int) (hn0_0 : n0_0 = (a0.n).length) (hr0_0 : RO w (hkeys []) (RdL p0_0 c0_0 a0.n)) (hn0_1 : n0_1 = (a0.w).length) (hr0_1 : RO w (hkeys []) (RdL p0_1 c0_1 a0.w)) (r : Int) (H0 : l_szCpu fl a0 a1 = some r) :
  Ct Tryd.prog 101 [.agg #[.slice p0_0 n0_0 c0_0, .slice p0_1 n0_1 c0_1], .int .i64 a1] w [] (fun rv h' => rv = .int .i64 r ∧ h' = []) := by
 subst hn0_0 hn0_1
 unfold l_szCpu at H0
 refine ct_of_cw Tryd.func101 rfl Tryd.ntmps101 rfl (Sat.refl _ _) ?_
 refine sr (oE (stpU_box 0 rfl rfl) rfl ?_)
 rintro _ _ ⟨b1, rfl, rfl⟩
 obtain ⟨x2, e2, H0⟩ := bS H0
 refine oS rfl (nn (sr (oA 0 Tryd.underlying123 rfl ts121 rfl (oL 0 ts121 rfl (oM rfl (oE (stpU_call (fun i => 1 + i) cf145 (fun w hw => c_l_szNoteS fl w a0.n a1 rfl (RO.pass hr0_0 hw) x2 e2) (yB rfl rfl)) rfl ?_))))))
 rintro _ _ ⟨_, ⟨rfl, rfl⟩, rfl⟩
 refine oS rfl (nn (cw_seq (sr (oM rfl (oW rfl (nn (cw_cond rfl (fun h3 => ?_) (fun h3 => ?_))))))))
 ·have H0 := cond_t H0 h3
  refine sr (oS rfl (nn (cw_ret (kw_nx_ret ?_))))
  obtain rfl := sI H0
  exact kr Tryd.results101 (rT rfl) [] ⟨rfl, rfl⟩
 have H0 := cond_f H0 h3
 obtain ⟨x4, e4, H0⟩ := bS H0
 refine cw_skip (kw_nx (sr (oA 1 Tryd.underlying123 rfl ts121 rfl (oL 0 ts121 rfl (oM rfl (oE (stpU_call (fun i => 1 + i) cf145 (fun w hw => c_l_szNoteS fl w a0.w x2 rfl (RO.pass hr0_1 hw) x4 e4) (yB rfl rfl)) rfl ?_))))))
 rintro _ _ ⟨_, ⟨rfl, rfl⟩, rfl⟩
 refine oS rfl (nn (cw_seq (sr (oM rfl (oW rfl (nn (cw_cond rfl (fun h5 => ?_) (fun h5 => ?_))))))))
 ·have H0 := cond_t H0 h5
  refine sr (oS rfl (nn (cw_ret (kw_nx_ret ?_))))
  obtain rfl := sI H0
  exact kr Tryd.results101 (rT rfl) [] ⟨rfl, rfl⟩
 have H0 := cond_f H0 h5
 refine cw_skip (kw_nx (sr (oM rfl (oS rfl (nn (cw_ret ?_))))))
 obtain rfl := sI H0
 exact kr Tryd.results101 (rT rfl) [] ⟨rfl, rfl⟩

theorem c_l_szCpuS (fl : Nat) (w : World) (a0 : (List Cp)) (a1 : Int) (hn0_0 : n0_0 = (a0).length) (hr0_0 : ROD w (hkeys []) p0_0 c0_0 a0) (r : Int) (H0 : l_szCpuS fl a0 a1 = some r) :
  Ct Tryd.prog 44 [.slice p0_0 n0_0 c0_0, .int .i64 a1] w [] (fun rv h' => rv = .int .i64 r ∧ h' = []) := by
 subst hn0_0
 unfold l_szCpuS at H0
 refine ct_of_cw Tryd.func44 rfl Tryd.ntmps44 rfl (Sat.refl _ _) ?_
 obtain ⟨x1, e1, H0⟩ := bS H0
 refine sr (oS rfl (nn (sr (oM rfl (oM rfl (oD (stp_len Tryd.underlying26 rfl) rfl (oD (stp_sub rfl rfl e1) rfl (oS rfl (nn (cw_seq (sr (oM rfl (oW rfl ?_)))))))))))))
 refine nn (cw_cond rfl (fun h2 => ?_) (fun h2 => ?_))
 ·have H0 := cond_t H0 h2
  refine sr (oS rfl (nn (cw_ret (kw_nx_ret ?_))))
  obtain rfl := sI H0
  exact kr Tryd.results44 (rT rfl) [] ⟨rfl, rfl⟩
 have H0 := cond_f H0 h2
 obtain ⟨o0_0, eo0_0, H0⟩ := bS H0
 refine cw_skip (kw_nx (cw_seq (sr (oS rfl (nn (cw_join (ι := Int × Int) (fun | (v3, v4) => o0_0 = .out (v3, v4)) (fun | (v3, v4) => [(0, .slice p0_0 ((a0).length) c0_0), (1, .int .i64 v3), (5, .int .i64 v4)]) (fun | (v3, v4) => []) ?_ ?_))))))
 ·refine cw_block (cw_loopS (ι := Nat × Int × Int) (js := []) (fun x => x.1) (fun | (fuel, v3, v4) => l_szCpuS_L0 fl a0 fuel v3 v4 = some o0_0) (fun | (_, v3, v4) => [(0, .slice p0_0 ((a0).length) c0_0), (1, .int .i64 v3), (5, .int .i64 v4)]) (fun | (_, v3, v4) => []) (fl, x1, 0) eo0_0 ⟨rfl, rfl, rfl, trivial⟩ trivial (by decide) ?_)
  rintro ⟨fuel, v3, v4⟩ H1
  have H1 : l_szCpuS_L0 fl a0 fuel v3 v4 = some o0_0 := H1
  rcases fuel with _ | fuel
  ·rw [l_szCpuS_L0.eq_1] at H1; cases H1
  rw [l_szCpuS_L0.eq_2] at H1
  dsimp only
  refine cw_seq (sr (oM rfl (oM rfl (oD (stp_len Tryd.underlying26 rfl) rfl (oW rfl (nn (cw_cond rfl (fun h5 => ?_) (fun h5 => ?_))))))))
  ·have H1 := cond_t H1 h5
   obtain ⟨x6, e6, H1⟩ := bS H1
   refine cw_skip (kw_nx (cw_seq (cw_block (sr (oM rfl (oM rfl ?_))))))
   obtain ⟨u7, p8, n9, c10, p11, n12, c13, hw7, hl7, hx7, rfl, hr7, rfl, hs7⟩ := ROD.get hr0_0 e6
   obtain ⟨x14, e14, H1⟩ := bS H1
   refine oD (stp_indexAddr Tryd.underlying26 ts123 (by decide) rfl hl7 rfl (Rdb.ro hw7) hx7) rfl (oD (stp_loadN (us := [_, _]) ts123 rfl (Cells.el (Rdb.ro hw7) (by decide) hx7 0 2 rfl)) rfl (oM rfl (oE (stpU_call (fun i => 0 + i) cf101 (fun w hw => c_l_szCpu fl w x6 v3 rfl (RO.pass hr7 hw) rfl (RO.pass hs7 hw) x14 e14) (yB rfl rfl)) rfl ?_)))
   rintro _ _ ⟨_, ⟨rfl, rfl⟩, rfl⟩
   refine oS rfl (nn (sr (oM rfl (oW rfl (nn (cw_cond rfl (fun h15 => ?_) (fun h15 => ?_)))))))
   ·have H1 := cond_t H1 h15
    refine sr (oS rfl (nn (cw_ret (kw_bl_ret (kw_nx_ret (kw_lq_ret (kw_bl_ret (kw_join_ret (kw_nx_ret ?_)))))))))
    obtain rfl := sI H1
    obtain rfl := sI H0
    exact kr Tryd.results44 (rT rfl) [] ⟨rfl, rfl⟩
   have H1 := cond_f H1 h15
   obtain ⟨x16, e16, H1⟩ := bS H1
   exact cw_skip (kw_bl_normal (kw_nx (cw_region (oM rfl (oP e16 rfl (oS rfl (ow_nil (kw_lqS (js := []) (fuel, x14, x16) H1 (Nat.lt_succ_self _) ⟨rfl, rfl, rfl, trivial⟩ trivial (by decide)))))))))
  have H1 := cond_f H1 h5
  refine cw_exit (kw_nx_exit (kw_lq_exit (kw_bl ?_)))
  obtain rfl := sI H1
  exact kw_joinS (js := []) (v3, v4) rfl ⟨rfl, rfl, rfl, trivial⟩ trivial (by decide)
 rintro ⟨v3, v4⟩ rfl
 dsimp only
 refine kw_nx (sr (oM rfl (oS rfl (nn (cw_ret ?_)))))
 obtain rfl := sI H0
 exact kr Tryd.results44 (rT rfl) [] ⟨rfl, rfl⟩

theorem c_l_szSystem (fl : Nat) (w : World) (a0 : Sy) (a1 : Int) (hn0_0 : n0_0 = (a0.t.b).length) (hr0_0 : RO w (hkeys []) (RdL p0_0 c0_0 a0.t.b)) (hn0_1 : n0_1 = (a0.t.f).length) (hr0_1 : RO w (hkeys []) (RdL p0_1 c0_1 a0.t.f)) (hn0_2 : n0_2 = (a0.c).length) (hr0_2 : ROD w (hkeys []) p0_2 c0_2 a0.c) (r : Int) (H0 : l_szSystem fl a0 a1 = some r) :
  Ct Tryd.prog 15 [.agg #[.slice p0_0 n0_0 c0_0, .slice p0_1 n0_1 c0_1, .slice p0_2 n0_2 c0_2], .int .i64 a1] w [] (fun rv h' => rv = .int .i64 r ∧ h' = []) := by
 subst hn0_0 hn0_1 hn0_2
 unfold l_szSystem at H0
 refine ct_of_cw Tryd.func15 rfl Tryd.ntmps15 rfl (Sat.refl _ _) ?_
 refine sr (oE (stpU_box 0 rfl rfl) rfl ?_)
 rintro _ _ ⟨b1, rfl, rfl⟩
 obtain ⟨x2, e2, H0⟩ := bS H0
 refine oS rfl (nn (sr (oA 0 Tryd.underlying28 rfl ts25 rfl (oB2 0 ts25 rfl (oM rfl (oE (stpU_call (fun i => 1 + i) cf43 (fun w hw => c_l_szTable fl w a0.t a1 rfl (RO.pass hr0_0 hw) rfl (RO.pass hr0_1 hw) x2 e2) (yB rfl rfl)) rfl ?_))))))
 rintro _ _ ⟨_, ⟨rfl, rfl⟩, rfl⟩
 refine oS rfl (nn (cw_seq (sr (oM rfl (oW rfl (nn (cw_cond rfl (fun h3 => ?_) (fun h3 => ?_))))))))
 ·have H0 := cond_t H0 h3
  refine sr (oS rfl (nn (cw_ret (kw_nx_ret ?_))))
  obtain rfl := sI H0
  exact kr Tryd.results15 (rT rfl) [] ⟨rfl, rfl⟩
 have H0 := cond_f H0 h3
 obtain ⟨x4, e4, H0⟩ := bS H0
 refine cw_skip (kw_nx (sr (oA 2 Tryd.underlying28 rfl ts26 rfl (oL 0 ts26 rfl (oM rfl (oE (stpU_call (fun i => 1 + i) cf44 (fun w hw => c_l_szCpuS fl w a0.c x2 rfl (ROD.pass hr0_2 hw) x4 e4) (yB rfl rfl)) rfl ?_))))))
 rintro _ _ ⟨_, ⟨rfl, rfl⟩, rfl⟩
 refine oS rfl (nn (cw_seq (sr (oM rfl (oW rfl (nn (cw_cond rfl (fun h5 => ?_) (fun h5 => ?_))))))))
 ·have H0 := cond_t H0 h5
  refine sr (oS rfl (nn (cw_ret (kw_nx_ret ?_))))
  obtain rfl := sI H0
  exact kr Tryd.results15 (rT rfl) [] ⟨rfl, rfl⟩
 have H0 := cond_f H0 h5
 refine cw_skip (kw_nx (sr (oM rfl (oS rfl (nn (cw_ret ?_))))))
 obtain rfl := sI H0
 exact kr Tryd.results15 (rT rfl) [] ⟨rfl, rfl⟩

theorem c_l_toIntS (fl : Nat) (w : World) (a0 : (List Int)) (hn0_0 : n0_0 = (a0).length) (hr0_0 : RO w (hkeys []) (RdL p0_0 c0_0 a0)) (r : (List Int)) (H0 : l_toIntS fl a0 = some r) :
  Ct Tryd.prog 106 [.slice p0_0 n0_0 c0_0] w [] (fun rv h' => ∃ (x0 : Option Addr) (y0 z0 : Nat) (C0 : Res), rv = .slice x0 y0 z0 ∧ h' = [(0, C0)] ∧ y0 = (r).length ∧ OwnC 3 x0 z0 r C0) := by
 subst hn0_0
 unfold l_toIntS at H0
 refine ct_of_cw Tryd.func106 rfl Tryd.ntmps106 rfl (Sat.refl _ _) ?_
 obtain ⟨x1, e1, H0⟩ := bS H0
 refine sr (oS rfl (nn (sr (oM rfl (oD (stp_len Tryd.underlying22 rfl) rfl (oE (stpU_make sl22 rfl 0 rfl rfl e1) rfl ?_))))))
 rintro _ _ ⟨p2, C3, rfl, rfl, o3⟩
 obtain ⟨o0_0, eo0_0, H0⟩ := bS H0
 refine oS rfl (nn (cw_seq (sr (oS rfl (nn (cw_join (ι := (List Int) × Int × Res) (fun | (v4, v6, C5) => o0_0 = .out (v4, v6) ∧ x1 = (v4).length ∧ OwnC 3 p2 x1 v4 C5) (fun | (v4, v6, C5) => [(0, .slice p0_0 ((a0).length) c0_0), (3, .slice p2 x1 x1), (4, .int .i64 v6)]) (fun | (v4, v6, C5) => [(0, C5)]) ?_ ?_))))))
 ·refine cw_block (cw_loopS (ι := Nat × (List Int) × Int × Res) (js := [0]) (fun x => x.1) (fun | (fuel, v4, v6, C5) => l_toIntS_L0 fl a0 fuel v4 v6 = some o0_0 ∧ x1 = (v4).length ∧ OwnC 3 p2 x1 v4 C5) (fun | (_, v4, v6, C5) => [(0, .slice p0_0 ((a0).length) c0_0), (3, .slice p2 x1 x1), (4, .int .i64 v6)]) (fun | (_, v4, v6, C5) => [(0, C5)]) (fl, (List.replicate x1 (0 : Int)), 0, C3) ⟨eo0_0, (by simp), o3⟩ ⟨rfl, rfl, rfl, trivial⟩ ⟨0, [], rfl, rfl, trivial⟩ (by decide) ?_)
  rintro ⟨fuel, v4, v6, C5⟩ ⟨H1, hl5, o5⟩
  have H1 : l_toIntS_L0 fl a0 fuel v4 v6 = some o0_0 := H1
  rcases fuel with _ | fuel
  ·rw [l_toIntS_L0.eq_1] at H1; cases H1
  rw [l_toIntS_L0.eq_2] at H1
  dsimp only
  refine cw_seq (sr (oM rfl (oM rfl (oD (stp_len Tryd.underlying22 rfl) rfl (oW rfl (nn (cw_cond rfl (fun h7 => ?_) (fun h7 => ?_))))))))
  ·have H1 := cond_t H1 h7
   obtain ⟨x8, e8, H1⟩ := bS H1
   obtain ⟨x9, e9, H1⟩ := bS H1
   refine cw_skip (kw_nx (cw_seq (cw_block (cw_region (oM rfl (oM rfl (oM rfl (oM rfl (oD (stp_indexAddr Tryd.underlying22 ts3 (by decide) rfl rfl rfl (Rdb.ro hr0_0) e8) rfl (oD (stp_load1 ts3 rfl (Cells.el (Rdb.ro hr0_0) (by decide) e8 0 1 rfl)) rfl (oD (stp_indexAddr Tryd.underlying22 ts3 (by decide) rfl (by simp [hl5]) rfl (Rdb.own (id := 0) rfl o5) e9) rfl (oF (stpU_storeEl (id := 0) (i := 0) x8 (by decide) ts3 rfl rfl rfl o5 e9 rfl rfl rfl rfl) ?_))))))))))))
   rintro _ _ ⟨C10, rfl, o10⟩
   obtain ⟨x11, e11, H1⟩ := bS H1
   exact ow_nil (kw_bl_normal (kw_nx (cw_region (oM rfl (oP e11 rfl (oS rfl (ow_nil (kw_lqS (js := [0]) (fuel, (v4.set (Int.toNat v6) x8), x11, C10) ⟨H1, (by simp [hl5]), o10⟩ (Nat.lt_succ_self _) ⟨rfl, rfl, rfl, trivial⟩ ⟨0, [], rfl, rfl, trivial⟩ (by decide)))))))))
  have H1 := cond_f H1 h7
  refine cw_exit (kw_nx_exit (kw_lq_exit (kw_bl ?_)))
  obtain rfl := sI H1
  exact kw_joinS (js := [0]) (v4, v6, C5) ⟨rfl, (by simp [hl5]), o5⟩ ⟨rfl, rfl, rfl, trivial⟩ ⟨0, [], rfl, rfl, trivial⟩ (by decide)
 rintro ⟨v4, v6, C5⟩ ⟨rfl, hl5, o5⟩
 dsimp only
 refine kw_nx (sr (oM rfl (oS rfl (nn (cw_ret ?_)))))
 obtain rfl := sI H0
 exact kr Tryd.results106 (rT rfl) [0] ⟨_, _, _, _, rfl, rfl, (by simp [hl5]), o5⟩

theorem c_l_toKey (fl : Nat) (w : World) (a0 : K) (r : K) (H0 : l_toKey fl a0 = some r) :
  Ct Tryd.prog 41 [.agg #[.int .i64 a0.s, .int .i64 a0.p]] w [] (fun rv h' => rv = .agg #[.int .i64 r.s, .int .i64 r.p] ∧ h' = []) := by
 unfold l_toKey at H0
 refine ct_of_cw Tryd.func41 rfl Tryd.ntmps41 rfl (Sat.refl _ _) ?_
 refine sr (oE (stpU_box 0 rfl rfl) rfl ?_)
 rintro _ _ ⟨b1, rfl, rfl⟩
 refine oE (stpU_alloc 1 tz46 rfl) rfl ?_
 rintro _ _ ⟨b2, rfl, rfl⟩
 refine nn (sr (oE (stpU_alloc 2 tz46 rfl) rfl ?_))
 rintro _ _ ⟨b3, rfl, rfl⟩
 refine nn (sr (oA 0 Tryd.underlying69 rfl ts3 rfl (oL 0 ts3 rfl (oA 0 Tryd.underlying46 rfl ts3 rfl (oC2 2 ts3 rfl rfl (nn (sr (oA 1 Tryd.underlying69 rfl ts3 rfl (oL 0 ts3 rfl (oA 1 Tryd.underlying46 rfl ts3 rfl (oC2 2 ts3 rfl rfl (nn (sr ?_)))))))))))))
 refine oB2 2 ts46 rfl (oC2 1 ts46 rfl rfl (nn (cw_ret ?_)))
 obtain rfl := sI H0
 exact kr Tryd.results41 (rC2 1 ts46 rfl rfl) [] ⟨rfl, rfl⟩

theorem c_l_toFrame (fl : Nat) (w : World) (a0 : F) (r : F) (H0 : l_toFrame fl a0 = some r) :
  Ct Tryd.prog 146 [.agg #[.bool a0.u, .int .i64 a0.k.s, .int .i64 a0.k.p, .int .i64 a0.r, .int .i64 a0.nx]] w [] (fun rv h' => rv = .agg #[.bool r.u, .int .i64 r.k.s, .int .i64 r.k.p, .int .i64 r.r, .int .i64 r.nx] ∧ h' = []) := by
 unfold l_toFrame at H0
 refine ct_of_cw Tryd.func146 rfl Tryd.ntmps146 rfl (Sat.refl _ _) ?_
 refine sr (oE (stpU_box 0 rfl rfl) rfl ?_)
 rintro _ _ ⟨b1, rfl, rfl⟩
 refine oE (stpU_alloc 1 tz84 rfl) rfl ?_
 rintro _ _ ⟨b2, rfl, rfl⟩
 refine nn (sr (oE (stpU_alloc 2 tz84 rfl) rfl ?_))
 rintro _ _ ⟨b3, rfl, rfl⟩
 obtain ⟨x4, e4, H0⟩ := bS H0
 refine nn (sr (oA 0 Tryd.underlying160 rfl ts4 rfl (oL 0 ts4 rfl (oA 0 Tryd.underlying84 rfl ts4 rfl (oC5 2 ts4 rfl rfl (nn (sr (oA 1 Tryd.underlying160 rfl ts69 rfl (oB2 0 ts69 rfl (oE (stpU_call (fun i => 3 + i) cf41 (fun w hw => c_l_toKey fl w a0.k x4 e4) (yA rfl)) rfl ?_))))))))))
 rintro _ _ ⟨_, ⟨rfl, rfl⟩, rfl⟩
 refine oA 1 Tryd.underlying84 rfl ts46 rfl (oC5 2 ts46 rfl rfl (nn (sr (oA 3 Tryd.underlying160 rfl ts3 rfl (oL 0 ts3 rfl (oA 3 Tryd.underlying84 rfl ts3 rfl (oC5 2 ts3 rfl rfl (nn (sr (oA 4 Tryd.underlying160 rfl ts3 rfl (oL 0 ts3 rfl (oA 4 Tryd.underlying84 rfl ts3 rfl (oC5 2 ts3 rfl rfl ?_)))))))))))))
 refine nn (sr (oB5 2 ts84 rfl (oC5 1 ts84 rfl rfl (nn (cw_ret ?_)))))
 obtain rfl := sI H0
 exact kr Tryd.results146 (rC5 1 ts84 rfl rfl) [] ⟨rfl, rfl⟩

theorem c_l_toFrameS (fl : Nat) (w : World) (a0 : (List F)) (hn0_0 : n0_0 = (a0).length) (hr0_0 : RO w (hkeys []) (RdL p0_0 c0_0 a0)) (r : (List F)) (H0 : l_toFrameS fl a0 = some r) :
  Ct Tryd.prog 107 [.slice p0_0 n0_0 c0_0] w [] (fun rv h' => ∃ (x0 : Option Addr) (y0 z0 : Nat) (C0 : Res), rv = .slice x0 y0 z0 ∧ h' = [(0, C0)] ∧ y0 = (r).length ∧ OwnC 84 x0 z0 r C0) := by
 subst hn0_0
 unfold l_toFrameS at H0
 refine ct_of_cw Tryd.func107 rfl Tryd.ntmps107 rfl (Sat.refl _ _) ?_
 obtain ⟨x1, e1, H0⟩ := bS H0
 refine sr (oS rfl (nn (sr (oM rfl (oD (stp_len Tryd.underlying23 rfl) rfl (oE (stpU_make sl31 rfl 0 rfl rfl e1) rfl ?_))))))
 rintro _ _ ⟨p2, C3, rfl, rfl, o3⟩
 obtain ⟨o0_0, eo0_0, H0⟩ := bS H0
 refine oS rfl (nn (cw_seq (sr (oS rfl (nn (cw_join (ι := (List F) × Int × Res) (fun | (v4, v6, C5) => o0_0 = .out (v4, v6) ∧ x1 = (v4).length ∧ OwnC 84 p2 x1 v4 C5) (fun | (v4, v6, C5) => [(0, .slice p0_0 ((a0).length) c0_0), (3, .slice p2 x1 x1), (4, .int .i64 v6)]) (fun | (v4, v6, C5) => [(0, C5)]) ?_ ?_))))))
 ·refine cw_block (cw_loopS (ι := Nat × (List F) × Int × Res) (js := [0]) (fun x => x.1) (fun | (fuel, v4, v6, C5) => l_toFrameS_L0 fl a0 fuel v4 v6 = some o0_0 ∧ x1 = (v4).length ∧ OwnC 84 p2 x1 v4 C5) (fun | (_, v4, v6, C5) => [(0, .slice p0_0 ((a0).length) c0_0), (3, .slice p2 x1 x1), (4, .int .i64 v6)]) (fun | (_, v4, v6, C5) => [(0, C5)]) (fl, (List.replicate x1 (⟨false, (⟨0, 0⟩ : K), 0, 0⟩ : F)), 0, C3) ⟨eo0_0, (by simp), o3⟩ ⟨rfl, rfl, rfl, trivial⟩ ⟨0, [], rfl, rfl, trivial⟩ (by decide) ?_)
  rintro ⟨fuel, v4, v6, C5⟩ ⟨H1, hl5, o5⟩
  have H1 : l_toFrameS_L0 fl a0 fuel v4 v6 = some o0_0 := H1
  rcases fuel with _ | fuel
  ·rw [l_toFrameS_L0.eq_1] at H1; cases H1
  rw [l_toFrameS_L0.eq_2] at H1
  dsimp only
  refine cw_seq (sr (oM rfl (oM rfl (oD (stp_len Tryd.underlying23 rfl) rfl (oW rfl (nn (cw_cond rfl (fun h7 => ?_) (fun h7 => ?_))))))))
  ·have H1 := cond_t H1 h7
   obtain ⟨x8, e8, H1⟩ := bS H1
   obtain ⟨x9, e9, H1⟩ := bS H1
   refine cw_skip (kw_nx (cw_seq (cw_block (cw_region (oM rfl (oM rfl (oM rfl (oM rfl (oD (stp_indexAddr Tryd.underlying23 ts160 (by decide) rfl rfl rfl (Rdb.ro hr0_0) e8) rfl (oD (stp_loadN (us := [_, _, _, _, _]) ts160 rfl (Cells.el (Rdb.ro hr0_0) (by decide) e8 0 5 rfl)) rfl (oE (stpU_call (fun i => 1 + i) cf146 (fun w hw => c_l_toFrame fl w x8 x9 e9) (yA rfl)) rfl ?_)))))))))))
   rintro _ _ ⟨_, ⟨rfl, rfl⟩, rfl⟩
   obtain ⟨x10, e10, H1⟩ := bS H1
   refine oD (stp_indexAddr Tryd.underlying31 ts84 (by decide) rfl (by simp [hl5]) rfl (Rdb.own (id := 0) rfl o5) e10) rfl (oF (stpU_storeEl (id := 0) (i := 0) x9 (by decide) ts84 rfl rfl rfl o5 e10 rfl rfl rfl rfl) ?_)
   rintro _ _ ⟨C11, rfl, o11⟩
   obtain ⟨x12, e12, H1⟩ := bS H1
   exact ow_nil (kw_bl_normal (kw_nx (cw_region (oM rfl (oP e12 rfl (oS rfl (ow_nil (kw_lqS (js := [0]) (fuel, (v4.set (Int.toNat v6) x9), x12, C11) ⟨H1, (by simp [hl5]), o11⟩ (Nat.lt_succ_self _) ⟨rfl, rfl, rfl, trivial⟩ ⟨0, [], rfl, rfl, trivial⟩ (by decide)))))))))
  have H1 := cond_f H1 h7
  refine cw_exit (kw_nx_exit (kw_lq_exit (kw_bl ?_)))
  obtain rfl := sI H1
  exact kw_joinS (js := [0]) (v4, v6, C5) ⟨rfl, (by simp [hl5]), o5⟩ ⟨rfl, rfl, rfl, trivial⟩ ⟨0, [], rfl, rfl, trivial⟩ (by decide)
 rintro ⟨v4, v6, C5⟩ ⟨rfl, hl5, o5⟩
 dsimp only
 refine kw_nx (sr (oM rfl (oS rfl (nn (cw_ret ?_)))))
 obtain rfl := sI H0
 exact kr Tryd.results107 (rT rfl) [0] ⟨_, _, _, _, rfl, rfl, (by simp [hl5]), o5⟩

theorem c_l_toTable (fl : Nat) (w : World) (a0 : T) (hn0_0 : n0_0 = (a0.b).length) (hr0_0 : RO w (hkeys []) (RdL p0_0 c0_0 a0.b)) (hn0_1 : n0_1 = (a0.f).length) (hr0_1 : RO w (hkeys []) (RdL p0_1 c0_1 a0.f)) (r : T) (H0 : l_toTable fl a0 = some r) :
  Ct Tryd.prog 47 [.agg #[.slice p0_0 n0_0 c0_0, .slice p0_1 n0_1 c0_1]] w [] (fun rv h' => ∃ (x0 : Option Addr) (y0 z0 : Nat) (C0 : Res) (x1 : Option Addr) (y1 z1 : Nat) (C1 : Res), rv = .agg #[.slice x0 y0 z0, .slice x1 y1 z1] ∧ h' = [(0, C0), (1, C1)] ∧ y0 = (r.b).length ∧ OwnC 3 x0 z0 r.b C0 ∧ y1 = (r.f).length ∧ OwnC 84 x1 z1 r.f C1) := by
 subst hn0_0 hn0_1
 unfold l_toTable at H0
 refine ct_of_cw Tryd.func47 rfl Tryd.ntmps47 rfl (Sat.refl _ _) ?_
 refine sr (oE (stpU_box 0 rfl rfl) rfl ?_)
 rintro _ _ ⟨b1, rfl, rfl⟩
 refine oE (stpU_alloc 1 tz33 rfl) rfl ?_
 rintro _ _ ⟨b2, rfl, rfl⟩
 refine nn (sr (oE (stpU_alloc 2 tz33 rfl) rfl ?_))
 rintro _ _ ⟨b3, rfl, rfl⟩
 obtain ⟨x4, e4, H0⟩ := bS H0
 refine nn (sr (oA 0 Tryd.underlying25 rfl ts22 rfl (oL 0 ts22 rfl (oE (stpU_call (fun i => 3 + i) cf106 (fun w hw => c_l_toIntS fl w a0.b rfl (RO.pass hr0_0 hw) x4 e4) (yA rfl)) rfl ?_))))
 rintro _ _ ⟨_, ⟨p5, _, c7, C8, rfl, rfl, rfl, o8⟩, rfl⟩
 obtain ⟨x9, e9, H0⟩ := bS H0
 refine oA 0 Tryd.underlying33 rfl ts22 rfl (oC2 2 ts22 rfl rfl (nn (sr (oA 1 Tryd.underlying25 rfl ts23 rfl (oL 0 ts23 rfl (oE (stpU_call (fun i => 4 + i) cf107 (fun w hw => c_l_toFrameS fl w a0.f rfl (RO.pass hr0_1 hw) x9 e9) (yA rfl)) rfl ?_))))))
 rintro _ _ ⟨_, ⟨p10, _, c12, C13, rfl, rfl, rfl, o13⟩, rfl⟩
 refine oA 1 Tryd.underlying33 rfl ts31 rfl (oC2 2 ts31 rfl rfl (nn (sr (oB2 2 ts33 rfl (oC2 1 ts33 rfl rfl (nn (cw_ret ?_)))))))
 obtain rfl := sI H0
 exact kr Tryd.results47 (rC2 1 ts33 rfl rfl) [3, 4] ⟨_, _, _, _, _, _, _, _, rfl, rfl, rfl, o8, rfl, o13⟩

theorem c_l_toNote (fl : Nat) (w : World) (a0 : Nt) (r : Nt) (H0 : l_toNote fl a0 = some r) :
  Ct Tryd.prog 167 [.agg #[.int .i64 a0.k.s, .int .i64 a0.k.p, .int .i64 a0.fr]] w [] (fun rv h' => rv = .agg #[.int .i64 r.k.s, .int .i64 r.k.p, .int .i64 r.fr] ∧ h' = []) := by
 unfold l_toNote at H0
 refine ct_of_cw Tryd.func167 rfl Tryd.ntmps167 rfl (Sat.refl _ _) ?_
 refine sr (oE (stpU_box 0 rfl rfl) rfl ?_)
 rintro _ _ ⟨b1, rfl, rfl⟩
 refine oE (stpU_alloc 1 tz48 rfl) rfl ?_
 rintro _ _ ⟨b2, rfl, rfl⟩
 refine nn (sr (oE (stpU_alloc 2 tz48 rfl) rfl ?_))
 rintro _ _ ⟨b3, rfl, rfl⟩
 obtain ⟨x4, e4, H0⟩ := bS H0
 refine nn (sr (oA 0 Tryd.underlying181 rfl ts69 rfl (oB2 0 ts69 rfl (oE (stpU_call (fun i => 3 + i) cf41 (fun w hw => c_l_toKey fl w a0.k x4 e4) (yA rfl)) rfl ?_))))
 rintro _ _ ⟨_, ⟨rfl, rfl⟩, rfl⟩
 refine oA 0 Tryd.underlying48 rfl ts46 rfl (oC3 2 ts46 rfl rfl (nn (sr (oA 2 Tryd.underlying181 rfl ts3 rfl (oL 0 ts3 rfl (oA 2 Tryd.underlying48 rfl ts3 rfl (oC3 2 ts3 rfl rfl (nn (sr (oB3 2 ts48 rfl (oC3 1 ts48 rfl rfl (nn (cw_ret ?_)))))))))))))
 obtain rfl := sI H0
 exact kr Tryd.results167 (rC3 1 ts48 rfl rfl) [] ⟨rfl, rfl⟩

theorem c_l_toNoteS (fl : Nat) (w : World) (a0 : (List Nt)) (hn0_0 : n0_0 = (a0).length) (hr0_0 : RO w (hkeys []) (RdL p0_0 c0_0 a0)) (r : (List Nt)) (H0 : l_toNoteS fl a0 = some r) :
  Ct Tryd.prog 147 [.slice p0_0 n0_0 c0_0] w [] (fun rv h' => ∃ (x0 : Option Addr) (y0 z0 : Nat) (C0 : Res), rv = .slice x0 y0 z0 ∧ h' = [(0, C0)] ∧ y0 = (r).length ∧ OwnC 48 x0 z0 r C0) := by
 subst hn0_0
 unfold l_toNoteS at H0
 refine ct_of_cw Tryd.func147 rfl Tryd.ntmps147 rfl (Sat.refl _ _) ?_
 obtain ⟨x1, e1, H0⟩ := bS H0
 refine sr (oS rfl (nn (sr (oM rfl (oD (stp_len Tryd.underlying121 rfl) rfl (oE (stpU_make sl42 rfl 0 rfl rfl e1) rfl ?_))))))
 rintro _ _ ⟨p2, C3, rfl, rfl, o3⟩
 obtain ⟨o0_0, eo0_0, H0⟩ := bS H0
 refine oS rfl (nn (cw_seq (sr (oS rfl (nn (cw_join (ι := (List Nt) × Int × Res) (fun | (v4, v6, C5) => o0_0 = .out (v4, v6) ∧ x1 = (v4).length ∧ OwnC 48 p2 x1 v4 C5) (fun | (v4, v6, C5) => [(0, .slice p0_0 ((a0).length) c0_0), (3, .slice p2 x1 x1), (4, .int .i64 v6)]) (fun | (v4, v6, C5) => [(0, C5)]) ?_ ?_))))))
 ·refine cw_block (cw_loopS (ι := Nat × (List Nt) × Int × Res) (js := [0]) (fun x => x.1) (fun | (fuel, v4, v6, C5) => l_toNoteS_L0 fl a0 fuel v4 v6 = some o0_0 ∧ x1 = (v4).length ∧ OwnC 48 p2 x1 v4 C5) (fun | (_, v4, v6, C5) => [(0, .slice p0_0 ((a0).length) c0_0), (3, .slice p2 x1 x1), (4, .int .i64 v6)]) (fun | (_, v4, v6, C5) => [(0, C5)]) (fl, (List.replicate x1 (⟨(⟨0, 0⟩ : K), 0⟩ : Nt)), 0, C3) ⟨eo0_0, (by simp), o3⟩ ⟨rfl, rfl, rfl, trivial⟩ ⟨0, [], rfl, rfl, trivial⟩ (by decide) ?_)
  rintro ⟨fuel, v4, v6, C5⟩ ⟨H1, hl5, o5⟩
  have H1 : l_toNoteS_L0 fl a0 fuel v4 v6 = some o0_0 := H1
  rcases fuel with _ | fuel
  ·rw [l_toNoteS_L0.eq_1] at H1; cases H1
  rw [l_toNoteS_L0.eq_2] at H1
  dsimp only
  refine cw_seq (sr (oM rfl (oM rfl (oD (stp_len Tryd.underlying121 rfl) rfl (oW rfl (nn (cw_cond rfl (fun h7 => ?_) (fun h7 => ?_))))))))
  ·have H1 := cond_t H1 h7
   obtain ⟨x8, e8, H1⟩ := bS H1
   obtain ⟨x9, e9, H1⟩ := bS H1
   refine cw_skip (kw_nx (cw_seq (cw_block (cw_region (oM rfl (oM rfl (oM rfl (oM rfl (oD (stp_indexAddr Tryd.underlying121 ts181 (by decide) rfl rfl rfl (Rdb.ro hr0_0) e8) rfl (oD (stp_loadN (us := [_, _, _]) ts181 rfl (Cells.el (Rdb.ro hr0_0) (by decide) e8 0 3 rfl)) rfl (oE (stpU_call (fun i => 1 + i) cf167 (fun w hw => c_l_toNote fl w x8 x9 e9) (yA rfl)) rfl ?_)))))))))))
   rintro _ _ ⟨_, ⟨rfl, rfl⟩, rfl⟩
   obtain ⟨x10, e10, H1⟩ := bS H1
   refine oD (stp_indexAddr Tryd.underlying42 ts48 (by decide) rfl (by simp [hl5]) rfl (Rdb.own (id := 0) rfl o5) e10) rfl (oF (stpU_storeEl (id := 0) (i := 0) x9 (by decide) ts48 rfl rfl rfl o5 e10 rfl rfl rfl rfl) ?_)
   rintro _ _ ⟨C11, rfl, o11⟩
   obtain ⟨x12, e12, H1⟩ := bS H1
   exact ow_nil (kw_bl_normal (kw_nx (cw_region (oM rfl (oP e12 rfl (oS rfl (ow_nil (kw_lqS (js := [0]) (fuel, (v4.set (Int.toNat v6) x9), x12, C11) ⟨H1, (by simp [hl5]), o11⟩ (Nat.lt_succ_self _) ⟨rfl, rfl, rfl, trivial⟩ ⟨0, [], rfl, rfl, trivial⟩ (by decide)))))))))
  have H1 := cond_f H1 h7
  refine cw_exit (kw_nx_exit (kw_lq_exit (kw_bl ?_)))
  obtain rfl := sI H1
  exact kw_joinS (js := [0]) (v4, v6, C5) ⟨rfl, (by simp [hl5]), o5⟩ ⟨rfl, rfl, rfl, trivial⟩ ⟨0, [], rfl, rfl, trivial⟩ (by decide)
 rintro ⟨v4, v6, C5⟩ ⟨rfl, hl5, o5⟩
 dsimp only
 refine kw_nx (sr (oM rfl (oS rfl (nn (cw_ret ?_)))))
 obtain rfl := sI H0
 exact kr Tryd.results147 (rT rfl) [0] ⟨_, _, _, _, rfl, rfl, (by simp [hl5]), o5⟩

theorem c_l_toCpu (fl : Nat) (w : World) (a0 : Cp) (hn0_0 : n0_0 = (a0.n).length) (hr0_0 : RO w (hkeys []) (RdL p0_0 c0_0 a0.n)) (hn0_1 : n0_1 = (a0.w).length) (hr0_1 : RO w (hkeys []) (RdL p0_1 c0_1 a0.w)) (r : Cp) (H0 : l_toCpu fl a0 = some r) :
  Ct Tryd.prog 108 [.agg #[.slice p0_0 n0_0 c0_0, .slice p0_1 n0_1 c0_1]] w [] (fun rv h' => ∃ (x0 : Option Addr) (y0 z0 : Nat) (C0 : Res) (x1 : Option Addr) (y1 z1 : Nat) (C1 : Res), rv = .agg #[.slice x0 y0 z0, .slice x1 y1 z1] ∧ h' = [(0, C0), (1, C1)] ∧ y0 = (r.n).length ∧ OwnC 48 x0 z0 r.n C0 ∧ y1 = (r.w).length ∧ OwnC 48 x1 z1 r.w C1) := by
 subst hn0_0 hn0_1
 unfold l_toCpu at H0
 refine ct_of_cw Tryd.func108 rfl Tryd.ntmps108 rfl (Sat.refl _ _) ?_
 refine sr (oE (stpU_box 0 rfl rfl) rfl ?_)
 rintro _ _ ⟨b1, rfl, rfl⟩
 refine oE (stpU_alloc 1 tz44 rfl) rfl ?_
 rintro _ _ ⟨b2, rfl, rfl⟩
 refine nn (sr (oE (stpU_alloc 2 tz44 rfl) rfl ?_))
 rintro _ _ ⟨b3, rfl, rfl⟩
 obtain ⟨x4, e4, H0⟩ := bS H0
 refine nn (sr (oA 0 Tryd.underlying123 rfl ts121 rfl (oL 0 ts121 rfl (oE (stpU_call (fun i => 3 + i) cf147 (fun w hw => c_l_toNoteS fl w a0.n rfl (RO.pass hr0_0 hw) x4 e4) (yA rfl)) rfl ?_))))
 rintro _ _ ⟨_, ⟨p5, _, c7, C8, rfl, rfl, rfl, o8⟩, rfl⟩
 obtain ⟨x9, e9, H0⟩ := bS H0
 refine oA 0 Tryd.underlying44 rfl ts42 rfl (oC2 2 ts42 rfl rfl (nn (sr (oA 1 Tryd.underlying123 rfl ts121 rfl (oL 0 ts121 rfl (oE (stpU_call (fun i => 4 + i) cf147 (fun w hw => c_l_toNoteS fl w a0.w rfl (RO.pass hr0_1 hw) x9 e9) (yA rfl)) rfl ?_))))))
 rintro _ _ ⟨_, ⟨p10, _, c12, C13, rfl, rfl, rfl, o13⟩, rfl⟩
 refine oA 1 Tryd.underlying44 rfl ts42 rfl (oC2 2 ts42 rfl rfl (nn (sr (oB2 2 ts44 rfl (oC2 1 ts44 rfl rfl (nn (cw_ret ?_)))))))
 obtain rfl := sI H0
 exact kr Tryd.results108 (rC2 1 ts44 rfl rfl) [3, 4] ⟨_, _, _, _, _, _, _, _, rfl, rfl, rfl, o8, rfl, o13⟩

theorem c_l_toCpuS (fl : Nat) (w : World) (a0 : (List Cp)) (hn0_0 : n0_0 = (a0).length) (hr0_0 : ROD w (hkeys []) p0_0 c0_0 a0) (r : (List Cp)) (H0 : l_toCpuS fl a0 = some r) :
  Ct Tryd.prog 48 [.slice p0_0 n0_0 c0_0] w [] (fun rv h' => ∃ (x0 : Option Addr) (y0 z0 : Nat) (C0 : Res), rv = .slice x0 y0 z0 ∧ h' = [(0, C0)] ∧ y0 = (r).length ∧ OwnD 44 48 x0 z0 r C0) := by
 subst hn0_0
 unfold l_toCpuS at H0
 refine ct_of_cw Tryd.func48 rfl Tryd.ntmps48 rfl (Sat.refl _ _) ?_
 obtain ⟨x1, e1, H0⟩ := bS H0
 refine sr (oS rfl (nn (sr (oM rfl (oD (stp_len Tryd.underlying26 rfl) rfl (oE (stpU_makeD 48 sl34 rfl 0 rfl rfl e1) rfl ?_))))))
 rintro _ _ ⟨p2, C3, rfl, rfl, o3⟩
 obtain ⟨o0_0, eo0_0, H0⟩ := bS H0
 refine oS rfl (nn (cw_seq (sr (oS rfl (nn (cw_join (ι := (List Cp) × Int × Res) (fun | (v4, v6, C5) => o0_0 = .out (v4, v6) ∧ x1 = (v4).length ∧ OwnD 44 48 p2 x1 v4 C5) (fun | (v4, v6, C5) => [(0, .slice p0_0 ((a0).length) c0_0), (3, .slice p2 x1 x1), (4, .int .i64 v6)]) (fun | (v4, v6, C5) => [(0, C5)]) ?_ ?_))))))
 ·refine cw_block (cw_loopS (ι := Nat × (List Cp) × Int × Res) (js := [0]) (fun x => x.1) (fun | (fuel, v4, v6, C5) => l_toCpuS_L0 fl a0 fuel v4 v6 = some o0_0 ∧ x1 = (v4).length ∧ OwnD 44 48 p2 x1 v4 C5) (fun | (_, v4, v6, C5) => [(0, .slice p0_0 ((a0).length) c0_0), (3, .slice p2 x1 x1), (4, .int .i64 v6)]) (fun | (_, v4, v6, C5) => [(0, C5)]) (fl, (List.replicate x1 (⟨[], []⟩ : Cp)), 0, C3) ⟨eo0_0, (by simp), o3⟩ ⟨rfl, rfl, rfl, trivial⟩ ⟨0, [], rfl, rfl, trivial⟩ (by decide) ?_)
  rintro ⟨fuel, v4, v6, C5⟩ ⟨H1, hl5, o5⟩
  have H1 : l_toCpuS_L0 fl a0 fuel v4 v6 = some o0_0 := H1
  rcases fuel with _ | fuel
  ·rw [l_toCpuS_L0.eq_1] at H1; cases H1
  rw [l_toCpuS_L0.eq_2] at H1
  dsimp only
  refine cw_seq (sr (oM rfl (oM rfl (oD (stp_len Tryd.underlying26 rfl) rfl (oW rfl (nn (cw_cond rfl (fun h7 => ?_) (fun h7 => ?_))))))))
  ·have H1 := cond_t H1 h7
   obtain ⟨x8, e8, H1⟩ := bS H1
   refine cw_skip (kw_nx (cw_seq (cw_block (cw_region (oM rfl (oM rfl (oM rfl (oM rfl ?_))))))))
   obtain ⟨u9, p10, n11, c12, p13, n14, c15, hw9, hl9, hx9, rfl, hr9, rfl, hs9⟩ := ROD.get hr0_0 e8
   obtain ⟨x16, e16, H1⟩ := bS H1
   refine oD (stp_indexAddr Tryd.underlying26 ts123 (by decide) rfl hl9 rfl (Rdb.ro hw9) hx9) rfl (oD (stp_loadN (us := [_, _]) ts123 rfl (Cells.el (Rdb.ro hw9) (by decide) hx9 0 2 rfl)) rfl (oE (stpU_call (fun i => 1 + i) cf108 (fun w hw => c_l_toCpu fl w x8 rfl (RO.pass hr9 hw) rfl (RO.pass hs9 hw) x16 e16) (yA rfl)) rfl ?_))
   rintro _ _ ⟨_, ⟨p17, _, c19, C20, p21, _, c23, C24, rfl, rfl, rfl, o20, rfl, o24⟩, rfl⟩
   obtain ⟨x25, e25, H1⟩ := bS H1
   refine ow_open 0 3 4 5 rfl o5 e25 ?_
   rintro u26 p27 n28 c29 p30 n31 c32 C33 C34 C35 C36 o33 hb34 hx26 rfl o35 rfl o36
   refine oD (stp_indexAddr Tryd.underlying34 ts44 (by decide) rfl (Eq.trans (a := x1) (b := (v4).length) (by simp [hl5]) (Bun.len hb34)) rfl (Rdb.own (id := 0) rfl o33) hx26) rfl (oF (stpU_storeEl (id := 0) (i := 0) (⟨p17, (x16.n).length, c19, p21, (x16.w).length, c23⟩ : CpS) (by decide) ts44 rfl rfl rfl o33 hx26 rfl rfl rfl rfl) ?_)
   rintro _ _ ⟨C37, rfl, o37⟩
   obtain ⟨x38, e38, H1⟩ := bS H1
   refine ow_nil (kw_bl_normal (kw_nx (cw_region (oM rfl (oP e38 rfl (oS rfl (ow_nil (kw_shut 0 3 1 2 o37 (Bun.setL (Bun.set hb34 _) _) (idx_some (idx_set hx26)).2.2 (idx_setD e25 (⟨x16.n, x16.w⟩ : Cp)) rfl o20 rfl o24 ?_))))))))
   rintro C39 o39
   exact kw_lqS (js := [0]) (fuel, (v4.set (Int.toNat v6) (⟨x16.n, x16.w⟩ : Cp)), x38, C39) ⟨H1, (by simp [hl5]), o39⟩ (Nat.lt_succ_self _) ⟨rfl, rfl, rfl, trivial⟩ ⟨0, [], rfl, rfl, trivial⟩ (by decide)
  have H1 := cond_f H1 h7
  refine cw_exit (kw_nx_exit (kw_lq_exit (kw_bl ?_)))
  obtain rfl := sI H1
  exact kw_joinS (js := [0]) (v4, v6, C5) ⟨rfl, (by simp [hl5]), o5⟩ ⟨rfl, rfl, rfl, trivial⟩ ⟨0, [], rfl, rfl, trivial⟩ (by decide)
 rintro ⟨v4, v6, C5⟩ ⟨rfl, hl5, o5⟩
 dsimp only
 refine kw_nx (sr (oM rfl (oS rfl (nn (cw_ret ?_)))))
 obtain rfl := sI H0
 exact kr Tryd.results48 (rT rfl) [0] ⟨_, _, _, _, rfl, rfl, (by simp [hl5]), o5⟩

theorem c_l_toSystem (fl : Nat) (w : World) (a0 : Sy) (hn0_0 : n0_0 = (a0.t.b).length) (hr0_0 : RO w (hkeys []) (RdL p0_0 c0_0 a0.t.b)) (hn0_1 : n0_1 = (a0.t.f).length) (hr0_1 : RO w (hkeys []) (RdL p0_1 c0_1 a0.t.f)) (hn0_2 : n0_2 = (a0.c).length) (hr0_2 : ROD w (hkeys []) p0_2 c0_2 a0.c) (r : Sy) (H0 : l_toSystem fl a0 = some r) :
  Ct Tryd.prog 17 [.agg #[.slice p0_0 n0_0 c0_0, .slice p0_1 n0_1 c0_1, .slice p0_2 n0_2 c0_2]] w [] (fun rv h' => ∃ (x0 : Option Addr) (y0 z0 : Nat) (C0 : Res) (x1 : Option Addr) (y1 z1 : Nat) (C1 : Res) (x2 : Option Addr) (y2 z2 : Nat) (C2 : Res), rv = .agg #[.slice x0 y0 z0, .slice x1 y1 z1, .slice x2 y2 z2] ∧ h' = [(0, C0), (1, C1), (2, C2)] ∧ y0 = (r.t.b).length ∧ OwnC 3 x0 z0 r.t.b C0 ∧ y1 = (r.t.f).length ∧ OwnC 84 x1 z1 r.t.f C1 ∧ y2 = (r.c).length ∧ OwnD 44 48 x2 z2 r.c C2) := by
 subst hn0_0 hn0_1 hn0_2
 unfold l_toSystem at H0
 refine ct_of_cw Tryd.func17 rfl Tryd.ntmps17 rfl (Sat.refl _ _) ?_
 refine sr (oE (stpU_box 0 rfl rfl) rfl ?_)
 rintro _ _ ⟨b1, rfl, rfl⟩
 refine oE (stpU_alloc 1 tz36 rfl) rfl ?_
 rintro _ _ ⟨b2, rfl, rfl⟩
 refine nn (sr (oE (stpU_alloc 2 tz36 rfl) rfl ?_))
 rintro _ _ ⟨b3, rfl, rfl⟩
 obtain ⟨x4, e4, H0⟩ := bS H0
 refine nn (sr (oA 0 Tryd.underlying28 rfl ts25 rfl (oB2 0 ts25 rfl (oE (stpU_call (fun i => 3 + i) cf47 (fun w hw => c_l_toTable fl w a0.t rfl (RO.pass hr0_0 hw) rfl (RO.pass hr0_1 hw) x4 e4) (yA rfl)) rfl ?_))))
 rintro _ _ ⟨_, ⟨p5, _, c7, C8, p9, _, c11, C12, rfl, rfl, rfl, o8, rfl, o12⟩, rfl⟩
 obtain ⟨x13, e13, H0⟩ := bS H0
 refine oA 0 Tryd.underlying36 rfl ts33 rfl (oC3 2 ts33 rfl rfl (nn (sr (oA 2 Tryd.underlying28 rfl ts26 rfl (oL 0 ts26 rfl (oE (stpU_call (fun i => 5 + i) cf48 (fun w hw => c_l_toCpuS fl w a0.c rfl (ROD.pass hr0_2 hw) x13 e13) (yA rfl)) rfl ?_))))))
 rintro _ _ ⟨_, ⟨p14, _, c16, C17, rfl, rfl, rfl, o17⟩, rfl⟩
 refine oA 2 Tryd.underlying36 rfl ts34 rfl (oC3 2 ts34 rfl rfl (nn (sr (oB3 2 ts36 rfl (oC3 1 ts36 rfl rfl (nn (cw_ret ?_)))))))
 obtain rfl := sI H0
 exact kr Tryd.results17 (rC3 1 ts36 rfl rfl) [3, 4, 5] ⟨_, _, _, _, _, _, _, _, _, _, _, _, rfl, rfl, rfl, o8, rfl, o12, rfl, o17⟩

theorem c_l_eqIntS (fl : Nat) (w : World) (a0 : (List Int)) (a1 : (List Int)) (hn0_0 : n0_0 = (a0).length) (hr0_0 : RO w (hkeys []) (RdL p0_0 c0_0 a0)) (hn1_0 : n1_0 = (a1).length) (hr1_0 : RO w (hkeys []) (RdL p1_0 c1_0 a1)) (r : Bool) (H0 : l_eqIntS fl a0 a1 = some r) :
  Ct Tryd.prog 115 [.slice p0_0 n0_0 c0_0, .slice p1_0 n1_0 c1_0] w [] (fun rv h' => rv = .bool r ∧ h' = []) := by
 subst hn0_0 hn1_0
 unfold l_eqIntS at H0
 refine ct_of_cw Tryd.func115 rfl Tryd.ntmps115 rfl (Sat.refl _ _) ?_
 refine sr (oS rfl (nn (cw_seq (sr (oM rfl (oD (stp_len Tryd.underlying22 rfl) rfl (oM rfl (oD (stp_len Tryd.underlying22 rfl) rfl (oU rfl (nn (cw_cond rfl (fun h1 => ?_) (fun h1 => ?_))))))))))))
 ·have H0 := cond_t H0 h1
  refine sr (oS rfl (nn (cw_ret (kw_nx_ret ?_))))
  obtain rfl := sI H0
  exact kr Tryd.results115 (rT rfl) [] ⟨rfl, rfl⟩
 have H0 := cond_f H0 h1
 obtain ⟨o0_0, eo0_0, H0⟩ := bS H0
 refine cw_skip (kw_nx (cw_seq (sr (oS rfl (nn (cw_join (ι := Int) (fun | v2 => o0_0 = .out v2) (fun | v2 => [(0, .slice p0_0 ((a0).length) c0_0), (1, .slice p1_0 ((a1).length) c1_0), (5, .int .i64 v2)]) (fun | v2 => []) ?_ ?_))))))
 ·refine cw_block (cw_loopS (ι := Nat × Int) (js := []) (fun x => x.1) (fun | (fuel, v2) => l_eqIntS_L0 fl a0 a1 fuel v2 = some o0_0) (fun | (_, v2) => [(0, .slice p0_0 ((a0).length) c0_0), (1, .slice p1_0 ((a1).length) c1_0), (5, .int .i64 v2)]) (fun | (_, v2) => []) (fl, 0) eo0_0 ⟨rfl, rfl, rfl, trivial⟩ trivial (by decide) ?_)
  rintro ⟨fuel, v2⟩ H1
  have H1 : l_eqIntS_L0 fl a0 a1 fuel v2 = some o0_0 := H1
  rcases fuel with _ | fuel
  ·rw [l_eqIntS_L0.eq_1] at H1; cases H1
  rw [l_eqIntS_L0.eq_2] at H1
  dsimp only
  refine cw_seq (sr (oM rfl (oM rfl (oD (stp_len Tryd.underlying22 rfl) rfl (oW rfl (nn (cw_cond rfl (fun h3 => ?_) (fun h3 => ?_))))))))
  ·have H1 := cond_t H1 h3
   obtain ⟨x4, e4, H1⟩ := bS H1
   obtain ⟨x5, e5, H1⟩ := bS H1
   refine cw_skip (kw_nx (cw_seq (cw_block (cw_seq (rdq g_mixed [0, 1, 5] [] { dst := dS [18, 19, 20, 21, 22, 23, 24, 25, 26], pre := gA [] [[], [], [0, 1], [0, 1, 2], [], [], [4, 5], [4, 5, 6], rn 0 8], ids := fun _ => [], rs := rL [[(0, 0)], [(5, 0)], [(17, 1), (18, 2)], [(19, 3)], [(1, 0)], [(5, 0)], [(21, 5), (22, 6)], [(23, 7)], [(20, 4), (24, 8)]], rh := fun _ => [], V := fun i g => gA undef [.slice p0_0 ((a0).length) c0_0, .int .i64 v2, .pointer (some ⟨eB p0_0, eO p0_0 + Int.toNat v2 * Enc.sz Int + 0, none⟩), .int .i64 x4, .slice p1_0 ((a1).length) c1_0, .int .i64 v2, .pointer (some ⟨eB p1_0, eO p1_0 + Int.toNat v2 * Enc.sz Int + 0, none⟩), .int .i64 x5, .bool (x4 != x5)] i, U := fun _ _ => [], Φ := fun _ _ => True } ?_ ?_)))))
   ·exact ⟨lM, lM, lc rfl rfl fun hs hh => stp_indexAddr Tryd.underlying22 ts3 (by decide) (sv hs 17 rfl) rfl (sv hs 18 rfl) (Rdb.ro hr0_0) e4, lc rfl rfl fun hs hh => stp_load1 ts3 (sv hs 19 rfl) (Cells.el (Rdb.ro hr0_0) (by decide) e4 0 1 rfl), lM, lM, lc rfl rfl fun hs hh => stp_indexAddr Tryd.underlying22 ts3 (by decide) (sv hs 21 rfl) rfl (sv hs 22 rfl) (Rdb.ro hr1_0) e5, lc rfl rfl fun hs hh => stp_load1 ts3 (sv hs 23 rfl) (Cells.el (Rdb.ro hr1_0) (by decide) e5 0 1 rfl), lc rfl rfl fun hs hh => stp_neq (sv hs 20 rfl) (sv hs 24 rfl), trivial⟩
   intro g hΦ
   refine KW.sub (s' := [(0, .slice p0_0 ((a0).length) c0_0), (1, .slice p1_0 ((a1).length) c1_0), (5, .int .i64 v2), (25, .bool (x4 != x5))]) (h' := []) ?_ ⟨rfl, rfl, rfl, rfl, trivial⟩ trivial
   refine kw_nx (cw_cond rfl (fun h6 => ?_) (fun h6 => ?_))
   ·have H1 := cond_t H1 h6
    refine sr (oS rfl (nn (cw_ret (kw_bl_ret (kw_nx_ret (kw_lq_ret (kw_bl_ret (kw_join_ret (kw_nx_ret ?_)))))))))
    obtain rfl := sI H1
    obtain rfl := sI H0
    exact kr Tryd.results115 (rT rfl) [] ⟨rfl, rfl⟩
   have H1 := cond_f H1 h6
   obtain ⟨x7, e7, H1⟩ := bS H1
   exact cw_skip (kw_bl_normal (kw_nx (cw_region (oM rfl (oP e7 rfl (oS rfl (ow_nil (kw_lqS (js := []) (fuel, x7) H1 (Nat.lt_succ_self _) ⟨rfl, rfl, rfl, trivial⟩ trivial (by decide)))))))))
  have H1 := cond_f H1 h3
  refine cw_exit (kw_nx_exit (kw_lq_exit (kw_bl ?_)))
  obtain rfl := sI H1
  exact kw_joinS (js := []) v2 rfl ⟨rfl, rfl, rfl, trivial⟩ trivial (by decide)
 rintro v2 rfl
 dsimp only
 refine kw_nx (sr (oS rfl (nn (cw_ret ?_))))
 obtain rfl := sI H0
 exact kr Tryd.results115 (rT rfl) [] ⟨rfl, rfl⟩

theorem c_l_eqKey (fl : Nat) (w : World) (a0 : K) (a1 : K) (r : Bool) (H0 : l_eqKey fl a0 a1 = some r) :
  Ct Tryd.prog 168 [.agg #[.int .i64 a0.s, .int .i64 a0.p], .agg #[.int .i64 a1.s, .int .i64 a1.p]] w [] (fun rv h' => rv = .bool r ∧ h' = []) := by
 unfold l_eqKey at H0
 refine ct_of_cw Tryd.func168 rfl Tryd.ntmps168 rfl (Sat.refl _ _) ?_
 refine sr (oE (stpU_box 0 rfl rfl) rfl ?_)
 rintro _ _ ⟨b1, rfl, rfl⟩
 refine oE (stpU_box 1 rfl rfl) rfl ?_
 rintro _ _ ⟨b2, rfl, rfl⟩
 refine oS rfl (nn (cw_seq (sr (oA 0 Tryd.underlying46 rfl ts3 rfl (oL 0 ts3 rfl (oA 0 Tryd.underlying46 rfl ts3 rfl (oL 1 ts3 rfl (oU rfl (nn (cw_cond rfl (fun h3 => ?_) (fun h3 => ?_)))))))))))
 ·have H0 := cond_t H0 h3
  refine sr (oS rfl (nn (cw_ret (kw_nx_ret ?_))))
  obtain rfl := sI H0
  exact kr Tryd.results168 (rT rfl) [] ⟨rfl, rfl⟩
 have H0 := cond_f H0 h3
 refine cw_skip (kw_nx (cw_seq (sr (oA 1 Tryd.underlying46 rfl ts3 rfl (oL 0 ts3 rfl (oA 1 Tryd.underlying46 rfl ts3 rfl (oL 1 ts3 rfl (oU rfl (nn (cw_cond rfl (fun h4 => ?_) (fun h4 => ?_)))))))))))
 ·have H0 := cond_t H0 h4
  refine sr (oS rfl (nn (cw_ret (kw_nx_ret ?_))))
  obtain rfl := sI H0
  exact kr Tryd.results168 (rT rfl) [] ⟨rfl, rfl⟩
 have H0 := cond_f H0 h4
 refine cw_skip (kw_nx (sr (oS rfl (nn (cw_ret ?_)))))
 obtain rfl := sI H0
 exact kr Tryd.results168 (rT rfl) [] ⟨rfl, rfl⟩

theorem c_l_eqFrame (fl : Nat) (w : World) (a0 : F) (a1 : F) (r : Bool) (H0 : l_eqFrame fl a0 a1 = some r) :
  Ct Tryd.prog 148 [.agg #[.bool a0.u, .int .i64 a0.k.s, .int .i64 a0.k.p, .int .i64 a0.r, .int .i64 a0.nx], .agg #[.bool a1.u, .int .i64 a1.k.s, .int .i64 a1.k.p, .int .i64 a1.r, .int .i64 a1.nx]] w [] (fun rv h' => rv = .bool r ∧ h' = []) := by
 unfold l_eqFrame at H0
 refine ct_of_cw Tryd.func148 rfl Tryd.ntmps148 rfl (Sat.refl _ _) ?_
 refine sr (oE (stpU_box 0 rfl rfl) rfl ?_)
 rintro _ _ ⟨b1, rfl, rfl⟩
 refine oE (stpU_box 1 rfl rfl) rfl ?_
 rintro _ _ ⟨b2, rfl, rfl⟩
 refine oS rfl (nn (cw_seq (sr (oA 0 Tryd.underlying84 rfl ts4 rfl (oL 0 ts4 rfl (oA 0 Tryd.underlying84 rfl ts4 rfl (oL 1 ts4 rfl (oD (stp_neqB Tryd.underlying4 rfl rfl) rfl (nn (cw_cond rfl (fun h3 => ?_) (fun h3 => ?_)))))))))))
 ·have H0 := cond_t H0 h3
  refine sr (oS rfl (nn (cw_ret (kw_nx_ret ?_))))
  obtain rfl := sI H0
  exact kr Tryd.results148 (rT rfl) [] ⟨rfl, rfl⟩
 have H0 := cond_f H0 h3
 obtain ⟨x4, e4, H0⟩ := bS H0
 refine cw_skip (kw_nx (cw_seq (sr (oA 1 Tryd.underlying84 rfl ts46 rfl (oB2 0 ts46 rfl (oA 1 Tryd.underlying84 rfl ts46 rfl (oB2 1 ts46 rfl (oE (stpU_call (fun i => 2 + i) cf168 (fun w hw => c_l_eqKey fl w a0.k a1.k x4 e4) (yB rfl rfl)) rfl ?_))))))))
 rintro _ _ ⟨_, ⟨rfl, rfl⟩, rfl⟩
 refine oK rfl (nn (cw_cond rfl (fun h5 => ?_) (fun h5 => ?_)))
 ·have H0 := cond_t H0 h5
  refine sr (oS rfl (nn (cw_ret (kw_nx_ret ?_))))
  obtain rfl := sI H0
  exact kr Tryd.results148 (rT rfl) [] ⟨rfl, rfl⟩
 have H0 := cond_f H0 h5
 refine cw_skip (kw_nx (cw_seq (sr (oA 3 Tryd.underlying84 rfl ts3 rfl (oL 0 ts3 rfl (oA 3 Tryd.underlying84 rfl ts3 rfl (oL 1 ts3 rfl (oU rfl (nn (cw_cond rfl (fun h6 => ?_) (fun h6 => ?_)))))))))))
 ·have H0 := cond_t H0 h6
  refine sr (oS rfl (nn (cw_ret (kw_nx_ret ?_))))
  obtain rfl := sI H0
  exact kr Tryd.results148 (rT rfl) [] ⟨rfl, rfl⟩
 have H0 := cond_f H0 h6
 refine cw_skip (kw_nx (cw_seq (sr (oA 4 Tryd.underlying84 rfl ts3 rfl (oL 0 ts3 rfl (oA 4 Tryd.underlying84 rfl ts3 rfl (oL 1 ts3 rfl (oU rfl (nn (cw_cond rfl (fun h7 => ?_) (fun h7 => ?_)))))))))))
 ·have H0 := cond_t H0 h7
  refine sr (oS rfl (nn (cw_ret (kw_nx_ret ?_))))
  obtain rfl := sI H0
  exact kr Tryd.results148 (rT rfl) [] ⟨rfl, rfl⟩
 have H0 := cond_f H0 h7
 refine cw_skip (kw_nx (sr (oS rfl (nn (cw_ret ?_)))))
 obtain rfl := sI H0
 exact kr Tryd.results148 (rT rfl) [] ⟨rfl, rfl⟩

theorem c_l_eqFrameS (fl : Nat) (w : World) (a0 : (List F)) (a1 : (List F)) (hn0_0 : n0_0 = (a0).length) (hr0_0 : RO w (hkeys []) (RdL p0_0 c0_0 a0)) (hn1_0 : n1_0 = (a1).length) (hr1_0 : RO w (hkeys []) (RdL p1_0 c1_0 a1)) (r : Bool) (H0 : l_eqFrameS fl a0 a1 = some r) :
  Ct Tryd.prog 116 [.slice p0_0 n0_0 c0_0, .slice p1_0 n1_0 c1_0] w [] (fun rv h' => rv = .bool r ∧ h' = []) := by
 subst hn0_0 hn1_0
 unfold l_eqFrameS at H0
 refine ct_of_cw Tryd.func116 rfl Tryd.ntmps116 rfl (Sat.refl _ _) ?_
 refine sr (oS rfl (nn (cw_seq (sr (oM rfl (oD (stp_len Tryd.underlying31 rfl) rfl (oM rfl (oD (stp_len Tryd.underlying31 rfl) rfl (oU rfl (nn (cw_cond rfl (fun h1 => ?_) (fun h1 => ?_))))))))))))
 ·have H0 := cond_t H0 h1
  refine sr (oS rfl (nn (cw_ret (kw_nx_ret ?_))))
  obtain rfl := sI H0
  exact kr Tryd.results116 (rT rfl) [] ⟨rfl, rfl⟩
 have H0 := cond_f H0 h1
 obtain ⟨o0_0, eo0_0, H0⟩ := bS H0
 refine cw_skip (kw_nx (cw_seq (sr (oS rfl (nn (cw_join (ι := Int) (fun | v2 => o0_0 = .out v2) (fun | v2 => [(0, .slice p0_0 ((a0).length) c0_0), (1, .slice p1_0 ((a1).length) c1_0), (5, .int .i64 v2)]) (fun | v2 => []) ?_ ?_))))))
 ·refine cw_block (cw_loopS (ι := Nat × Int) (js := []) (fun x => x.1) (fun | (fuel, v2) => l_eqFrameS_L0 fl a0 a1 fuel v2 = some o0_0) (fun | (_, v2) => [(0, .slice p0_0 ((a0).length) c0_0), (1, .slice p1_0 ((a1).length) c1_0), (5, .int .i64 v2)]) (fun | (_, v2) => []) (fl, 0) eo0_0 ⟨rfl, rfl, rfl, trivial⟩ trivial (by decide) ?_)
  rintro ⟨fuel, v2⟩ H1
  have H1 : l_eqFrameS_L0 fl a0 a1 fuel v2 = some o0_0 := H1
  rcases fuel with _ | fuel
  ·rw [l_eqFrameS_L0.eq_1] at H1; cases H1
  rw [l_eqFrameS_L0.eq_2] at H1
  dsimp only
  refine cw_seq (sr (oM rfl (oM rfl (oD (stp_len Tryd.underlying31 rfl) rfl (oW rfl (nn (cw_cond rfl (fun h3 => ?_) (fun h3 => ?_))))))))
  ·have H1 := cond_t H1 h3
   obtain ⟨x4, e4, H1⟩ := bS H1
   obtain ⟨x5, e5, H1⟩ := bS H1
   obtain ⟨x6, e6, H1⟩ := bS H1
   refine cw_skip (kw_nx (cw_seq (cw_block (cw_seq (rdq g_mixed [0, 1, 5] [] { dst := dS [18, 19, 20, 21, 22, 23, 24, 25, 26, 27], pre := gA [] [[], [], [0, 1], [0, 1, 2], [], [], [4, 5], [4, 5, 6], rn 0 8, rn 0 9], ids := fun _ => [], rs := rL [[(0, 0)], [(5, 0)], [(17, 1), (18, 2)], [(19, 3)], [(1, 0)], [(5, 0)], [(21, 5), (22, 6)], [(23, 7)], [(20, 4), (24, 8)], [(25, 9)]], rh := fun _ => [], V := fun i g => gA undef [.slice p0_0 ((a0).length) c0_0, .int .i64 v2, .pointer (some ⟨eB p0_0, eO p0_0 + Int.toNat v2 * Enc.sz F + 0, none⟩), .agg #[.bool x4.u, .int .i64 x4.k.s, .int .i64 x4.k.p, .int .i64 x4.r, .int .i64 x4.nx], .slice p1_0 ((a1).length) c1_0, .int .i64 v2, .pointer (some ⟨eB p1_0, eO p1_0 + Int.toNat v2 * Enc.sz F + 0, none⟩), .agg #[.bool x5.u, .int .i64 x5.k.s, .int .i64 x5.k.p, .int .i64 x5.r, .int .i64 x5.nx], .bool x6, .bool (!x6)] i, U := fun _ _ => [], Φ := fun _ _ => True } ?_ ?_)))))
   ·refine ⟨lM, lM, lc rfl rfl fun hs hh => stp_indexAddr Tryd.underlying31 ts84 (by decide) (sv hs 17 rfl) rfl (sv hs 18 rfl) (Rdb.ro hr0_0) e4, lc rfl rfl fun hs hh => stp_loadN (us := [_, _, _, _, _]) ts84 (sv hs 19 rfl) (Cells.el (Rdb.ro hr0_0) (by decide) e4 0 5 rfl), lM, lM, lc rfl rfl fun hs hh => stp_indexAddr Tryd.underlying31 ts84 (by decide) (sv hs 21 rfl) rfl (sv hs 22 rfl) (Rdb.ro hr1_0) e5, lc rfl rfl fun hs hh => stp_loadN (us := [_, _, _, _, _]) ts84 (sv hs 23 rfl) (Cells.el (Rdb.ro hr1_0) (by decide) e5 0 5 rfl), ?_, lc rfl rfl fun hs hh => stp_not (sv hs 25 rfl), trivial⟩
    refine le rfl rfl (fun g hΦ s h hs hh => (stpU_call (fun i => 0 + i) cf148 (fun w hw => c_l_eqFrame fl w x4 x5 x6 e6) (yB (sv hs 20 rfl) (sv hs 24 rfl)))) ?_
    rintro g _ _ ⟨_, ⟨rfl, rfl⟩, rfl⟩
    exact ⟨⟨[], [], []⟩, trivial, .inr rfl, rfl⟩
   intro g hΦ
   refine KW.sub (s' := [(0, .slice p0_0 ((a0).length) c0_0), (1, .slice p1_0 ((a1).length) c1_0), (5, .int .i64 v2), (26, .bool (!x6))]) (h' := []) ?_ ⟨rfl, rfl, rfl, rfl, trivial⟩ trivial
   refine kw_nx (cw_cond rfl (fun h7 => ?_) (fun h7 => ?_))
   ·have H1 := cond_t H1 h7
    refine sr (oS rfl (nn (cw_ret (kw_bl_ret (kw_nx_ret (kw_lq_ret (kw_bl_ret (kw_join_ret (kw_nx_ret ?_)))))))))
    obtain rfl := sI H1
    obtain rfl := sI H0
    exact kr Tryd.results116 (rT rfl) [] ⟨rfl, rfl⟩
   have H1 := cond_f H1 h7
   obtain ⟨x8, e8, H1⟩ := bS H1
   exact cw_skip (kw_bl_normal (kw_nx (cw_region (oM rfl (oP e8 rfl (oS rfl (ow_nil (kw_lqS (js := []) (fuel, x8) H1 (Nat.lt_succ_self _) ⟨rfl, rfl, rfl, trivial⟩ trivial (by decide)))))))))
  have H1 := cond_f H1 h3
  refine cw_exit (kw_nx_exit (kw_lq_exit (kw_bl ?_)))
  obtain rfl := sI H1
  exact kw_joinS (js := []) v2 rfl ⟨rfl, rfl, rfl, trivial⟩ trivial (by decide)
 rintro v2 rfl
 dsimp only
 refine kw_nx (sr (oS rfl (nn (cw_ret ?_))))
 obtain rfl := sI H0
 exact kr Tryd.results116 (rT rfl) [] ⟨rfl, rfl⟩

theorem c_l_eqTable (fl : Nat) (w : World) (a0 : T) (a1 : T) (hn0_0 : n0_0 = (a0.b).length) (hr0_0 : RO w (hkeys []) (RdL p0_0 c0_0 a0.b)) (hn0_1 : n0_1 = (a0.f).length) (hr0_1 : RO w (hkeys []) (RdL p0_1 c0_1 a0.f)) (hn1_0 : n1_0 = (a1.b).length) (hr1_0 : RO w (hkeys []) (RdL p1_0 c1_0 a1.b)) (hn1_1 : n1_1 = (a1.f).length) (hr1_1 : RO w (hkeys []) (RdL p1_1 c1_1 a1.f)) (r : Bool) (H0 : l_eqTable fl a0 a1 = some r) :
  Ct Tryd.prog 54 [.agg #[.slice p0_0 n0_0 c0_0, .slice p0_1 n0_1 c0_1], .agg #[.slice p1_0 n1_0 c1_0, .slice p1_1 n1_1 c1_1]] w [] (fun rv h' => rv = .bool r ∧ h' = []) := by
 subst hn0_0 hn0_1 hn1_0 hn1_1
 unfold l_eqTable at H0
 refine ct_of_cw Tryd.func54 rfl Tryd.ntmps54 rfl (Sat.refl _ _) ?_
 refine sr (oE (stpU_box 0 rfl rfl) rfl ?_)
 rintro _ _ ⟨b1, rfl, rfl⟩
 refine oE (stpU_box 1 rfl rfl) rfl ?_
 rintro _ _ ⟨b2, rfl, rfl⟩
 obtain ⟨x3, e3, H0⟩ := bS H0
 refine oS rfl (nn (cw_seq (sr (oA 0 Tryd.underlying33 rfl ts22 rfl (oL 0 ts22 rfl (oA 0 Tryd.underlying33 rfl ts22 rfl (oL 1 ts22 rfl (oE (stpU_call (fun i => 2 + i) cf115 (fun w hw => c_l_eqIntS fl w a0.b a1.b rfl (RO.pass hr0_0 hw) rfl (RO.pass hr1_0 hw) x3 e3) (yB rfl rfl)) rfl ?_))))))))
 rintro _ _ ⟨_, ⟨rfl, rfl⟩, rfl⟩
 refine oK rfl (nn (cw_cond rfl (fun h4 => ?_) (fun h4 => ?_)))
 ·have H0 := cond_t H0 h4
  refine sr (oS rfl (nn (cw_ret (kw_nx_ret ?_))))
  obtain rfl := sI H0
  exact kr Tryd.results54 (rT rfl) [] ⟨rfl, rfl⟩
 have H0 := cond_f H0 h4
 obtain ⟨x5, e5, H0⟩ := bS H0
 refine cw_skip (kw_nx (cw_seq (sr (oA 1 Tryd.underlying33 rfl ts31 rfl (oL 0 ts31 rfl (oA 1 Tryd.underlying33 rfl ts31 rfl (oL 1 ts31 rfl (oE (stpU_call (fun i => 2 + i) cf116 (fun w hw => c_l_eqFrameS fl w a0.f a1.f rfl (RO.pass hr0_1 hw) rfl (RO.pass hr1_1 hw) x5 e5) (yB rfl rfl)) rfl ?_))))))))
 rintro _ _ ⟨_, ⟨rfl, rfl⟩, rfl⟩
 refine oK rfl (nn (cw_cond rfl (fun h6 => ?_) (fun h6 => ?_)))
 ·have H0 := cond_t H0 h6
  refine sr (oS rfl (nn (cw_ret (kw_nx_ret ?_))))
  obtain rfl := sI H0
  exact kr Tryd.results54 (rT rfl) [] ⟨rfl, rfl⟩
 have H0 := cond_f H0 h6
 refine cw_skip (kw_nx (sr (oS rfl (nn (cw_ret ?_)))))
 obtain rfl := sI H0
 exact kr Tryd.results54 (rT rfl) [] ⟨rfl, rfl⟩

theorem c_l_eqNote (fl : Nat) (w : World) (a0 : Nt) (a1 : Nt) (r : Bool) (H0 : l_eqNote fl a0 a1 = some r) :
  Ct Tryd.prog 169 [.agg #[.int .i64 a0.k.s, .int .i64 a0.k.p, .int .i64 a0.fr], .agg #[.int .i64 a1.k.s, .int .i64 a1.k.p, .int .i64 a1.fr]] w [] (fun rv h' => rv = .bool r ∧ h' = []) := by
 unfold l_eqNote at H0
 refine ct_of_cw Tryd.func169 rfl Tryd.ntmps169 rfl (Sat.refl _ _) ?_
 refine sr (oE (stpU_box 0 rfl rfl) rfl ?_)
 rintro _ _ ⟨b1, rfl, rfl⟩
 refine oE (stpU_box 1 rfl rfl) rfl ?_
 rintro _ _ ⟨b2, rfl, rfl⟩
 obtain ⟨x3, e3, H0⟩ := bS H0
 refine oS rfl (nn (cw_seq (sr (oA 0 Tryd.underlying48 rfl ts46 rfl (oB2 0 ts46 rfl (oA 0 Tryd.underlying48 rfl ts46 rfl (oB2 1 ts46 rfl (oE (stpU_call (fun i => 2 + i) cf168 (fun w hw => c_l_eqKey fl w a0.k a1.k x3 e3) (yB rfl rfl)) rfl ?_))))))))
 rintro _ _ ⟨_, ⟨rfl, rfl⟩, rfl⟩
 refine oK rfl (nn (cw_cond rfl (fun h4 => ?_) (fun h4 => ?_)))
 ·have H0 := cond_t H0 h4
  refine sr (oS rfl (nn (cw_ret (kw_nx_ret ?_))))
  obtain rfl := sI H0
  exact kr Tryd.results169 (rT rfl) [] ⟨rfl, rfl⟩
 have H0 := cond_f H0 h4
 refine cw_skip (kw_nx (cw_seq (sr (oA 2 Tryd.underlying48 rfl ts3 rfl (oL 0 ts3 rfl (oA 2 Tryd.underlying48 rfl ts3 rfl (oL 1 ts3 rfl (oU rfl (nn (cw_cond rfl (fun h5 => ?_) (fun h5 => ?_)))))))))))
 ·have H0 := cond_t H0 h5
  refine sr (oS rfl (nn (cw_ret (kw_nx_ret ?_))))
  obtain rfl := sI H0
  exact kr Tryd.results169 (rT rfl) [] ⟨rfl, rfl⟩
 have H0 := cond_f H0 h5
 refine cw_skip (kw_nx (sr (oS rfl (nn (cw_ret ?_)))))
 obtain rfl := sI H0
 exact kr Tryd.results169 (rT rfl) [] ⟨rfl, rfl⟩

theorem c_l_eqNoteS (fl : Nat) (w : World) (a0 : (List Nt)) (a1 : (List Nt)) (hn0_0 : n0_0 = (a0).length) (hr0_0 : RO w (hkeys []) (RdL p0_0 c0_0 a0)) (hn1_0 : n1_0 = (a1).length) (hr1_0 : RO w (hkeys []) (RdL p1_0 c1_0 a1)) (r : Bool) (H0 : l_eqNoteS fl a0 a1 = some r) :
  Ct Tryd.prog 149 [.slice p0_0 n0_0 c0_0, .slice p1_0 n1_0 c1_0] w [] (fun rv h' => rv = .bool r ∧ h' = []) := by
 subst hn0_0 hn1_0
 unfold l_eqNoteS at H0
 refine ct_of_cw Tryd.func149 rfl Tryd.ntmps149 rfl (Sat.refl _ _) ?_
 refine sr (oS rfl (nn (cw_seq (sr (oM rfl (oD (stp_len Tryd.underlying42 rfl) rfl (oM rfl (oD (stp_len Tryd.underlying42 rfl) rfl (oU rfl (nn (cw_cond rfl (fun h1 => ?_) (fun h1 => ?_))))))))))))
 ·have H0 := cond_t H0 h1
  refine sr (oS rfl (nn (cw_ret (kw_nx_ret ?_))))
  obtain rfl := sI H0
  exact kr Tryd.results149 (rT rfl) [] ⟨rfl, rfl⟩
 have H0 := cond_f H0 h1
 obtain ⟨o0_0, eo0_0, H0⟩ := bS H0
 refine cw_skip (kw_nx (cw_seq (sr (oS rfl (nn (cw_join (ι := Int) (fun | v2 => o0_0 = .out v2) (fun | v2 => [(0, .slice p0_0 ((a0).length) c0_0), (1, .slice p1_0 ((a1).length) c1_0), (5, .int .i64 v2)]) (fun | v2 => []) ?_ ?_))))))
 ·refine cw_block (cw_loopS (ι := Nat × Int) (js := []) (fun x => x.1) (fun | (fuel, v2) => l_eqNoteS_L0 fl a0 a1 fuel v2 = some o0_0) (fun | (_, v2) => [(0, .slice p0_0 ((a0).length) c0_0), (1, .slice p1_0 ((a1).length) c1_0), (5, .int .i64 v2)]) (fun | (_, v2) => []) (fl, 0) eo0_0 ⟨rfl, rfl, rfl, trivial⟩ trivial (by decide) ?_)
  rintro ⟨fuel, v2⟩ H1
  have H1 : l_eqNoteS_L0 fl a0 a1 fuel v2 = some o0_0 := H1
  rcases fuel with _ | fuel
  ·rw [l_eqNoteS_L0.eq_1] at H1; cases H1
  rw [l_eqNoteS_L0.eq_2] at H1
  dsimp only
  refine cw_seq (sr (oM rfl (oM rfl (oD (stp_len Tryd.underlying42 rfl) rfl (oW rfl (nn (cw_cond rfl (fun h3 => ?_) (fun h3 => ?_))))))))
  ·have H1 := cond_t H1 h3
   obtain ⟨x4, e4, H1⟩ := bS H1
   obtain ⟨x5, e5, H1⟩ := bS H1
   obtain ⟨x6, e6, H1⟩ := bS H1
   refine cw_skip (kw_nx (cw_seq (cw_block (cw_seq (rdq g_mixed [0, 1, 5] [] { dst := dS [18, 19, 20, 21, 22, 23, 24, 25, 26, 27], pre := gA [] [[], [], [0, 1], [0, 1, 2], [], [], [4, 5], [4, 5, 6], rn 0 8, rn 0 9], ids := fun _ => [], rs := rL [[(0, 0)], [(5, 0)], [(17, 1), (18, 2)], [(19, 3)], [(1, 0)], [(5, 0)], [(21, 5), (22, 6)], [(23, 7)], [(20, 4), (24, 8)], [(25, 9)]], rh := fun _ => [], V := fun i g => gA undef [.slice p0_0 ((a0).length) c0_0, .int .i64 v2, .pointer (some ⟨eB p0_0, eO p0_0 + Int.toNat v2 * Enc.sz Nt + 0, none⟩), .agg #[.int .i64 x4.k.s, .int .i64 x4.k.p, .int .i64 x4.fr], .slice p1_0 ((a1).length) c1_0, .int .i64 v2, .pointer (some ⟨eB p1_0, eO p1_0 + Int.toNat v2 * Enc.sz Nt + 0, none⟩), .agg #[.int .i64 x5.k.s, .int .i64 x5.k.p, .int .i64 x5.fr], .bool x6, .bool (!x6)] i, U := fun _ _ => [], Φ := fun _ _ => True } ?_ ?_)))))
   ·refine ⟨lM, lM, lc rfl rfl fun hs hh => stp_indexAddr Tryd.underlying42 ts48 (by decide) (sv hs 17 rfl) rfl (sv hs 18 rfl) (Rdb.ro hr0_0) e4, lc rfl rfl fun hs hh => stp_loadN (us := [_, _, _]) ts48 (sv hs 19 rfl) (Cells.el (Rdb.ro hr0_0) (by decide) e4 0 3 rfl), lM, lM, lc rfl rfl fun hs hh => stp_indexAddr Tryd.underlying42 ts48 (by decide) (sv hs 21 rfl) rfl (sv hs 22 rfl) (Rdb.ro hr1_0) e5, lc rfl rfl fun hs hh => stp_loadN (us := [_, _, _]) ts48 (sv hs 23 rfl) (Cells.el (Rdb.ro hr1_0) (by decide) e5 0 3 rfl), ?_, lc rfl rfl fun hs hh => stp_not (sv hs 25 rfl), trivial⟩
    refine le rfl rfl (fun g hΦ s h hs hh => (stpU_call (fun i => 0 + i) cf169 (fun w hw => c_l_eqNote fl w x4 x5 x6 e6) (yB (sv hs 20 rfl) (sv hs 24 rfl)))) ?_
    rintro g _ _ ⟨_, ⟨rfl, rfl⟩, rfl⟩
    exact ⟨⟨[], [], []⟩, trivial, .inr rfl, rfl⟩
   intro g hΦ
   refine KW.sub (s' := [(0, .slice p0_0 ((a0).length) c0_0), (1, .slice p1_0 ((a1).length) c1_0), (5, .int .i64 v2), (26, .bool (!x6))]) (h' := []) ?_ ⟨rfl, rfl, rfl, rfl, trivial⟩ trivial
   refine kw_nx (cw_cond rfl (fun h7 => ?_) (fun h7 => ?_))
   ·have H1 := cond_t H1 h7
    refine sr (oS rfl (nn (cw_ret (kw_bl_ret (kw_nx_ret (kw_lq_ret (kw_bl_ret (kw_join_ret (kw_nx_ret ?_)))))))))
    obtain rfl := sI H1
    obtain rfl := sI H0
    exact kr Tryd.results149 (rT rfl) [] ⟨rfl, rfl⟩
   have H1 := cond_f H1 h7
   obtain ⟨x8, e8, H1⟩ := bS H1
   exact cw_skip (kw_bl_normal (kw_nx (cw_region (oM rfl (oP e8 rfl (oS rfl (ow_nil (kw_lqS (js := []) (fuel, x8) H1 (Nat.lt_succ_self _) ⟨rfl, rfl, rfl, trivial⟩ trivial (by decide)))))))))
  have H1 := cond_f H1 h3
  refine cw_exit (kw_nx_exit (kw_lq_exit (kw_bl ?_)))
  obtain rfl := sI H1
  exact kw_joinS (js := []) v2 rfl ⟨rfl, rfl, rfl, trivial⟩ trivial (by decide)
 rintro v2 rfl
 dsimp only
 refine kw_nx (sr (oS rfl (nn (cw_ret ?_))))
 obtain rfl := sI H0
 exact kr Tryd.results149 (rT rfl) [] ⟨rfl, rfl⟩

theorem c_l_eqCpu (fl : Nat) (w : World) (a0 : Cp) (a1 : Cp) (hn0_0 : n0_0 = (a0.n).length) (hr0_0 : RO w (hkeys []) (RdL p0_0 c0_0 a0.n)) (hn0_1 : n0_1 = (a0.w).length) (hr0_1 : RO w (hkeys []) (RdL p0_1 c0_1 a0.w)) (hn1_0 : n1_0 = (a1.n).length) (hr1_0 : RO w (hkeys []) (RdL p1_0 c1_0 a1.n)) (hn1_1 : n1_1 = (a1.w).length) (hr1_1 : RO w (hkeys []) (RdL p1_1 c1_1 a1.w)) (r : Bool) (H0 : l_eqCpu fl a0 a1 = some r) :
  Ct Tryd.prog 117 [.agg #[.slice p0_0 n0_0 c0_0, .slice p0_1 n0_1 c0_1], .agg #[.slice p1_0 n1_0 c1_0, .slice p1_1 n1_1 c1_1]] w [] (fun rv h' => rv = .bool r ∧ h' = []) := by
 subst hn0_0 hn0_1 hn1_0 hn1_1
 unfold l_eqCpu at H0
 refine ct_of_cw Tryd.func117 rfl Tryd.ntmps117 rfl (Sat.refl _ _) ?_
 refine sr (oE (stpU_box 0 rfl rfl) rfl ?_)
 rintro _ _ ⟨b1, rfl, rfl⟩
 refine oE (stpU_box 1 rfl rfl) rfl ?_
 rintro _ _ ⟨b2, rfl, rfl⟩
 obtain ⟨x3, e3, H0⟩ := bS H0
 refine oS rfl (nn (cw_seq (sr (oA 0 Tryd.underlying44 rfl ts42 rfl (oL 0 ts42 rfl (oA 0 Tryd.underlying44 rfl ts42 rfl (oL 1 ts42 rfl (oE (stpU_call (fun i => 2 + i) cf149 (fun w hw => c_l_eqNoteS fl w a0.n a1.n rfl (RO.pass hr0_0 hw) rfl (RO.pass hr1_0 hw) x3 e3) (yB rfl rfl)) rfl ?_))))))))
 rintro _ _ ⟨_, ⟨rfl, rfl⟩, rfl⟩
 refine oK rfl (nn (cw_cond rfl (fun h4 => ?_) (fun h4 => ?_)))
 ·have H0 := cond_t H0 h4
  refine sr (oS rfl (nn (cw_ret (kw_nx_ret ?_))))
  obtain rfl := sI H0
  exact kr Tryd.results117 (rT rfl) [] ⟨rfl, rfl⟩
 have H0 := cond_f H0 h4
 obtain ⟨x5, e5, H0⟩ := bS H0
 refine cw_skip (kw_nx (cw_seq (sr (oA 1 Tryd.underlying44 rfl ts42 rfl (oL 0 ts42 rfl (oA 1 Tryd.underlying44 rfl ts42 rfl (oL 1 ts42 rfl (oE (stpU_call (fun i => 2 + i) cf149 (fun w hw => c_l_eqNoteS fl w a0.w a1.w rfl (RO.pass hr0_1 hw) rfl (RO.pass hr1_1 hw) x5 e5) (yB rfl rfl)) rfl ?_))))))))
 rintro _ _ ⟨_, ⟨rfl, rfl⟩, rfl⟩
 refine oK rfl (nn (cw_cond rfl (fun h6 => ?_) (fun h6 => ?_)))
 ·have H0 := cond_t H0 h6
  refine sr (oS rfl (nn (cw_ret (kw_nx_ret ?_))))
  obtain rfl := sI H0
  exact kr Tryd.results117 (rT rfl) [] ⟨rfl, rfl⟩
 have H0 := cond_f H0 h6
 refine cw_skip (kw_nx (sr (oS rfl (nn (cw_ret ?_)))))
 obtain rfl := sI H0
 exact kr Tryd.results117 (rT rfl) [] ⟨rfl, rfl⟩

theorem c_l_eqCpuS (fl : Nat) (w : World) (a0 : (List Cp)) (a1 : (List Cp)) (hn0_0 : n0_0 = (a0).length) (hr0_0 : ROD w (hkeys []) p0_0 c0_0 a0) (hn1_0 : n1_0 = (a1).length) (hr1_0 : ROD w (hkeys []) p1_0 c1_0 a1) (r : Bool) (H0 : l_eqCpuS fl a0 a1 = some r) :
  Ct Tryd.prog 55 [.slice p0_0 n0_0 c0_0, .slice p1_0 n1_0 c1_0] w [] (fun rv h' => rv = .bool r ∧ h' = []) := by
 subst hn0_0 hn1_0
 unfold l_eqCpuS at H0
 refine ct_of_cw Tryd.func55 rfl Tryd.ntmps55 rfl (Sat.refl _ _) ?_
 refine sr (oS rfl (nn (cw_seq (sr (oM rfl (oD (stp_len Tryd.underlying34 rfl) rfl (oM rfl (oD (stp_len Tryd.underlying34 rfl) rfl (oU rfl (nn (cw_cond rfl (fun h1 => ?_) (fun h1 => ?_))))))))))))
 ·have H0 := cond_t H0 h1
  refine sr (oS rfl (nn (cw_ret (kw_nx_ret ?_))))
  obtain rfl := sI H0
  exact kr Tryd.results55 (rT rfl) [] ⟨rfl, rfl⟩
 have H0 := cond_f H0 h1
 obtain ⟨o0_0, eo0_0, H0⟩ := bS H0
 refine cw_skip (kw_nx (cw_seq (sr (oS rfl (nn (cw_join (ι := Int) (fun | v2 => o0_0 = .out v2) (fun | v2 => [(0, .slice p0_0 ((a0).length) c0_0), (1, .slice p1_0 ((a1).length) c1_0), (5, .int .i64 v2)]) (fun | v2 => []) ?_ ?_))))))
 ·refine cw_block (cw_loopS (ι := Nat × Int) (js := []) (fun x => x.1) (fun | (fuel, v2) => l_eqCpuS_L0 fl a0 a1 fuel v2 = some o0_0) (fun | (_, v2) => [(0, .slice p0_0 ((a0).length) c0_0), (1, .slice p1_0 ((a1).length) c1_0), (5, .int .i64 v2)]) (fun | (_, v2) => []) (fl, 0) eo0_0 ⟨rfl, rfl, rfl, trivial⟩ trivial (by decide) ?_)
  rintro ⟨fuel, v2⟩ H1
  have H1 : l_eqCpuS_L0 fl a0 a1 fuel v2 = some o0_0 := H1
  rcases fuel with _ | fuel
  ·rw [l_eqCpuS_L0.eq_1] at H1; cases H1
  rw [l_eqCpuS_L0.eq_2] at H1
  dsimp only
  refine cw_seq (sr (oM rfl (oM rfl (oD (stp_len Tryd.underlying34 rfl) rfl (oW rfl (nn (cw_cond rfl (fun h3 => ?_) (fun h3 => ?_))))))))
  ·have H1 := cond_t H1 h3
   obtain ⟨x4, e4, H1⟩ := bS H1
   refine cw_skip (kw_nx (cw_seq (cw_block (cw_seq ?_))))
   obtain ⟨u5, p6, n7, c8, p9, n10, c11, hw5, hl5, hx5, rfl, hr5, rfl, hs5⟩ := ROD.get hr0_0 e4
   obtain ⟨x12, e12, H1⟩ := bS H1
   obtain ⟨u13, p14, n15, c16, p17, n18, c19, hw13, hl13, hx13, rfl, hr13, rfl, hs13⟩ := ROD.get hr1_0 e12
   obtain ⟨x20, e20, H1⟩ := bS H1
   refine rdq g_mixed [0, 1, 5] [] { dst := dS [18, 19, 20, 21, 22, 23, 24, 25, 26, 27], pre := gA [] [[], [], [0, 1], [0, 1, 2], [], [], [4, 5], [4, 5, 6], rn 0 8, rn 0 9], ids := fun _ => [], rs := rL [[(0, 0)], [(5, 0)], [(17, 1), (18, 2)], [(19, 3)], [(1, 0)], [(5, 0)], [(21, 5), (22, 6)], [(23, 7)], [(20, 4), (24, 8)], [(25, 9)]], rh := fun _ => [], V := fun i g => gA undef [.slice p0_0 ((a0).length) c0_0, .int .i64 v2, .pointer (some ⟨eB p0_0, eO p0_0 + Int.toNat v2 * Enc.sz CpS + 0, none⟩), .agg #[.slice p6 ((x4.n).length) c8, .slice p9 ((x4.w).length) c11], .slice p1_0 ((a1).length) c1_0, .int .i64 v2, .pointer (some ⟨eB p1_0, eO p1_0 + Int.toNat v2 * Enc.sz CpS + 0, none⟩), .agg #[.slice p14 ((x12.n).length) c16, .slice p17 ((x12.w).length) c19], .bool x20, .bool (!x20)] i, U := fun _ _ => [], Φ := fun _ _ => True } ?_ ?_
   ·refine ⟨lM, lM, lc rfl rfl fun hs hh => stp_indexAddr Tryd.underlying34 ts44 (by decide) (sv hs 17 rfl) hl5 (sv hs 18 rfl) (Rdb.ro hw5) hx5, lc rfl rfl fun hs hh => stp_loadN (us := [_, _]) ts44 (sv hs 19 rfl) (Cells.el (Rdb.ro hw5) (by decide) hx5 0 2 rfl), lM, lM, lc rfl rfl fun hs hh => stp_indexAddr Tryd.underlying34 ts44 (by decide) (sv hs 21 rfl) hl13 (sv hs 22 rfl) (Rdb.ro hw13) hx13, lc rfl rfl fun hs hh => stp_loadN (us := [_, _]) ts44 (sv hs 23 rfl) (Cells.el (Rdb.ro hw13) (by decide) hx13 0 2 rfl), ?_, lc rfl rfl fun hs hh => stp_not (sv hs 25 rfl), trivial⟩
    refine le rfl rfl (fun g hΦ s h hs hh => (stpU_call (fun i => 0 + i) cf117 (fun w hw => c_l_eqCpu fl w x4 x12 rfl (RO.pass hr5 hw) rfl (RO.pass hs5 hw) rfl (RO.pass hr13 hw) rfl (RO.pass hs13 hw) x20 e20) (yB (sv hs 20 rfl) (sv hs 24 rfl)))) ?_
    rintro g _ _ ⟨_, ⟨rfl, rfl⟩, rfl⟩
    exact ⟨⟨[], [], []⟩, trivial, .inr rfl, rfl⟩
   intro g hΦ
   refine KW.sub (s' := [(0, .slice p0_0 ((a0).length) c0_0), (1, .slice p1_0 ((a1).length) c1_0), (5, .int .i64 v2), (26, .bool (!x20))]) (h' := []) ?_ ⟨rfl, rfl, rfl, rfl, trivial⟩ trivial
   refine kw_nx (cw_cond rfl (fun h21 => ?_) (fun h21 => ?_))
   ·have H1 := cond_t H1 h21
    refine sr (oS rfl (nn (cw_ret (kw_bl_ret (kw_nx_ret (kw_lq_ret (kw_bl_ret (kw_join_ret (kw_nx_ret ?_)))))))))
    obtain rfl := sI H1
    obtain rfl := sI H0
    exact kr Tryd.results55 (rT rfl) [] ⟨rfl, rfl⟩
   have H1 := cond_f H1 h21
   obtain ⟨x22, e22, H1⟩ := bS H1
   exact cw_skip (kw_bl_normal (kw_nx (cw_region (oM rfl (oP e22 rfl (oS rfl (ow_nil (kw_lqS (js := []) (fuel, x22) H1 (Nat.lt_succ_self _) ⟨rfl, rfl, rfl, trivial⟩ trivial (by decide)))))))))
  have H1 := cond_f H1 h3
  refine cw_exit (kw_nx_exit (kw_lq_exit (kw_bl ?_)))
  obtain rfl := sI H1
  exact kw_joinS (js := []) v2 rfl ⟨rfl, rfl, rfl, trivial⟩ trivial (by decide)
 rintro v2 rfl
 dsimp only
 refine kw_nx (sr (oS rfl (nn (cw_ret ?_))))
 obtain rfl := sI H0
 exact kr Tryd.results55 (rT rfl) [] ⟨rfl, rfl⟩

theorem c_l_eqSystem (fl : Nat) (w : World) (a0 : Sy) (a1 : Sy) (hn0_0 : n0_0 = (a0.t.b).length) (hr0_0 : RO w (hkeys []) (RdL p0_0 c0_0 a0.t.b)) (hn0_1 : n0_1 = (a0.t.f).length) (hr0_1 : RO w (hkeys []) (RdL p0_1 c0_1 a0.t.f)) (hn0_2 : n0_2 = (a0.c).length) (hr0_2 : ROD w (hkeys []) p0_2 c0_2 a0.c) (hn1_0 : n1_0 = (a1.t.b).length) (hr1_0 : RO w (hkeys []) (RdL p1_0 c1_0 a1.t.b)) (hn1_1 : n1_1 = (a1.t.f).length) (hr1_1 : RO w (hkeys []) (RdL p1_1 c1_1 a1.t.f)) (hn1_2 : n1_2 = (a1.c).length) (hr1_2 : ROD w (hkeys []) p1_2 c1_2 a1.c) (r : Bool) (H0 : l_eqSystem fl a0 a1 = some r) :
  Ct Tryd.prog 19 [.agg #[.slice p0_0 n0_0 c0_0, .slice p0_1 n0_1 c0_1, .slice p0_2 n0_2 c0_2], .agg #[.slice p1_0 n1_0 c1_0, .slice p1_1 n1_1 c1_1, .slice p1_2 n1_2 c1_2]] w [] (fun rv h' => rv = .bool r ∧ h' = []) := by
 subst hn0_0 hn0_1 hn0_2 hn1_0 hn1_1 hn1_2
 unfold l_eqSystem at H0
 refine ct_of_cw Tryd.func19 rfl Tryd.ntmps19 rfl (Sat.refl _ _) ?_
 refine sr (oE (stpU_box 0 rfl rfl) rfl ?_)
 rintro _ _ ⟨b1, rfl, rfl⟩
 refine oE (stpU_box 1 rfl rfl) rfl ?_
 rintro _ _ ⟨b2, rfl, rfl⟩
 obtain ⟨x3, e3, H0⟩ := bS H0
 refine oS rfl (nn (cw_seq (sr (oA 0 Tryd.underlying36 rfl ts33 rfl (oB2 0 ts33 rfl (oA 0 Tryd.underlying36 rfl ts33 rfl (oB2 1 ts33 rfl (oE (stpU_call (fun i => 2 + i) cf54 (fun w hw => c_l_eqTable fl w a0.t a1.t rfl (RO.pass hr0_0 hw) rfl (RO.pass hr0_1 hw) rfl (RO.pass hr1_0 hw) rfl (RO.pass hr1_1 hw) x3 e3) (yB rfl rfl)) rfl ?_))))))))
 rintro _ _ ⟨_, ⟨rfl, rfl⟩, rfl⟩
 refine oK rfl (nn (cw_cond rfl (fun h4 => ?_) (fun h4 => ?_)))
 ·have H0 := cond_t H0 h4
  refine sr (oS rfl (nn (cw_ret (kw_nx_ret ?_))))
  obtain rfl := sI H0
  exact kr Tryd.results19 (rT rfl) [] ⟨rfl, rfl⟩
 have H0 := cond_f H0 h4
 obtain ⟨x5, e5, H0⟩ := bS H0
 refine cw_skip (kw_nx (cw_seq (sr (oA 2 Tryd.underlying36 rfl ts34 rfl (oL 0 ts34 rfl (oA 2 Tryd.underlying36 rfl ts34 rfl (oL 1 ts34 rfl (oE (stpU_call (fun i => 2 + i) cf55 (fun w hw => c_l_eqCpuS fl w a0.c a1.c rfl (ROD.pass hr0_2 hw) rfl (ROD.pass hr1_2 hw) x5 e5) (yB rfl rfl)) rfl ?_))))))))
 rintro _ _ ⟨_, ⟨rfl, rfl⟩, rfl⟩
 refine oK rfl (nn (cw_cond rfl (fun h6 => ?_) (fun h6 => ?_)))
 ·have H0 := cond_t H0 h6
  refine sr (oS rfl (nn (cw_ret (kw_nx_ret ?_))))
  obtain rfl := sI H0
  exact kr Tryd.results19 (rT rfl) [] ⟨rfl, rfl⟩
 have H0 := cond_f H0 h6
 refine cw_skip (kw_nx (sr (oS rfl (nn (cw_ret ?_)))))
 obtain rfl := sI H0
 exact kr Tryd.results19 (rT rfl) [] ⟨rfl, rfl⟩
end Go.Proofs.YtfnliecmagnkdaaDoor
