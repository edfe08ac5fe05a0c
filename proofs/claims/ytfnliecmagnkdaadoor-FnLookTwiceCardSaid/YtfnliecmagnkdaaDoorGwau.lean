/- The walks: functions of the program return what their pure functions say. Printed by a program (gen.py). -/
import Derived.Test.YtfnliecmagnkdaaDoorGp
import Derived.Test.YtfnliecmagnkdaaDoorGt
import Derived.Test.YtfnliecmagnkdaaDoorMan
import Derived.Test.YtfnliecmagnkdaaDoorMap
import Derived.Test.YtfnliecmagnkdaaDoorCpy
import Derived.Test.YtfnliecmagnkdaaDoorClr
import Derived.Test.YtfnliecmagnkdaaDoorDp
import Derived.Test.YtfnliecmagnkdaaDoorSrt
import Derived.Test.YtfnliecmagnkdaaDoorE8
import Derived.Test.YtfnliecmagnkdaaDoorGwaf
import Derived.Test.YtfnliecmagnkdaaDoorGwao
import Derived.Test.YtfnliecmagnkdaaDoorGwas
import Derived.Test.YtfnliecmagnkdaaDoorGwat
set_option linter.unusedSimpArgs false
set_option linter.unusedVariables false
set_option linter.unusedSectionVars false
namespace Go.Proofs.YtfnliecmagnkdaaDoor
open Go.RowKit
set_option maxHeartbeats 4000000
set_option maxRecDepth 20000
variable {p0_0 : Option Addr} {n0_0 : Nat} {c0_0 : Nat}
theorem c_l_FnLookTwice (fl : Nat) (w : World) (a0 : (List UInt8)) (hn0_0 : n0_0 = (a0).length) (hr0_0 : RO w (hkeys []) (RdL p0_0 c0_0 a0)) (hg : RO w (hkeys []) (fun w' => w'.rangeAt 0 0 [.bool false, .int .i64 0, .int .i64 0, .int .i64 0, .int .i64 (-1)])) (r : Bool) (H0 : l_FnLookTwice fl a0 = some r) :
  Ct Tryd.prog 7 [.slice p0_0 n0_0 c0_0] w [] (fun rv h' => rv = .bool r ∧ h' = []) := by
 subst hn0_0
 unfold l_FnLookTwice at H0
 refine ct_of_cw Tryd.func7 rfl Tryd.ntmps7 rfl (Sat.refl _ _) ?_
 refine sr (oS rfl (nn (cw_seq (sr (oM rfl (oD (stp_len Tryd.underlying40 rfl) rfl (oJ rfl (nn (cw_cond rfl (fun h1 => ?_) (fun h1 => ?_))))))))))
 ·have H0 := cond_t H0 h1
  refine sr (oS rfl (nn (cw_ret (kw_nx_ret ?_))))
  obtain rfl := sI H0
  exact kr Tryd.results7 (rT rfl) [] ⟨rfl, rfl⟩
 have H0 := cond_f H0 h1
 obtain ⟨x2, e2, H0⟩ := bS H0
 refine cw_skip (kw_nx (sr (oM rfl (oE (stpU_call (fun i => 0 + i) cf25 (fun w hw => c_s_DrawLookCpu fl w a0 rfl (RO.pass hr0_0 hw) x2 e2) (yA rfl)) rfl ?_))))
 rintro _ _ ⟨_, ⟨p3, _, c5, C6, p7, _, c9, C10, p11, _, c13, C14, rfl, rfl, rfl, o6, rfl, o10, rfl, o14⟩, rfl⟩
 refine oM rfl (oT rfl (oT rfl (oT rfl (oE (stpU_alloc 3 tz36 rfl) rfl ?_))))
 rintro _ _ ⟨b15, rfl, rfl⟩
 refine oE (stpU_alloc 4 tz46 rfl) rfl ?_
 rintro _ _ ⟨b16, rfl, rfl⟩
 obtain ⟨x17, e17, H0⟩ := bS H0
 refine oC3 3 ts36 rfl rfl (oS rfl (oC2 4 ts46 rfl rfl (nn (sr (oB3 3 ts36 rfl (oM rfl (oB2 4 ts46 rfl (oE (stpU_call (fun i => 5 + i) cf26 (fun w hw => c_i_LookCpu fl w x2.1 x2.2.1 x2.2.2 rfl (OwnC.pass (id := 0) rfl o6 hw) rfl (OwnC.pass (id := 1) rfl o10 hw) rfl (OwnD.pass (id := 2) rfl o14 hw) (RO.pass hg hw) x17 e17) (yC rfl rfl rfl)) rfl ?_))))))))
 rintro _ _ ⟨_, ⟨p18, _, c20, C21, p22, _, c24, C25, p26, _, c28, C29, rfl, rfl, rfl, o21, rfl, o25, rfl, o29⟩, rfl⟩
 refine oM rfl (oT rfl (oT rfl (oT rfl (oT rfl (oE (stpU_alloc 8 tz36 rfl) rfl ?_)))))
 rintro _ _ ⟨b30, rfl, rfl⟩
 obtain ⟨x31, e31, H0⟩ := bS H0
 refine oC3 8 ts36 rfl rfl (oS rfl (oS rfl (oS rfl (nn (sr (oB3 3 ts36 rfl (oM rfl (oB2 4 ts46 rfl (oE (stpU_call (fun i => 9 + i) cf27 (fun w hw => c_s_LookCpu fl w x2.1 x2.2.1 x2.2.2 rfl (OwnC.pass (id := 0) rfl o6 hw) rfl (OwnC.pass (id := 1) rfl o10 hw) rfl (OwnD.pass (id := 2) rfl o14 hw) x31 e31) (yC rfl rfl rfl)) rfl ?_)))))))))
 rintro _ _ ⟨_, ⟨p32, _, c34, C35, p36, _, c38, C39, p40, _, c42, C43, rfl, rfl, rfl, o35, rfl, o39, rfl, o43⟩, rfl⟩
 refine oM rfl (oT rfl (oT rfl (oT rfl (oT rfl (oE (stpU_alloc 12 tz36 rfl) rfl ?_)))))
 rintro _ _ ⟨b44, rfl, rfl⟩
 obtain ⟨x45, e45, H0⟩ := bS H0
 refine oC3 12 ts36 rfl rfl (oS rfl (oS rfl (oS rfl (nn (cw_seq (sr (oB3 8 ts36 rfl (oB3 12 ts36 rfl (oE (stpU_call (fun i => 13 + i) cf23 (fun w hw => c_i_SystemSame fl w x17.1 x31.1 rfl (OwnC.pass (id := 5) rfl o21 hw) rfl (OwnC.pass (id := 6) rfl o25 hw) rfl (OwnD.pass (id := 7) rfl o29 hw) rfl (OwnC.pass (id := 9) rfl o35 hw) rfl (OwnC.pass (id := 10) rfl o39 hw) rfl (OwnD.pass (id := 11) rfl o43 hw) x45 e45) (yB rfl rfl)) rfl ?_)))))))))
 rintro _ _ ⟨_, ⟨rfl, rfl⟩, rfl⟩
 obtain ⟨y46, ey46, H0⟩ := bS H0
 refine oK rfl (oM rfl (ow_cutY 4 53 y46 ?_ ?_))
 ·rcases Bool.eq_false_or_eq_true (!x45) with hy46 | hy46
  ·have ey46 := cond_t ey46 hy46
   refine oO rfl hy46 rfl (oO rfl hy46 rfl (oO rfl hy46 rfl (oD (stp_pick_t rfl hy46 rfl) rfl ?_)))
   obtain rfl := sI ey46
   exact ow_nil (jy 4 0)
  have ey46 := cond_f ey46 hy46
  refine oG rfl hy46 (mv rfl) rfl (oG rfl hy46 (mv rfl) rfl (oG rfl hy46 (stp_neq rfl rfl) rfl (oD (stp_pick_f rfl hy46 rfl) rfl ?_)))
  obtain rfl := sI ey46
  exact ow_nil (jy 4 0)
 obtain ⟨y47, ey47, H0⟩ := bS H0
 refine oM rfl (ow_cutY 4 58 y47 ?_ ?_)
 ·rcases Bool.eq_false_or_eq_true y46 with hy47 | hy47
  ·have ey47 := cond_t ey47 hy47
   refine oO rfl hy47 rfl (oO rfl hy47 rfl (oO rfl hy47 rfl (oD (stp_pick_t rfl hy47 rfl) rfl ?_)))
   obtain rfl := sI ey47
   exact ow_nil (jy 4 0)
  have ey47 := cond_f ey47 hy47
  refine oG rfl hy47 (mv rfl) rfl (oG rfl hy47 (mv rfl) rfl (oG rfl hy47 (stp_neq rfl rfl) rfl (oD (stp_pick_f rfl hy47 rfl) rfl ?_)))
  obtain rfl := sI ey47
  exact ow_nil (jy 4 0)
 obtain ⟨y48, ey48, H0⟩ := bS H0
 refine oM rfl (ow_cutY 4 63 y48 ?_ ?_)
 ·rcases Bool.eq_false_or_eq_true y47 with hy48 | hy48
  ·have ey48 := cond_t ey48 hy48
   refine oO rfl hy48 rfl (oO rfl hy48 rfl (oO rfl hy48 rfl (oD (stp_pick_t rfl hy48 rfl) rfl ?_)))
   obtain rfl := sI ey48
   exact ow_nil (jy 4 0)
  have ey48 := cond_f ey48 hy48
  refine oG rfl hy48 (mv rfl) rfl (oG rfl hy48 (mv rfl) rfl (oG rfl hy48 (stp_neqB Tryd.underlying4 rfl rfl) rfl (oD (stp_pick_f rfl hy48 rfl) rfl ?_)))
  obtain rfl := sI ey48
  exact ow_nil (jy 4 0)
 obtain ⟨y49, ey49, H0⟩ := bS H0
 refine oM rfl (ow_cutY 3 67 y49 ?_ ?_)
 ·rcases Bool.eq_false_or_eq_true y48 with hy49 | hy49
  ·have ey49 := cond_t ey49 hy49
   refine oO rfl hy49 rfl (oO rfl hy49 rfl (oD (stp_pick_t rfl hy49 rfl) rfl ?_))
   obtain rfl := sI ey49
   exact ow_nil (jy 3 0)
  have ey49 := cond_f ey49 hy49
  refine oG rfl hy49 (mv rfl) rfl (oG rfl hy49 (stp_not rfl) rfl (oD (stp_pick_f rfl hy49 rfl) rfl ?_))
  obtain rfl := sI ey49
  exact ow_nil (jy 3 0)
 refine ow_nil (kw_nx (cw_cond rfl (fun h50 => ?_) (fun h50 => ?_)))
 ·have H0 := cond_t H0 h50
  refine sr (oB3 8 ts36 rfl (oB3 12 ts36 rfl (oE (stpU_call (fun i => 13 + i) cf23 (fun w hw => c_i_SystemSame fl w x17.1 x31.1 rfl (OwnC.pass (id := 5) rfl o21 hw) rfl (OwnC.pass (id := 6) rfl o25 hw) rfl (OwnD.pass (id := 7) rfl o29 hw) rfl (OwnC.pass (id := 9) rfl o35 hw) rfl (OwnC.pass (id := 10) rfl o39 hw) rfl (OwnD.pass (id := 11) rfl o43 hw) x45 e45) (yB rfl rfl)) rfl ?_)))
  rintro _ _ ⟨_, ⟨rfl, rfl⟩, rfl⟩
  obtain ⟨y51, ey51, H0⟩ := bS H0
  refine oM rfl (ow_cutY 4 75 y51 ?_ ?_)
  ·rcases Bool.eq_false_or_eq_true x45 with hy51 | hy51
   ·have ey51 := cond_t ey51 hy51
    refine oG rfl hy51 (mv rfl) rfl (oG rfl hy51 (mv rfl) rfl (oG rfl hy51 (stp_eql rfl rfl) rfl (oD (stp_pick_t rfl hy51 rfl) rfl ?_)))
    obtain rfl := sI ey51
    exact ow_nil (jy 4 0)
   have ey51 := cond_f ey51 hy51
   refine oO rfl hy51 rfl (oO rfl hy51 rfl (oO rfl hy51 rfl (oD (stp_pick_f rfl hy51 rfl) rfl ?_)))
   obtain rfl := sI ey51
   exact ow_nil (jy 4 0)
  obtain ⟨y52, ey52, H0⟩ := bS H0
  refine oM rfl (ow_cutY 4 80 y52 ?_ ?_)
  ·rcases Bool.eq_false_or_eq_true y51 with hy52 | hy52
   ·have ey52 := cond_t ey52 hy52
    refine oG rfl hy52 (mv rfl) rfl (oG rfl hy52 (mv rfl) rfl (oG rfl hy52 (stp_eql rfl rfl) rfl (oD (stp_pick_t rfl hy52 rfl) rfl ?_)))
    obtain rfl := sI ey52
    exact ow_nil (jy 4 0)
   have ey52 := cond_f ey52 hy52
   refine oO rfl hy52 rfl (oO rfl hy52 rfl (oO rfl hy52 rfl (oD (stp_pick_f rfl hy52 rfl) rfl ?_)))
   obtain rfl := sI ey52
   exact ow_nil (jy 4 0)
  obtain ⟨y53, ey53, H0⟩ := bS H0
  refine oM rfl (ow_cutY 4 85 y53 ?_ ?_)
  ·rcases Bool.eq_false_or_eq_true y52 with hy53 | hy53
   ·have ey53 := cond_t ey53 hy53
    refine oG rfl hy53 (mv rfl) rfl (oG rfl hy53 (mv rfl) rfl (oG rfl hy53 (stp_eqlB Tryd.underlying4 rfl rfl) rfl (oD (stp_pick_t rfl hy53 rfl) rfl ?_)))
    obtain rfl := sI ey53
    exact ow_nil (jy 4 0)
   have ey53 := cond_f ey53 hy53
   refine oO rfl hy53 rfl (oO rfl hy53 rfl (oO rfl hy53 rfl (oD (stp_pick_f rfl hy53 rfl) rfl ?_)))
   obtain rfl := sI ey53
   exact ow_nil (jy 4 0)
  refine oS rfl (nn (cw_ret (kw_nx_ret ?_)))
  obtain rfl := sI H0
  exact kr Tryd.results7 (rT rfl) [] ⟨rfl, rfl⟩
 have H0 := cond_f H0 h50
 obtain ⟨x54, e54, H0⟩ := bS H0
 refine cw_skip (kw_nx (sr (oB3 8 ts36 rfl (oM rfl (oB2 4 ts46 rfl (oE (stpU_call (fun i => 13 + i) cf26 (fun w hw => c_i_LookCpu fl w x17.1 x2.2.1 x2.2.2 rfl (OwnC.pass (id := 5) rfl o21 hw) rfl (OwnC.pass (id := 6) rfl o25 hw) rfl (OwnD.pass (id := 7) rfl o29 hw) (RO.pass hg hw) x54 e54) (yC rfl rfl rfl)) rfl ?_))))))
 rintro _ _ ⟨_, ⟨p55, _, c57, C58, p59, _, c61, C62, p63, _, c65, C66, rfl, rfl, rfl, o58, rfl, o62, rfl, o66⟩, rfl⟩
 refine oM rfl (oT rfl (oT rfl (oT rfl (oT rfl (oE (stpU_alloc 16 tz36 rfl) rfl ?_)))))
 rintro _ _ ⟨b67, rfl, rfl⟩
 refine oC3 16 ts36 rfl rfl (oS rfl (oS rfl (oS rfl (nn (cw_seq (sr (oM rfl (oQ rfl (nn (cw_cond rfl (fun h68 => ?_) (fun h68 => ?_)))))))))))
 ·have H0 := cond_t H0 h68
  obtain ⟨y69, ey69, H0⟩ := bS H0
  refine sr (oM rfl (oM rfl (ow_cutY 3 101 y69 ?_ ?_)))
  ·rcases Bool.eq_false_or_eq_true x54.2.2.2 with hy69 | hy69
   ·have ey69 := cond_t ey69 hy69
    refine oG rfl hy69 (mv rfl) rfl (oG rfl hy69 (stp_eql rfl rfl) rfl (oD (stp_pick_t rfl hy69 rfl) rfl ?_))
    obtain rfl := sI ey69
    exact ow_nil (jy 3 0)
   have ey69 := cond_f ey69 hy69
   refine oO rfl hy69 rfl (oO rfl hy69 rfl (oD (stp_pick_f rfl hy69 rfl) rfl ?_))
   obtain rfl := sI ey69
   exact ow_nil (jy 3 0)
  obtain ⟨y70, ey70, H0⟩ := bS H0
  refine oM rfl (ow_cutY 4 106 y70 ?_ ?_)
  ·rcases Bool.eq_false_or_eq_true y69 with hy70 | hy70
   ·have ey70 := cond_t ey70 hy70
    obtain ⟨x71, e71, ey70⟩ := bS ey70
    refine oG rfl hy70 (stp_loadN (us := [_, _, _]) ts36 rfl (Cells.box (id := 8) rfl 3 rfl)) rfl (oG rfl hy70 (stp_loadN (us := [_, _, _]) ts36 rfl (Cells.box (id := 3) rfl 3 rfl)) rfl (ow_eff (.some rfl hy70) (stpU_call (fun i => 17 + i) cf23 (fun w hw => c_i_SystemSame fl w x17.1 x2.1 rfl (OwnC.pass (id := 5) rfl o21 hw) rfl (OwnC.pass (id := 6) rfl o25 hw) rfl (OwnD.pass (id := 7) rfl o29 hw) rfl (OwnC.pass (id := 0) rfl o6 hw) rfl (OwnC.pass (id := 1) rfl o10 hw) rfl (OwnD.pass (id := 2) rfl o14 hw) x71 e71) (yB rfl rfl)) rfl ?_))
    rintro _ _ ⟨_, ⟨rfl, rfl⟩, rfl⟩
    refine oD (stp_pick_t rfl hy70 rfl) rfl ?_
    obtain rfl := sI ey70
    exact ow_nil (jy 4 0)
   have ey70 := cond_f ey70 hy70
   refine oO rfl hy70 rfl (oO rfl hy70 rfl (oO rfl hy70 rfl (oD (stp_pick_f rfl hy70 rfl) rfl ?_)))
   obtain rfl := sI ey70
   exact ow_nil (jy 4 0)
  refine oS rfl (nn (cw_ret (kw_nx_ret ?_)))
  obtain rfl := sI H0
  exact kr Tryd.results7 (rT rfl) [] ⟨rfl, rfl⟩
 have H0 := cond_f H0 h68
 obtain ⟨y72, ey72, H0⟩ := bS H0
 refine cw_skip (kw_nx (sr (oM rfl (oM rfl (ow_cutY 3 111 y72 ?_ ?_)))))
 ·rcases Bool.eq_false_or_eq_true x54.2.2.2 with hy72 | hy72
  ·have ey72 := cond_t ey72 hy72
   refine oG rfl hy72 (mv rfl) rfl (oG rfl hy72 (stp_eql rfl rfl) rfl (oD (stp_pick_t rfl hy72 rfl) rfl ?_))
   obtain rfl := sI ey72
   exact ow_nil (jy 3 0)
  have ey72 := cond_f ey72 hy72
  refine oO rfl hy72 rfl (oO rfl hy72 rfl (oD (stp_pick_f rfl hy72 rfl) rfl ?_))
  obtain rfl := sI ey72
  exact ow_nil (jy 3 0)
 obtain ⟨y73, ey73, H0⟩ := bS H0
 refine oM rfl (ow_cutY 4 116 y73 ?_ ?_)
 ·rcases Bool.eq_false_or_eq_true y72 with hy73 | hy73
  ·have ey73 := cond_t ey73 hy73
   refine oG rfl hy73 (mv rfl) rfl (oG rfl hy73 (mv rfl) rfl (oG rfl hy73 (stp_eql rfl rfl) rfl (oD (stp_pick_t rfl hy73 rfl) rfl ?_)))
   obtain rfl := sI ey73
   exact ow_nil (jy 4 0)
  have ey73 := cond_f ey73 hy73
  refine oO rfl hy73 rfl (oO rfl hy73 rfl (oO rfl hy73 rfl (oD (stp_pick_f rfl hy73 rfl) rfl ?_)))
  obtain rfl := sI ey73
  exact ow_nil (jy 4 0)
 obtain ⟨y74, ey74, H0⟩ := bS H0
 refine oM rfl (ow_cutY 4 121 y74 ?_ ?_)
 ·rcases Bool.eq_false_or_eq_true y73 with hy74 | hy74
  ·have ey74 := cond_t ey74 hy74
   obtain ⟨x75, e75, ey74⟩ := bS ey74
   refine oG rfl hy74 (stp_loadN (us := [_, _, _]) ts36 rfl (Cells.box (id := 16) rfl 3 rfl)) rfl (oG rfl hy74 (stp_loadN (us := [_, _, _]) ts36 rfl (Cells.box (id := 8) rfl 3 rfl)) rfl (ow_eff (.some rfl hy74) (stpU_call (fun i => 17 + i) cf23 (fun w hw => c_i_SystemSame fl w x54.1 x17.1 rfl (OwnC.pass (id := 13) rfl o58 hw) rfl (OwnC.pass (id := 14) rfl o62 hw) rfl (OwnD.pass (id := 15) rfl o66 hw) rfl (OwnC.pass (id := 5) rfl o21 hw) rfl (OwnC.pass (id := 6) rfl o25 hw) rfl (OwnD.pass (id := 7) rfl o29 hw) x75 e75) (yB rfl rfl)) rfl ?_))
   rintro _ _ ⟨_, ⟨rfl, rfl⟩, rfl⟩
   refine oD (stp_pick_t rfl hy74 rfl) rfl ?_
   obtain rfl := sI ey74
   exact ow_nil (jy 4 0)
  have ey74 := cond_f ey74 hy74
  refine oO rfl hy74 rfl (oO rfl hy74 rfl (oO rfl hy74 rfl (oD (stp_pick_f rfl hy74 rfl) rfl ?_)))
  obtain rfl := sI ey74
  exact ow_nil (jy 4 0)
 refine oS rfl (nn (cw_ret ?_))
 obtain rfl := sI H0
 exact kr Tryd.results7 (rT rfl) [] ⟨rfl, rfl⟩
end Go.Proofs.YtfnliecmagnkdaaDoor
