/- The walks: functions of the program return what their pure functions say. Printed by a program (gen.py). -/
import Derived.Test.YtkohlcjdagckhaaGreatDoorKp
import Derived.Test.YtkohlcjdagckhaaGreatDoorKt
import Derived.Test.YtkohlcjdagckhaaGreatDoorMan
import Derived.Test.YtkohlcjdagckhaaGreatDoorMap
import Derived.Test.YtkohlcjdagckhaaGreatDoorCpy
import Derived.Test.YtkohlcjdagckhaaGreatDoorE9
import Derived.Test.YtkohlcjdagckhaaGreatDoorKwab
import Derived.Test.YtkohlcjdagckhaaGreatDoorKwac
import Derived.Test.YtkohlcjdagckhaaGreatDoorKwad
set_option linter.unusedSimpArgs false
set_option linter.unusedVariables false
set_option linter.unusedSectionVars false
namespace Go.Proofs.YtkohlcjdagckhaaGreatDoor
open Go.RowKit
set_option maxHeartbeats 4000000
set_option maxRecDepth 20000
variable {p0_0 : Option Addr} {n0_0 : Nat} {c0_0 : Nat}
theorem c_l_FnTouchTwice (fl : Nat) (w : World) (a0 : (List UInt8)) (hn0_0 : n0_0 = (a0).length) (hr0_0 : RO w (hkeys []) (RdL p0_0 c0_0 a0)) (hg : RO w (hkeys []) (fun w' => w'.rangeAt 0 0 [.bool false, .int .i64 0, .int .i64 0, .int .i64 0, .int .i64 (-1)])) (r : Bool) (H0 : l_FnTouchTwice fl a0 = some r) :
  Ct Tryz.prog 8 [.slice p0_0 n0_0 c0_0] w [] (fun rv h' => rv = .bool r ∧ h' = []) := by
 subst hn0_0
 unfold l_FnTouchTwice at H0
 refine ct_of_cw Tryz.func8 rfl Tryz.ntmps8 rfl (Sat.refl _ _) ?_
 refine sr (oS rfl (nn (cw_seq (sr (oM rfl (oD (stp_len Tryz.underlying22 rfl) rfl (oJ rfl (nn (cw_cond rfl (fun h1 => ?_) (fun h1 => ?_))))))))))
 ·have H0 := cond_t H0 h1
  refine sr (oS rfl (nn (cw_ret (kw_nx_ret ?_))))
  obtain rfl := sI H0
  exact kr Tryz.results8 (rT rfl) [] ⟨rfl, rfl⟩
 have H0 := cond_f H0 h1
 obtain ⟨x2, e2, H0⟩ := bS H0
 refine cw_skip (kw_nx (sr (oM rfl (oE (stpU_call (fun i => 0 + i) cf30 (fun w hw => c_s_DrawTouchPage fl w a0 rfl (RO.pass hr0_0 hw) x2 e2) (yA rfl)) rfl ?_))))
 rintro _ _ ⟨_, ⟨p3, _, c5, C6, p7, _, c9, C10, p11, _, c13, C14, p15, _, c17, C18, rfl, rfl, rfl, o6, rfl, o10, rfl, o14, rfl, o18⟩, rfl⟩
 refine oM rfl (oT rfl (oT rfl (oT rfl (oE (stpU_alloc 4 tz34 rfl) rfl ?_))))
 rintro _ _ ⟨b19, rfl, rfl⟩
 obtain ⟨x20, e20, H0⟩ := bS H0
 refine oC9 4 ts34 rfl rfl (oS rfl (oS rfl (nn (sr (oB9 4 ts34 rfl (oM rfl (oM rfl (oE (stpU_call (fun i => 5 + i) cf31 (fun w hw => c_i_TouchPage fl w x2.1 x2.2.1 x2.2.2 rfl (OwnC.pass (id := 0) rfl o6 hw) rfl (OwnC.pass (id := 1) rfl o10 hw) rfl (OwnC.pass (id := 2) rfl o14 hw) rfl (OwnC.pass (id := 3) rfl o18 hw) (RO.pass hg hw) x20 e20) (yC rfl rfl rfl)) rfl ?_))))))))
 rintro _ _ ⟨_, ⟨p21, _, c23, C24, p25, _, c27, C28, p29, _, c31, C32, p33, _, c35, C36, rfl, rfl, rfl, o24, rfl, o28, rfl, o32, rfl, o36⟩, rfl⟩
 refine oM rfl (oT rfl (oT rfl (oT rfl (oT rfl (oE (stpU_alloc 9 tz34 rfl) rfl ?_)))))
 rintro _ _ ⟨b37, rfl, rfl⟩
 obtain ⟨x38, e38, H0⟩ := bS H0
 refine oC9 9 ts34 rfl rfl (oS rfl (oS rfl (oS rfl (nn (sr (oB9 4 ts34 rfl (oM rfl (oM rfl (oE (stpU_call (fun i => 10 + i) cf32 (fun w hw => c_s_TouchPage fl w x2.1 x2.2.1 x2.2.2 rfl (OwnC.pass (id := 0) rfl o6 hw) rfl (OwnC.pass (id := 1) rfl o10 hw) rfl (OwnC.pass (id := 2) rfl o14 hw) rfl (OwnC.pass (id := 3) rfl o18 hw) x38 e38) (yC rfl rfl rfl)) rfl ?_)))))))))
 rintro _ _ ⟨_, ⟨p39, _, c41, C42, p43, _, c45, C46, p47, _, c49, C50, p51, _, c53, C54, rfl, rfl, rfl, o42, rfl, o46, rfl, o50, rfl, o54⟩, rfl⟩
 refine oM rfl (oT rfl (oT rfl (oT rfl (oT rfl (oE (stpU_alloc 14 tz34 rfl) rfl ?_)))))
 rintro _ _ ⟨b55, rfl, rfl⟩
 obtain ⟨x56, e56, H0⟩ := bS H0
 refine oC9 14 ts34 rfl rfl (oS rfl (oS rfl (oS rfl (nn (cw_seq (sr (oB9 9 ts34 rfl (oB9 14 ts34 rfl (oE (stpU_call (fun i => 15 + i) cf18 (fun w hw => c_i_MachineSame fl w x20.1 x38.1 rfl (OwnC.pass (id := 5) rfl o24 hw) rfl (OwnC.pass (id := 6) rfl o28 hw) rfl (OwnC.pass (id := 7) rfl o32 hw) rfl (OwnC.pass (id := 8) rfl o36 hw) rfl (OwnC.pass (id := 10) rfl o42 hw) rfl (OwnC.pass (id := 11) rfl o46 hw) rfl (OwnC.pass (id := 12) rfl o50 hw) rfl (OwnC.pass (id := 13) rfl o54 hw) x56 e56) (yB rfl rfl)) rfl ?_)))))))))
 rintro _ _ ⟨_, ⟨rfl, rfl⟩, rfl⟩
 obtain ⟨y57, ey57, H0⟩ := bS H0
 refine oK rfl (oM rfl (ow_cutY 4 53 y57 ?_ ?_))
 ·rcases Bool.eq_false_or_eq_true (!x56) with hy57 | hy57
  ·have ey57 := cond_t ey57 hy57
   refine oO rfl hy57 rfl (oO rfl hy57 rfl (oO rfl hy57 rfl (oD (stp_pick_t rfl hy57 rfl) rfl ?_)))
   obtain rfl := sI ey57
   exact ow_nil (jy 4 0)
  have ey57 := cond_f ey57 hy57
  refine oG rfl hy57 (mv rfl) rfl (oG rfl hy57 (mv rfl) rfl (oG rfl hy57 (stp_neq rfl rfl) rfl (oD (stp_pick_f rfl hy57 rfl) rfl ?_)))
  obtain rfl := sI ey57
  exact ow_nil (jy 4 0)
 obtain ⟨y58, ey58, H0⟩ := bS H0
 refine oM rfl (ow_cutY 4 58 y58 ?_ ?_)
 ·rcases Bool.eq_false_or_eq_true y57 with hy58 | hy58
  ·have ey58 := cond_t ey58 hy58
   refine oO rfl hy58 rfl (oO rfl hy58 rfl (oO rfl hy58 rfl (oD (stp_pick_t rfl hy58 rfl) rfl ?_)))
   obtain rfl := sI ey58
   exact ow_nil (jy 4 0)
  have ey58 := cond_f ey58 hy58
  refine oG rfl hy58 (mv rfl) rfl (oG rfl hy58 (mv rfl) rfl (oG rfl hy58 (stp_neq rfl rfl) rfl (oD (stp_pick_f rfl hy58 rfl) rfl ?_)))
  obtain rfl := sI ey58
  exact ow_nil (jy 4 0)
 obtain ⟨y59, ey59, H0⟩ := bS H0
 refine oM rfl (ow_cutY 4 63 y59 ?_ ?_)
 ·rcases Bool.eq_false_or_eq_true y58 with hy59 | hy59
  ·have ey59 := cond_t ey59 hy59
   refine oO rfl hy59 rfl (oO rfl hy59 rfl (oO rfl hy59 rfl (oD (stp_pick_t rfl hy59 rfl) rfl ?_)))
   obtain rfl := sI ey59
   exact ow_nil (jy 4 0)
  have ey59 := cond_f ey59 hy59
  refine oG rfl hy59 (mv rfl) rfl (oG rfl hy59 (mv rfl) rfl (oG rfl hy59 (stp_neqB Tryz.underlying4 rfl rfl) rfl (oD (stp_pick_f rfl hy59 rfl) rfl ?_)))
  obtain rfl := sI ey59
  exact ow_nil (jy 4 0)
 obtain ⟨y60, ey60, H0⟩ := bS H0
 refine oM rfl (ow_cutY 3 67 y60 ?_ ?_)
 ·rcases Bool.eq_false_or_eq_true y59 with hy60 | hy60
  ·have ey60 := cond_t ey60 hy60
   refine oO rfl hy60 rfl (oO rfl hy60 rfl (oD (stp_pick_t rfl hy60 rfl) rfl ?_))
   obtain rfl := sI ey60
   exact ow_nil (jy 3 0)
  have ey60 := cond_f ey60 hy60
  refine oG rfl hy60 (mv rfl) rfl (oG rfl hy60 (stp_not rfl) rfl (oD (stp_pick_f rfl hy60 rfl) rfl ?_))
  obtain rfl := sI ey60
  exact ow_nil (jy 3 0)
 refine ow_nil (kw_nx (cw_cond rfl (fun h61 => ?_) (fun h61 => ?_)))
 ·have H0 := cond_t H0 h61
  refine sr (oB9 9 ts34 rfl (oB9 14 ts34 rfl (oE (stpU_call (fun i => 15 + i) cf18 (fun w hw => c_i_MachineSame fl w x20.1 x38.1 rfl (OwnC.pass (id := 5) rfl o24 hw) rfl (OwnC.pass (id := 6) rfl o28 hw) rfl (OwnC.pass (id := 7) rfl o32 hw) rfl (OwnC.pass (id := 8) rfl o36 hw) rfl (OwnC.pass (id := 10) rfl o42 hw) rfl (OwnC.pass (id := 11) rfl o46 hw) rfl (OwnC.pass (id := 12) rfl o50 hw) rfl (OwnC.pass (id := 13) rfl o54 hw) x56 e56) (yB rfl rfl)) rfl ?_)))
  rintro _ _ ⟨_, ⟨rfl, rfl⟩, rfl⟩
  obtain ⟨y62, ey62, H0⟩ := bS H0
  refine oM rfl (ow_cutY 4 75 y62 ?_ ?_)
  ·rcases Bool.eq_false_or_eq_true x56 with hy62 | hy62
   ·have ey62 := cond_t ey62 hy62
    refine oG rfl hy62 (mv rfl) rfl (oG rfl hy62 (mv rfl) rfl (oG rfl hy62 (stp_eql rfl rfl) rfl (oD (stp_pick_t rfl hy62 rfl) rfl ?_)))
    obtain rfl := sI ey62
    exact ow_nil (jy 4 0)
   have ey62 := cond_f ey62 hy62
   refine oO rfl hy62 rfl (oO rfl hy62 rfl (oO rfl hy62 rfl (oD (stp_pick_f rfl hy62 rfl) rfl ?_)))
   obtain rfl := sI ey62
   exact ow_nil (jy 4 0)
  obtain ⟨y63, ey63, H0⟩ := bS H0
  refine oM rfl (ow_cutY 4 80 y63 ?_ ?_)
  ·rcases Bool.eq_false_or_eq_true y62 with hy63 | hy63
   ·have ey63 := cond_t ey63 hy63
    refine oG rfl hy63 (mv rfl) rfl (oG rfl hy63 (mv rfl) rfl (oG rfl hy63 (stp_eql rfl rfl) rfl (oD (stp_pick_t rfl hy63 rfl) rfl ?_)))
    obtain rfl := sI ey63
    exact ow_nil (jy 4 0)
   have ey63 := cond_f ey63 hy63
   refine oO rfl hy63 rfl (oO rfl hy63 rfl (oO rfl hy63 rfl (oD (stp_pick_f rfl hy63 rfl) rfl ?_)))
   obtain rfl := sI ey63
   exact ow_nil (jy 4 0)
  obtain ⟨y64, ey64, H0⟩ := bS H0
  refine oM rfl (ow_cutY 4 85 y64 ?_ ?_)
  ·rcases Bool.eq_false_or_eq_true y63 with hy64 | hy64
   ·have ey64 := cond_t ey64 hy64
    refine oG rfl hy64 (mv rfl) rfl (oG rfl hy64 (mv rfl) rfl (oG rfl hy64 (stp_eqlB Tryz.underlying4 rfl rfl) rfl (oD (stp_pick_t rfl hy64 rfl) rfl ?_)))
    obtain rfl := sI ey64
    exact ow_nil (jy 4 0)
   have ey64 := cond_f ey64 hy64
   refine oO rfl hy64 rfl (oO rfl hy64 rfl (oO rfl hy64 rfl (oD (stp_pick_f rfl hy64 rfl) rfl ?_)))
   obtain rfl := sI ey64
   exact ow_nil (jy 4 0)
  refine oS rfl (nn (cw_ret (kw_nx_ret ?_)))
  obtain rfl := sI H0
  exact kr Tryz.results8 (rT rfl) [] ⟨rfl, rfl⟩
 have H0 := cond_f H0 h61
 obtain ⟨x65, e65, H0⟩ := bS H0
 refine cw_skip (kw_nx (sr (oB9 9 ts34 rfl (oM rfl (oM rfl (oE (stpU_call (fun i => 15 + i) cf31 (fun w hw => c_i_TouchPage fl w x20.1 x2.2.1 x2.2.2 rfl (OwnC.pass (id := 5) rfl o24 hw) rfl (OwnC.pass (id := 6) rfl o28 hw) rfl (OwnC.pass (id := 7) rfl o32 hw) rfl (OwnC.pass (id := 8) rfl o36 hw) (RO.pass hg hw) x65 e65) (yC rfl rfl rfl)) rfl ?_))))))
 rintro _ _ ⟨_, ⟨p66, _, c68, C69, p70, _, c72, C73, p74, _, c76, C77, p78, _, c80, C81, rfl, rfl, rfl, o69, rfl, o73, rfl, o77, rfl, o81⟩, rfl⟩
 refine oM rfl (oT rfl (oT rfl (oT rfl (oT rfl (oE (stpU_alloc 19 tz34 rfl) rfl ?_)))))
 rintro _ _ ⟨b82, rfl, rfl⟩
 obtain ⟨y83, ey83, H0⟩ := bS H0
 refine oC9 19 ts34 rfl rfl (oS rfl (oS rfl (oS rfl (nn (cw_seq (sr (oM rfl (oQ rfl (oM rfl (ow_cutY 3 100 y83 ?_ ?_))))))))))
 ·rcases Bool.eq_false_or_eq_true (x20.2.2.1 == 1) with hy83 | hy83
  ·have ey83 := cond_t ey83 hy83
   refine oO rfl hy83 rfl (oO rfl hy83 rfl (oD (stp_pick_t rfl hy83 rfl) rfl ?_))
   obtain rfl := sI ey83
   exact ow_nil (jy 3 0)
  have ey83 := cond_f ey83 hy83
  refine oG rfl hy83 (mv rfl) rfl (oG rfl hy83 (stp_eql rfl rfl) rfl (oD (stp_pick_f rfl hy83 rfl) rfl ?_))
  obtain rfl := sI ey83
  exact ow_nil (jy 3 0)
 refine ow_nil (kw_nx (cw_cond rfl (fun h84 => ?_) (fun h84 => ?_)))
 ·have H0 := cond_t H0 h84
  obtain ⟨y85, ey85, H0⟩ := bS H0
  refine sr (oM rfl (oM rfl (ow_cutY 4 106 y85 ?_ ?_)))
  ·rcases Bool.eq_false_or_eq_true x65.2.2.2 with hy85 | hy85
   ·have ey85 := cond_t ey85 hy85
    refine oG rfl hy85 (mv rfl) rfl (oG rfl hy85 (mv rfl) rfl (oG rfl hy85 (stp_eql rfl rfl) rfl (oD (stp_pick_t rfl hy85 rfl) rfl ?_)))
    obtain rfl := sI ey85
    exact ow_nil (jy 4 0)
   have ey85 := cond_f ey85 hy85
   refine oO rfl hy85 rfl (oO rfl hy85 rfl (oO rfl hy85 rfl (oD (stp_pick_f rfl hy85 rfl) rfl ?_)))
   obtain rfl := sI ey85
   exact ow_nil (jy 4 0)
  obtain ⟨y86, ey86, H0⟩ := bS H0
  refine oM rfl (ow_cutY 3 110 y86 ?_ ?_)
  ·rcases Bool.eq_false_or_eq_true y85 with hy86 | hy86
   ·have ey86 := cond_t ey86 hy86
    refine oG rfl hy86 (mv rfl) rfl (oG rfl hy86 (stp_eql rfl rfl) rfl (oD (stp_pick_t rfl hy86 rfl) rfl ?_))
    obtain rfl := sI ey86
    exact ow_nil (jy 3 0)
   have ey86 := cond_f ey86 hy86
   refine oO rfl hy86 rfl (oO rfl hy86 rfl (oD (stp_pick_f rfl hy86 rfl) rfl ?_))
   obtain rfl := sI ey86
   exact ow_nil (jy 3 0)
  obtain ⟨y87, ey87, H0⟩ := bS H0
  refine oM rfl (ow_cutY 4 115 y87 ?_ ?_)
  ·rcases Bool.eq_false_or_eq_true y86 with hy87 | hy87
   ·have ey87 := cond_t ey87 hy87
    obtain ⟨x88, e88, ey87⟩ := bS ey87
    refine oG rfl hy87 (stp_loadN (us := [_, _, _, _, _, _, _, _, _]) ts34 rfl (Cells.box (id := 19) rfl 9 rfl)) rfl (oG rfl hy87 (stp_loadN (us := [_, _, _, _, _, _, _, _, _]) ts34 rfl (Cells.box (id := 9) rfl 9 rfl)) rfl (ow_eff (.some rfl hy87) (stpU_call (fun i => 20 + i) cf18 (fun w hw => c_i_MachineSame fl w x65.1 x20.1 rfl (OwnC.pass (id := 15) rfl o69 hw) rfl (OwnC.pass (id := 16) rfl o73 hw) rfl (OwnC.pass (id := 17) rfl o77 hw) rfl (OwnC.pass (id := 18) rfl o81 hw) rfl (OwnC.pass (id := 5) rfl o24 hw) rfl (OwnC.pass (id := 6) rfl o28 hw) rfl (OwnC.pass (id := 7) rfl o32 hw) rfl (OwnC.pass (id := 8) rfl o36 hw) x88 e88) (yB rfl rfl)) rfl ?_))
    rintro _ _ ⟨_, ⟨rfl, rfl⟩, rfl⟩
    refine oD (stp_pick_t rfl hy87 rfl) rfl ?_
    obtain rfl := sI ey87
    exact ow_nil (jy 4 0)
   have ey87 := cond_f ey87 hy87
   refine oO rfl hy87 rfl (oO rfl hy87 rfl (oO rfl hy87 rfl (oD (stp_pick_f rfl hy87 rfl) rfl ?_)))
   obtain rfl := sI ey87
   exact ow_nil (jy 4 0)
  refine oS rfl (nn (cw_ret (kw_nx_ret ?_)))
  obtain rfl := sI H0
  exact kr Tryz.results8 (rT rfl) [] ⟨rfl, rfl⟩
 have H0 := cond_f H0 h84
 obtain ⟨y89, ey89, H0⟩ := bS H0
 refine cw_skip (kw_nx (sr (oM rfl (oM rfl (ow_cutY 4 121 y89 ?_ ?_)))))
 ·rcases Bool.eq_false_or_eq_true x65.2.2.2 with hy89 | hy89
  ·have ey89 := cond_t ey89 hy89
   refine oG rfl hy89 (mv rfl) rfl (oG rfl hy89 (mv rfl) rfl (oG rfl hy89 (stp_eql rfl rfl) rfl (oD (stp_pick_t rfl hy89 rfl) rfl ?_)))
   obtain rfl := sI ey89
   exact ow_nil (jy 4 0)
  have ey89 := cond_f ey89 hy89
  refine oO rfl hy89 rfl (oO rfl hy89 rfl (oO rfl hy89 rfl (oD (stp_pick_f rfl hy89 rfl) rfl ?_)))
  obtain rfl := sI ey89
  exact ow_nil (jy 4 0)
 obtain ⟨y90, ey90, H0⟩ := bS H0
 refine oM rfl (ow_cutY 4 126 y90 ?_ ?_)
 ·rcases Bool.eq_false_or_eq_true y89 with hy90 | hy90
  ·have ey90 := cond_t ey90 hy90
   obtain ⟨x91, e91, ey90⟩ := bS ey90
   refine oG rfl hy90 (stp_loadN (us := [_, _, _, _, _, _, _, _, _]) ts34 rfl (Cells.box (id := 19) rfl 9 rfl)) rfl (oG rfl hy90 (stp_loadN (us := [_, _, _, _, _, _, _, _, _]) ts34 rfl (Cells.box (id := 9) rfl 9 rfl)) rfl (ow_eff (.some rfl hy90) (stpU_call (fun i => 20 + i) cf18 (fun w hw => c_i_MachineSame fl w x65.1 x20.1 rfl (OwnC.pass (id := 15) rfl o69 hw) rfl (OwnC.pass (id := 16) rfl o73 hw) rfl (OwnC.pass (id := 17) rfl o77 hw) rfl (OwnC.pass (id := 18) rfl o81 hw) rfl (OwnC.pass (id := 5) rfl o24 hw) rfl (OwnC.pass (id := 6) rfl o28 hw) rfl (OwnC.pass (id := 7) rfl o32 hw) rfl (OwnC.pass (id := 8) rfl o36 hw) x91 e91) (yB rfl rfl)) rfl ?_))
   rintro _ _ ⟨_, ⟨rfl, rfl⟩, rfl⟩
   refine oD (stp_pick_t rfl hy90 rfl) rfl ?_
   obtain rfl := sI ey90
   exact ow_nil (jy 4 0)
  have ey90 := cond_f ey90 hy90
  refine oO rfl hy90 rfl (oO rfl hy90 rfl (oO rfl hy90 rfl (oD (stp_pick_f rfl hy90 rfl) rfl ?_)))
  obtain rfl := sI ey90
  exact ow_nil (jy 4 0)
 refine oS rfl (nn (cw_ret ?_))
 obtain rfl := sI H0
 exact kr Tryz.results8 (rT rfl) [] ⟨rfl, rfl⟩
end Go.Proofs.YtkohlcjdagckhaaGreatDoor
