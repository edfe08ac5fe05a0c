/- The walks: functions of the program return what their pure functions say. Printed by a program (gen.py). -/
import Derived.Test.YtkohlcjdagckhaaGreatDoorGp
import Derived.Test.YtkohlcjdagckhaaGreatDoorGt
import Derived.Test.YtkohlcjdagckhaaGreatDoorMan
import Derived.Test.YtkohlcjdagckhaaGreatDoorMap
import Derived.Test.YtkohlcjdagckhaaGreatDoorCpy
import Derived.Test.YtkohlcjdagckhaaGreatDoorE8
import Derived.Test.YtkohlcjdagckhaaGreatDoorGwab
import Derived.Test.YtkohlcjdagckhaaGreatDoorGwac
import Derived.Test.YtkohlcjdagckhaaGreatDoorGwad
import Derived.Test.YtkohlcjdagckhaaGreatDoorGwaf
import Derived.Test.YtkohlcjdagckhaaGreatDoorGwag
set_option linter.unusedSimpArgs false
set_option linter.unusedVariables false
set_option linter.unusedSectionVars false
namespace Go.Proofs.YtkohlcjdagckhaaGreatDoor
open Go.RowKit
set_option maxHeartbeats 4000000
set_option maxRecDepth 20000
variable {p0_0 : Option Addr} {n0_0 : Nat} {c0_0 : Nat}
theorem c_l_FnEnterSpace (fl : Nat) (w : World) (a0 : (List UInt8)) (hn0_0 : n0_0 = (a0).length) (hr0_0 : RO w (hkeys []) (RdL p0_0 c0_0 a0)) (hg : RO w (hkeys []) (fun w' => w'.rangeAt 0 0 [.bool false, .int .i64 0, .int .i64 0, .int .i64 0, .int .i64 (-1)])) (r : Bool) (H0 : l_FnEnterSpace fl a0 = some r) :
  Ct Tryz.prog 4 [.slice p0_0 n0_0 c0_0] w [] (fun rv h' => rv = .bool r ∧ h' = []) := by
 subst hn0_0
 unfold l_FnEnterSpace at H0
 refine ct_of_cw Tryz.func4 rfl Tryz.ntmps4 rfl (Sat.refl _ _) ?_
 refine sr (oS rfl (nn (cw_seq (sr (oM rfl (oD (stp_len Tryz.underlying22 rfl) rfl (oJ rfl (nn (cw_cond rfl (fun h1 => ?_) (fun h1 => ?_))))))))))
 ·have H0 := cond_t H0 h1
  refine sr (oS rfl (nn (cw_ret (kw_nx_ret ?_))))
  obtain rfl := sI H0
  exact kr Tryz.results4 (rT rfl) [] ⟨rfl, rfl⟩
 have H0 := cond_f H0 h1
 obtain ⟨x2, e2, H0⟩ := bS H0
 refine cw_skip (kw_nx (sr (oM rfl (oE (stpU_call (fun i => 0 + i) cf15 (fun w hw => c_s_DrawEnterSpace fl w a0 rfl (RO.pass hr0_0 hw) x2 e2) (yA rfl)) rfl ?_))))
 rintro _ _ ⟨_, ⟨p3, _, c5, C6, p7, _, c9, C10, p11, _, c13, C14, p15, _, c17, C18, rfl, rfl, rfl, o6, rfl, o10, rfl, o14, rfl, o18⟩, rfl⟩
 refine oM rfl (oT rfl (oT rfl (oE (stpU_alloc 4 tz34 rfl) rfl ?_)))
 rintro _ _ ⟨b19, rfl, rfl⟩
 obtain ⟨x20, e20, H0⟩ := bS H0
 refine oC9 4 ts34 rfl rfl (oS rfl (nn (sr (oB9 4 ts34 rfl (oM rfl (oE (stpU_call (fun i => 5 + i) cf16 (fun w hw => c_i_EnterSpace fl w x2.1 x2.2 rfl (OwnC.pass (id := 0) rfl o6 hw) rfl (OwnC.pass (id := 1) rfl o10 hw) rfl (OwnC.pass (id := 2) rfl o14 hw) rfl (OwnC.pass (id := 3) rfl o18 hw) (RO.pass hg hw) x20 e20) (yB rfl rfl)) rfl ?_))))))
 rintro _ _ ⟨_, ⟨p21, _, c23, C24, p25, _, c27, C28, p29, _, c31, C32, p33, _, c35, C36, rfl, rfl, rfl, o24, rfl, o28, rfl, o32, rfl, o36⟩, rfl⟩
 refine oM rfl (oT rfl (oT rfl (oE (stpU_alloc 9 tz34 rfl) rfl ?_)))
 rintro _ _ ⟨b37, rfl, rfl⟩
 obtain ⟨x38, e38, H0⟩ := bS H0
 refine oC9 9 ts34 rfl rfl (oS rfl (nn (sr (oB9 4 ts34 rfl (oM rfl (oE (stpU_call (fun i => 10 + i) cf17 (fun w hw => c_s_EnterSpace fl w x2.1 x2.2 rfl (OwnC.pass (id := 0) rfl o6 hw) rfl (OwnC.pass (id := 1) rfl o10 hw) rfl (OwnC.pass (id := 2) rfl o14 hw) rfl (OwnC.pass (id := 3) rfl o18 hw) x38 e38) (yB rfl rfl)) rfl ?_))))))
 rintro _ _ ⟨_, ⟨p39, _, c41, C42, p43, _, c45, C46, p47, _, c49, C50, p51, _, c53, C54, rfl, rfl, rfl, o42, rfl, o46, rfl, o50, rfl, o54⟩, rfl⟩
 refine oM rfl (oT rfl (oT rfl (oE (stpU_alloc 14 tz34 rfl) rfl ?_)))
 rintro _ _ ⟨b55, rfl, rfl⟩
 obtain ⟨x56, e56, H0⟩ := bS H0
 refine oC9 14 ts34 rfl rfl (oS rfl (nn (cw_seq (sr (oB9 9 ts34 rfl (oB9 14 ts34 rfl (oE (stpU_call (fun i => 15 + i) cf18 (fun w hw => c_i_MachineSame fl w x20.1 x38.1 rfl (OwnC.pass (id := 5) rfl o24 hw) rfl (OwnC.pass (id := 6) rfl o28 hw) rfl (OwnC.pass (id := 7) rfl o32 hw) rfl (OwnC.pass (id := 8) rfl o36 hw) rfl (OwnC.pass (id := 10) rfl o42 hw) rfl (OwnC.pass (id := 11) rfl o46 hw) rfl (OwnC.pass (id := 12) rfl o50 hw) rfl (OwnC.pass (id := 13) rfl o54 hw) x56 e56) (yB rfl rfl)) rfl ?_)))))))
 rintro _ _ ⟨_, ⟨rfl, rfl⟩, rfl⟩
 obtain ⟨y57, ey57, H0⟩ := bS H0
 refine oK rfl (oM rfl (ow_cutY 4 40 y57 ?_ ?_))
 ·rcases Bool.eq_false_or_eq_true (!x56) with hy57 | hy57
  ·have ey57 := cond_t ey57 hy57
   refine oO rfl hy57 rfl (oO rfl hy57 rfl (oO rfl hy57 rfl (oD (stp_pick_t rfl hy57 rfl) rfl ?_)))
   obtain rfl := sI ey57
   exact ow_nil (jy 4 0)
  have ey57 := cond_f ey57 hy57
  refine oG rfl hy57 (mv rfl) rfl (oG rfl hy57 (mv rfl) rfl (oG rfl hy57 (stp_neqB Tryz.underlying4 rfl rfl) rfl (oD (stp_pick_f rfl hy57 rfl) rfl ?_)))
  obtain rfl := sI ey57
  exact ow_nil (jy 4 0)
 obtain ⟨y58, ey58, H0⟩ := bS H0
 refine oM rfl (ow_cutY 3 44 y58 ?_ ?_)
 ·rcases Bool.eq_false_or_eq_true y57 with hy58 | hy58
  ·have ey58 := cond_t ey58 hy58
   refine oO rfl hy58 rfl (oO rfl hy58 rfl (oD (stp_pick_t rfl hy58 rfl) rfl ?_))
   obtain rfl := sI ey58
   exact ow_nil (jy 3 0)
  have ey58 := cond_f ey58 hy58
  refine oG rfl hy58 (mv rfl) rfl (oG rfl hy58 (stp_not rfl) rfl (oD (stp_pick_f rfl hy58 rfl) rfl ?_))
  obtain rfl := sI ey58
  exact ow_nil (jy 3 0)
 refine ow_nil (kw_nx (cw_cond rfl (fun h59 => ?_) (fun h59 => ?_)))
 ·have H0 := cond_t H0 h59
  refine sr (oB9 9 ts34 rfl (oB9 14 ts34 rfl (oE (stpU_call (fun i => 15 + i) cf18 (fun w hw => c_i_MachineSame fl w x20.1 x38.1 rfl (OwnC.pass (id := 5) rfl o24 hw) rfl (OwnC.pass (id := 6) rfl o28 hw) rfl (OwnC.pass (id := 7) rfl o32 hw) rfl (OwnC.pass (id := 8) rfl o36 hw) rfl (OwnC.pass (id := 10) rfl o42 hw) rfl (OwnC.pass (id := 11) rfl o46 hw) rfl (OwnC.pass (id := 12) rfl o50 hw) rfl (OwnC.pass (id := 13) rfl o54 hw) x56 e56) (yB rfl rfl)) rfl ?_)))
  rintro _ _ ⟨_, ⟨rfl, rfl⟩, rfl⟩
  obtain ⟨y60, ey60, H0⟩ := bS H0
  refine oM rfl (ow_cutY 4 52 y60 ?_ ?_)
  ·rcases Bool.eq_false_or_eq_true x56 with hy60 | hy60
   ·have ey60 := cond_t ey60 hy60
    refine oG rfl hy60 (mv rfl) rfl (oG rfl hy60 (mv rfl) rfl (oG rfl hy60 (stp_eqlB Tryz.underlying4 rfl rfl) rfl (oD (stp_pick_t rfl hy60 rfl) rfl ?_)))
    obtain rfl := sI ey60
    exact ow_nil (jy 4 0)
   have ey60 := cond_f ey60 hy60
   refine oO rfl hy60 rfl (oO rfl hy60 rfl (oO rfl hy60 rfl (oD (stp_pick_f rfl hy60 rfl) rfl ?_)))
   obtain rfl := sI ey60
   exact ow_nil (jy 4 0)
  refine oS rfl (nn (cw_ret (kw_nx_ret ?_)))
  obtain rfl := sI H0
  exact kr Tryz.results4 (rT rfl) [] ⟨rfl, rfl⟩
 have H0 := cond_f H0 h59
 obtain ⟨x61, e61, H0⟩ := bS H0
 refine cw_skip (kw_nx (sr (oB9 9 ts34 rfl (oM rfl (oE (stpU_call (fun i => 15 + i) cf16 (fun w hw => c_i_EnterSpace fl w x20.1 x2.2 rfl (OwnC.pass (id := 5) rfl o24 hw) rfl (OwnC.pass (id := 6) rfl o28 hw) rfl (OwnC.pass (id := 7) rfl o32 hw) rfl (OwnC.pass (id := 8) rfl o36 hw) (RO.pass hg hw) x61 e61) (yB rfl rfl)) rfl ?_)))))
 rintro _ _ ⟨_, ⟨p62, _, c64, C65, p66, _, c68, C69, p70, _, c72, C73, p74, _, c76, C77, rfl, rfl, rfl, o65, rfl, o69, rfl, o73, rfl, o77⟩, rfl⟩
 refine oM rfl (oT rfl (oT rfl (oE (stpU_alloc 19 tz34 rfl) rfl ?_)))
 rintro _ _ ⟨b78, rfl, rfl⟩
 refine oC9 19 ts34 rfl rfl (oS rfl (nn (sr (oA 4 Tryz.underlying34 rfl ts32 rfl (oA 2 Tryz.underlying32 rfl ts3 rfl (oL 9 ts3 rfl (oA 4 Tryz.underlying34 rfl ts32 rfl (oA 2 Tryz.underlying32 rfl ts3 rfl (oL 4 ts3 rfl (oQ rfl (oS rfl (nn (sr ?_)))))))))))))
 obtain ⟨x79, e79, H0⟩ := bS H0
 refine oB9 9 ts34 rfl (oE (stpU_call (fun i => 20 + i) cf19 (fun w hw => c_i_MachineValid fl w x20.1 rfl (OwnC.pass (id := 5) rfl o24 hw) rfl (OwnC.pass (id := 6) rfl o28 hw) rfl (OwnC.pass (id := 7) rfl o32 hw) rfl (OwnC.pass (id := 8) rfl o36 hw) (RO.pass hg hw) x79 e79) (yA rfl)) rfl ?_)
 rintro _ _ ⟨_, ⟨rfl, rfl⟩, rfl⟩
 obtain ⟨y80, ey80, H0⟩ := bS H0
 refine oM rfl (ow_cutY 5 73 y80 ?_ ?_)
 ·rcases Bool.eq_false_or_eq_true x79 with hy80 | hy80
  ·have ey80 := cond_t ey80 hy80
   refine oG rfl hy80 (fA 8 Tryz.underlying34 rfl ts3 rfl rfl rfl) rfl (oG rfl hy80 (lB 9 ts3 rfl rfl rfl) rfl (oG rfl hy80 (mv rfl) rfl (oG rfl hy80 (stp_eql rfl rfl) rfl (oD (stp_pick_t rfl hy80 rfl) rfl ?_))))
   obtain rfl := sI ey80
   exact ow_nil (jy 5 0)
  have ey80 := cond_f ey80 hy80
  refine oO rfl hy80 rfl (oO rfl hy80 rfl (oO rfl hy80 rfl (oO rfl hy80 rfl (oD (stp_pick_f rfl hy80 rfl) rfl ?_))))
  obtain rfl := sI ey80
  exact ow_nil (jy 5 0)
 obtain ⟨y81, ey81, H0⟩ := bS H0
 refine oM rfl (ow_cutY 6 80 y81 ?_ ?_)
 ·rcases Bool.eq_false_or_eq_true y80 with hy81 | hy81
  ·have ey81 := cond_t ey81 hy81
   obtain ⟨x82, e82, ey81⟩ := bS ey81
   refine oG rfl hy81 (fA 0 Tryz.underlying34 rfl ts26 rfl rfl rfl) rfl (oG rfl hy81 (stp_loadN (us := [_, _]) ts26 rfl (Cells.box (id := 9) rfl 2 rfl)) rfl (oG rfl hy81 (fA 0 Tryz.underlying34 rfl ts26 rfl rfl rfl) rfl (oG rfl hy81 (stp_loadN (us := [_, _]) ts26 rfl (Cells.box (id := 4) rfl 2 rfl)) rfl (ow_eff (.some rfl hy81) (stpU_call (fun i => 20 + i) cf20 (fun w hw => c_i_TableSame fl w x20.1.t x2.1.t rfl (OwnC.pass (id := 5) rfl o24 hw) rfl (OwnC.pass (id := 6) rfl o28 hw) rfl (OwnC.pass (id := 0) rfl o6 hw) rfl (OwnC.pass (id := 1) rfl o10 hw) x82 e82) (yB rfl rfl)) rfl ?_))))
   rintro _ _ ⟨_, ⟨rfl, rfl⟩, rfl⟩
   refine oD (stp_pick_t rfl hy81 rfl) rfl ?_
   obtain rfl := sI ey81
   exact ow_nil (jy 6 0)
  have ey81 := cond_f ey81 hy81
  refine oO rfl hy81 rfl (oO rfl hy81 rfl (oO rfl hy81 rfl (oO rfl hy81 rfl (oO rfl hy81 rfl (oD (stp_pick_f rfl hy81 rfl) rfl ?_)))))
  obtain rfl := sI ey81
  exact ow_nil (jy 6 0)
 obtain ⟨y83, ey83, H0⟩ := bS H0
 refine oM rfl (ow_cutY 10 91 y83 ?_ ?_)
 ·rcases Bool.eq_false_or_eq_true y81 with hy83 | hy83
  ·have ey83 := cond_t ey83 hy83
   obtain ⟨y84, ey84, ey83⟩ := bS ey83
   refine oG rfl hy83 (mv rfl) rfl (oG rfl hy83 (stp_not rfl) rfl (oG rfl hy83 (mv rfl) rfl (ow_cutY 6 90 y84 ?_ ?_)))
   ·rcases Bool.eq_false_or_eq_true (!(x20.1.g.r == x2.1.g.r)) with hy84 | hy84
    ·have ey84 := cond_t ey84 hy84
     refine oO rfl hy84 rfl (oO rfl hy84 rfl (oO rfl hy84 rfl (oO rfl hy84 rfl (oO rfl hy84 rfl (oG rfl hy83 (stp_pick_t rfl hy84 rfl) rfl ?_)))))
     obtain rfl := sI ey84
     exact ow_nil (jy 6 0)
    have ey84 := cond_f ey84 hy84
    obtain ⟨x85, e85, ey84⟩ := bS ey84
    refine oG rfl hy84 (fA 2 Tryz.underlying34 rfl ts29 rfl rfl rfl) rfl (oG rfl hy84 (stp_loadN (us := [_, _]) ts29 rfl (Cells.box (id := 9) rfl 2 rfl)) rfl (oG rfl hy84 (fA 2 Tryz.underlying34 rfl ts29 rfl rfl rfl) rfl (oG rfl hy84 (stp_loadN (us := [_, _]) ts29 rfl (Cells.box (id := 4) rfl 2 rfl)) rfl (ow_eff (.some rfl hy84) (stpU_call (fun i => 20 + i) cf21 (fun w hw => c_i_CacheSame fl w x20.1.c x2.1.c rfl (OwnC.pass (id := 7) rfl o32 hw) rfl (OwnC.pass (id := 2) rfl o14 hw) x85 e85) (yB rfl rfl)) rfl ?_))))
    rintro _ _ ⟨_, ⟨rfl, rfl⟩, rfl⟩
    refine oG rfl hy83 (stp_pick_f rfl hy84 rfl) rfl ?_
    obtain rfl := sI ey84
    exact ow_nil (jy 6 0)
   refine oD (stp_pick_t rfl hy83 rfl) rfl ?_
   obtain rfl := sI ey83
   exact ow_nil (jy 5 0)
  have ey83 := cond_f ey83 hy83
  refine oO rfl hy83 rfl (oO rfl hy83 rfl (oO rfl hy83 rfl (oX rfl rfl rfl (oX rfl rfl rfl (oX rfl rfl rfl (oX rfl rfl rfl (oX rfl rfl rfl (oO rfl hy83 rfl (oD (stp_pick_f rfl hy83 rfl) rfl ?_)))))))))
  obtain rfl := sI ey83
  exact ow_nil (jy 10 0)
 obtain ⟨y86, ey86, H0⟩ := bS H0
 refine oM rfl (ow_cutY 2 94 y86 ?_ ?_)
 ·rcases Bool.eq_false_or_eq_true y83 with hy86 | hy86
  ·have ey86 := cond_t ey86 hy86
   refine oG rfl hy86 (mv rfl) rfl (oD (stp_pick_t rfl hy86 rfl) rfl ?_)
   obtain rfl := sI ey86
   exact ow_nil (jy 2 0)
  have ey86 := cond_f ey86 hy86
  refine oO rfl hy86 rfl (oD (stp_pick_f rfl hy86 rfl) rfl ?_)
  obtain rfl := sI ey86
  exact ow_nil (jy 2 0)
 obtain ⟨y87, ey87, H0⟩ := bS H0
 refine oM rfl (ow_cutY 4 99 y87 ?_ ?_)
 ·rcases Bool.eq_false_or_eq_true y86 with hy87 | hy87
  ·have ey87 := cond_t ey87 hy87
   obtain ⟨x88, e88, ey87⟩ := bS ey87
   refine oG rfl hy87 (stp_loadN (us := [_, _, _, _, _, _, _, _, _]) ts34 rfl (Cells.box (id := 19) rfl 9 rfl)) rfl (oG rfl hy87 (stp_loadN (us := [_, _, _, _, _, _, _, _, _]) ts34 rfl (Cells.box (id := 9) rfl 9 rfl)) rfl (ow_eff (.some rfl hy87) (stpU_call (fun i => 20 + i) cf18 (fun w hw => c_i_MachineSame fl w x61.1 x20.1 rfl (OwnC.pass (id := 15) rfl o65 hw) rfl (OwnC.pass (id := 16) rfl o69 hw) rfl (OwnC.pass (id := 17) rfl o73 hw) rfl (OwnC.pass (id := 18) rfl o77 hw) rfl (OwnC.pass (id := 5) rfl o24 hw) rfl (OwnC.pass (id := 6) rfl o28 hw) rfl (OwnC.pass (id := 7) rfl o32 hw) rfl (OwnC.pass (id := 8) rfl o36 hw) x88 e88) (yB rfl rfl)) rfl ?_))
   rintro _ _ ⟨_, ⟨rfl, rfl⟩, rfl⟩
   refine oD (stp_pick_t rfl hy87 rfl) rfl ?_
   obtain rfl := sI ey87
   exact ow_nil (jy 4 0)
  have ey87 := cond_f ey87 hy87
  refine oO rfl hy87 rfl (oO rfl hy87 rfl (oO rfl hy87 rfl (oD (stp_pick_f rfl hy87 rfl) rfl ?_)))
  obtain rfl := sI ey87
  exact ow_nil (jy 4 0)
 refine oS rfl (nn (cw_ret ?_))
 obtain rfl := sI H0
 exact kr Tryz.results4 (rT rfl) [] ⟨rfl, rfl⟩
end Go.Proofs.YtkohlcjdagckhaaGreatDoor
