/- The walks: functions of the program return what their pure functions say. Printed by a program (gen.py). -/
import Derived.Test.YtbfbfkpcabkchaaGreatDoorVp
import Derived.Test.YtbfbfkpcabkchaaGreatDoorVt
import Derived.Test.YtbfbfkpcabkchaaGreatDoorMan
import Derived.Test.YtbfbfkpcabkchaaGreatDoorMap
import Derived.Test.YtbfbfkpcabkchaaGreatDoorCpy
import Derived.Test.YtbfbfkpcabkchaaGreatDoorVe
import Derived.Test.YtbfbfkpcabkchaaGreatDoorVwab
import Derived.Test.YtbfbfkpcabkchaaGreatDoorVwad
import Derived.Test.YtbfbfkpcabkchaaGreatDoorVwag
set_option linter.unusedSimpArgs false
set_option linter.unusedVariables false
set_option linter.unusedSectionVars false
namespace Go.Proofs.YtbfbfkpcabkchaaGreatDoor
open Go.RowKit
open Tryz
set_option maxHeartbeats 4000000
set_option maxRecDepth 20000
variable {p0_0 : Option Addr} {n0_0 : Nat} {c0_0 : Nat}
theorem c_l_FnUseMachine (fl : Nat) (w : World) (a0 : (List UInt8)) (hn0_0 : n0_0 = (a0).length) (hr0_0 : RO w [] (RdL p0_0 c0_0 a0)) (hg : RO w [] (fun w' => w'.rangeAt 0 0 [.bool false, I 0, I 0, I 0, I (-1)])) (r : Bool) (H0 : l_FnUseMachine fl a0 = some r) :
  Ct prog 3 [.slice p0_0 n0_0 c0_0] w [] (fun rv h' => rv = .bool r ∧ h' = []) := by
 subst hn0_0
 unfold l_FnUseMachine at H0
 refine ct_of_cw func3 J ntmps3 J (Sat.refl _ _) ?_
 refine sr (sq J (oM J (oD (stp_len u22 J) J (oJ J (nn (cH J H0 (fun H0 => ?_) (fun H0 => ?_)))))))
 ·refine sr (sr1 J (kR ?_))
  obtain rfl := sI H0
  exact kr results3 (rT J) [] ⟨J, J⟩
 obtain ⟨x2, e2, H0⟩ := bS H0
 refine ks (oM J (oE (uC 0 cf8 (fun w hw => c_s_DrawUsePages fl w a0 J (rp hr0_0 hw) x2 e2) (yA J)) J ?_))
 rintro _ _ ⟨_, ⟨p3, _, c5, C6, rfl, o6, p7, _, c9, C10, rfl, o10, p11, _, c13, C14, rfl, o14, p15, _, c17, C18, rfl, o18, p19, _, c21, C22, rfl, o22, p23, _, c25, C26, rfl, o26, rfl, rfl⟩, rfl⟩
 refine oMTT J J J (oE (stpU_alloc 6 tz37 J) J ?_)
 rintro _ _ ⟨b27, rfl, rfl⟩
 obtain ⟨x28, e28, H0⟩ := bS H0
 refine oC11 6 ts37 J J (ss J (oB11 6 ts37 J (oM J (oE (uC 7 cf9 (fun w hw => c_i_UsePages fl w x2.1 x2.2 J (owp 0 J o6 hw) J (owp 1 J o10 hw) J (owp 2 J o14 hw) J (owp 3 J o18 hw) J (owp 4 J o22 hw) J (owp 5 J o26 hw) (rp hg hw) x28 e28) (yB J J)) J ?_))))
 rintro _ _ ⟨_, ⟨p29, _, c31, C32, rfl, o32, p33, _, c35, C36, rfl, o36, p37, _, c39, C40, rfl, o40, p41, _, c43, C44, rfl, o44, p45, _, c47, C48, rfl, o48, p49, _, c51, C52, rfl, o52, rfl, rfl⟩, rfl⟩
 refine oMTT J J J (oT J (oE (stpU_alloc 13 tz37 J) J ?_))
 rintro _ _ ⟨b53, rfl, rfl⟩
 obtain ⟨x54, e54, H0⟩ := bS H0
 refine oC11 13 ts37 J J (oS J (ss J (oB11 6 ts37 J (oM J (oE (uC 14 cf10 (fun w hw => c_s_UsePages fl w x2.1 x2.2 J (owp 0 J o6 hw) J (owp 1 J o10 hw) J (owp 2 J o14 hw) J (owp 3 J o18 hw) J (owp 4 J o22 hw) J (owp 5 J o26 hw) x54 e54) (yB J J)) J ?_)))))
 rintro _ _ ⟨_, ⟨p55, _, c57, C58, rfl, o58, p59, _, c61, C62, rfl, o62, p63, _, c65, C66, rfl, o66, p67, _, c69, C70, rfl, o70, p71, _, c73, C74, rfl, o74, p75, _, c77, C78, rfl, o78, rfl, rfl⟩, rfl⟩
 refine oMTT J J J (oT J (oE (stpU_alloc 20 tz37 J) J ?_))
 rintro _ _ ⟨b79, rfl, rfl⟩
 obtain ⟨x80, e80, H0⟩ := bS H0
 refine oC11 20 ts37 J J (oS J (sq J (oB11 13 ts37 J (oB11 20 ts37 J (oE (uC 21 cf11 (fun w hw => c_i_MemorySame fl w x28.1 x54.1 J (owp 7 J o32 hw) J (owp 8 J o36 hw) J (owp 9 J o40 hw) J (owp 10 J o44 hw) J (owp 11 J o48 hw) J (owp 14 J o58 hw) J (owp 15 J o62 hw) J (owp 16 J o66 hw) J (owp 17 J o70 hw) J (owp 18 J o74 hw) x80 e80) (yB J J)) J ?_)))))
 rintro _ _ ⟨_, ⟨rfl, rfl⟩, rfl⟩
 obtain ⟨y81, ey81, H0⟩ := bS H0
 refine oK J (oM J (ow_cutY 5 42 y81 ?_ ?_))
 ·rcases Bool.eq_false_or_eq_true (!x80) with hy81 | hy81
  ·have ey81 := cond_t ey81 hy81
   refine oO J hy81 J (oO J hy81 J (oO J hy81 J (oO J hy81 J (oD (stp_pick_t J hy81 J) J ?_))))
   obtain rfl := sI ey81
   exact ow_nil (jy 5 0)
  have ey81 := cond_f ey81 hy81
  obtain ⟨x82, e82, ey81⟩ := bS ey81
  refine oG J hy81 (mv J) J (oG J hy81 (mv J) J (ow_eff (.some J hy81) (uC 21 cf12 (fun w hw => c_l_ipInts fl w x28.2.1 x54.2.1 J (owp 12 J o52 hw) J (owp 19 J o78 hw) x82 e82) (yB J J)) J ?_))
  rintro _ _ ⟨_, ⟨rfl, rfl⟩, rfl⟩
  refine oG J hy81 (stp_not J) J (oD (stp_pick_f J hy81 J) J ?_)
  obtain rfl := sI ey81
  exact ow_nil (jy 5 0)
 obtain ⟨y83, ey83, H0⟩ := bS H0
 refine oM J (ow_cutY 4 47 y83 ?_ ?_)
 ·rcases Bool.eq_false_or_eq_true y81 with hy83 | hy83
  ·have ey83 := cond_t ey83 hy83
   refine oO J hy83 J (oO J hy83 J (oO J hy83 J (oD (stp_pick_t J hy83 J) J ?_)))
   obtain rfl := sI ey83
   exact ow_nil (jy 4 0)
  have ey83 := cond_f ey83 hy83
  refine oG J hy83 (mv J) J (oG J hy83 (mv J) J (oG J hy83 (stp_neqB u4 J J) J (oD (stp_pick_f J hy83 J) J ?_)))
  obtain rfl := sI ey83
  exact ow_nil (jy 4 0)
 obtain ⟨y84, ey84, H0⟩ := bS H0
 refine oM J (ow_cutY 3 51 y84 ?_ ?_)
 ·rcases Bool.eq_false_or_eq_true y83 with hy84 | hy84
  ·have ey84 := cond_t ey84 hy84
   refine oO J hy84 J (oO J hy84 J (oD (stp_pick_t J hy84 J) J ?_))
   obtain rfl := sI ey84
   exact ow_nil (jy 3 0)
  have ey84 := cond_f ey84 hy84
  refine oG J hy84 (mv J) J (oG J hy84 (stp_not J) J (oD (stp_pick_f J hy84 J) J ?_))
  obtain rfl := sI ey84
  exact ow_nil (jy 3 0)
 refine ow_nil (kw_nx (cH J H0 (fun H0 => ?_) (fun H0 => ?_)))
 ·refine sr (oB11 13 ts37 J (oB11 20 ts37 J (oE (uC 21 cf11 (fun w hw => c_i_MemorySame fl w x28.1 x54.1 J (owp 7 J o32 hw) J (owp 8 J o36 hw) J (owp 9 J o40 hw) J (owp 10 J o44 hw) J (owp 11 J o48 hw) J (owp 14 J o58 hw) J (owp 15 J o62 hw) J (owp 16 J o66 hw) J (owp 17 J o70 hw) J (owp 18 J o74 hw) x80 e80) (yB J J)) J ?_)))
  rintro _ _ ⟨_, ⟨rfl, rfl⟩, rfl⟩
  obtain ⟨y86, ey86, H0⟩ := bS H0
  refine oM J (ow_cutY 4 59 y86 ?_ ?_)
  ·rcases Bool.eq_false_or_eq_true x80 with hy86 | hy86
   ·have ey86 := cond_t ey86 hy86
    obtain ⟨x87, e87, ey86⟩ := bS ey86
    refine oG J hy86 (mv J) J (oG J hy86 (mv J) J (ow_eff (.some J hy86) (uC 21 cf12 (fun w hw => c_l_ipInts fl w x28.2.1 x54.2.1 J (owp 12 J o52 hw) J (owp 19 J o78 hw) x87 e87) (yB J J)) J ?_))
    rintro _ _ ⟨_, ⟨rfl, rfl⟩, rfl⟩
    refine oD (stp_pick_t J hy86 J) J ?_
    obtain rfl := sI ey86
    exact ow_nil (jy 4 0)
   have ey86 := cond_f ey86 hy86
   refine oO J hy86 J (oO J hy86 J (oO J hy86 J (oD (stp_pick_f J hy86 J) J ?_)))
   obtain rfl := sI ey86
   exact ow_nil (jy 4 0)
  obtain ⟨y88, ey88, H0⟩ := bS H0
  refine oM J (ow_cutY 4 64 y88 ?_ ?_)
  ·rcases Bool.eq_false_or_eq_true y86 with hy88 | hy88
   ·have ey88 := cond_t ey88 hy88
    refine oG J hy88 (mv J) J (oG J hy88 (mv J) J (oG J hy88 (stp_eqlB u4 J J) J (oD (stp_pick_t J hy88 J) J ?_)))
    obtain rfl := sI ey88
    exact ow_nil (jy 4 0)
   have ey88 := cond_f ey88 hy88
   refine oO J hy88 J (oO J hy88 J (oO J hy88 J (oD (stp_pick_f J hy88 J) J ?_)))
   obtain rfl := sI ey88
   exact ow_nil (jy 4 0)
  refine sr1 J (kR ?_)
  obtain rfl := sI H0
  exact kr results3 (rT J) [] ⟨J, J⟩
 obtain ⟨x89, e89, H0⟩ := bS H0
 refine ks (oA 0 u37 J ts34 J (oA 4 u34 J ts32 J (oB4 13 ts32 J (oA 0 u37 J ts34 J (oA 4 u34 J ts32 J (oB4 6 ts32 J (oE (uC 21 cf13 (fun w hw => c_i_TagsSame fl w x28.1.m.g x2.1.m.g J (owp 10 J o44 hw) J (owp 3 J o18 hw) x89 e89) (yB J J)) J ?_)))))))
 rintro _ _ ⟨_, ⟨rfl, rfl⟩, rfl⟩
 obtain ⟨y90, ey90, H0⟩ := bS H0
 refine oM J (ow_cutY 8 80 y90 ?_ ?_)
 ·rcases Bool.eq_false_or_eq_true x89 with hy90 | hy90
  ·have ey90 := cond_t ey90 hy90
   refine oG J hy90 (fA 0 u37 J ts34 J J J) J (oG J hy90 (fA 8 u34 J ts3 J J J) J (oG J hy90 (lB 13 ts3 J J J) J (oG J hy90 (fA 0 u37 J ts34 J J J) J (oG J hy90 (fA 8 u34 J ts3 J J J) J (oG J hy90 (lB 6 ts3 J J J) J (oG J hy90 (stp_eql J J) J (oD (stp_pick_t J hy90 J) J ?_)))))))
   obtain rfl := sI ey90
   exact ow_nil (jy 8 0)
  have ey90 := cond_f ey90 hy90
  refine oO J hy90 J (oO J hy90 J (oO J hy90 J (oO J hy90 J (oO J hy90 J (oO J hy90 J (oO J hy90 J (oD (stp_pick_f J hy90 J) J ?_)))))))
  obtain rfl := sI ey90
  exact ow_nil (jy 8 0)
 obtain ⟨y91, ey91, H0⟩ := bS H0
 refine oM J (ow_cutY 8 89 y91 ?_ ?_)
 ·rcases Bool.eq_false_or_eq_true y90 with hy91 | hy91
  ·have ey91 := cond_t ey91 hy91
   refine oG J hy91 (fA 9 u37 J ts35 J J J) J (oG J hy91 (lB 13 ts35 J J J) J (oG J hy91 (stp_len u35 J) J (oG J hy91 (fA 9 u37 J ts35 J J J) J (oG J hy91 (lB 6 ts35 J J J) J (oG J hy91 (stp_len u35 J) J (oG J hy91 (stp_eql J J) J (oD (stp_pick_t J hy91 J) J ?_)))))))
   obtain rfl := sI ey91
   exact ow_nil (jy 8 0)
  have ey91 := cond_f ey91 hy91
  refine oO J hy91 J (oO J hy91 J (oO J hy91 J (oO J hy91 J (oO J hy91 J (oO J hy91 J (oO J hy91 J (oD (stp_pick_f J hy91 J) J ?_)))))))
  obtain rfl := sI ey91
  exact ow_nil (jy 8 0)
 obtain ⟨y92, ey92, H0⟩ := bS H0
 refine oM J (ow_cutY 9 99 y92 ?_ ?_)
 ·rcases Bool.eq_false_or_eq_true y91 with hy92 | hy92
  ·have ey92 := cond_t ey92 hy92
   obtain ⟨y93, ey93, ey92⟩ := bS ey92
   refine oG J hy92 (mv J) J (oG J hy92 (stp_len u23 J) J (oG J hy92 (stp_gtr J J) J (oG J hy92 (mv J) J (ow_cutY 4 98 y93 ?_ ?_))))
   ·rcases Bool.eq_false_or_eq_true (decide (0 < ((x2.2).length : Int))) with hy93 | hy93
    ·have ey93 := cond_t ey93 hy93
     refine oO J hy93 J (oO J hy93 J (oO J hy93 J (oG J hy92 (stp_pick_t J hy93 J) J ?_)))
     obtain rfl := sI ey93
     exact ow_nil (jy 4 0)
    have ey93 := cond_f ey93 hy93
    obtain ⟨x94, e94, ey93⟩ := bS ey93
    refine oG J hy93 (stp_loadN (us := [_, _, _, _, _, _, _, _, _, _, _]) ts37 J (Cells.box (id := 13) J 11 J)) J (oG J hy93 (stp_loadN (us := [_, _, _, _, _, _, _, _, _, _, _]) ts37 J (Cells.box (id := 6) J 11 J)) J (ow_eff (.some J hy93) (uC 21 cf11 (fun w hw => c_i_MemorySame fl w x28.1 x2.1 J (owp 7 J o32 hw) J (owp 8 J o36 hw) J (owp 9 J o40 hw) J (owp 10 J o44 hw) J (owp 11 J o48 hw) J (owp 0 J o6 hw) J (owp 1 J o10 hw) J (owp 2 J o14 hw) J (owp 3 J o18 hw) J (owp 4 J o22 hw) x94 e94) (yB J J)) J ?_))
    rintro _ _ ⟨_, ⟨rfl, rfl⟩, rfl⟩
    refine oG J hy92 (stp_pick_f J hy93 J) J ?_
    obtain rfl := sI ey93
    exact ow_nil (jy 4 0)
   refine oD (stp_pick_t J hy92 J) J ?_
   obtain rfl := sI ey92
   exact ow_nil (jy 6 0)
  have ey92 := cond_f ey92 hy92
  refine oO J hy92 J (oO J hy92 J (oO J hy92 J (oO J hy92 J (oX J J J (oX J J J (oX J J J (oO J hy92 J (oD (stp_pick_f J hy92 J) J ?_))))))))
  obtain rfl := sI ey92
  exact ow_nil (jy 9 0)
 refine sn J (cw_ret ?_)
 obtain rfl := sI H0
 exact kr results3 (rT J) [] ⟨J, J⟩
end Go.Proofs.YtbfbfkpcabkchaaGreatDoor
