/- The walks: functions of the program return what their pure functions say. Printed by a program (gen.py). -/
import Derived.Test.YtbfbfkpcabkchaaGreatDoorVp
import Derived.Test.YtbfbfkpcabkchaaGreatDoorVt
import Derived.Test.YtbfbfkpcabkchaaGreatDoorMan
import Derived.Test.YtbfbfkpcabkchaaGreatDoorMap
import Derived.Test.YtbfbfkpcabkchaaGreatDoorCpy
import Derived.Test.YtbfbfkpcabkchaaGreatDoorVe
import Derived.Test.YtbfbfkpcabkchaaGreatDoorVwab
import Derived.Test.YtbfbfkpcabkchaaGreatDoorVws
set_option linter.unusedSimpArgs false
set_option linter.unusedVariables false
set_option linter.unusedSectionVars false
namespace Go.Proofs.YtbfbfkpcabkchaaGreatDoor
open Go.RowKit
open Tryz
set_option maxHeartbeats 4000000
set_option maxRecDepth 20000
variable {p0_0 p0_1 p0_2 p0_3 p0_4 p1_0 p1_1 : Option Addr} {n0_0 n0_1 n0_2 n0_3 n0_4 n1_0 n1_1 : Nat} {c0_0 c0_1 c0_2 c0_3 c0_4 c1_0 c1_1 : Nat} {C0_0 C0_1 C1_0 C1_1 : Res}
theorem c_i_clash (fl : Nat) (w : World) (a0 : Ln) (a1 : Ln) (r : Bool) (H0 : i_clash fl a0 a1 = some r) :
  Ct prog 107 [.agg #[.bool a0.va, I a0.tg, I a0.pg, I a0.fr, I a0.ri, .bool a0.wi], .agg #[.bool a1.va, I a1.tg, I a1.pg, I a1.fr, I a1.ri, .bool a1.wi]] w [] (fun rv h' => rv = .bool r ∧ h' = []) := by
 unfold i_clash at H0
 refine ct_of_cw func107 J ntmps107 J (Sat.refl _ _) ?_
 refine sr (oE (stpU_box 0 J J) J ?_)
 rintro _ _ ⟨b1, rfl, rfl⟩
 refine oE (stpU_box 1 J J) J ?_
 rintro _ _ ⟨b2, rfl, rfl⟩
 obtain ⟨y3, ey3, H0⟩ := bS H0
 refine ss J (oAL 0 u104 J ts4 J 0 J (oM J (ow_cutY 3 10 y3 ?_ ?_)))
 ·rcases Bool.eq_false_or_eq_true a0.va with hy3 | hy3
  ·have ey3 := cond_t ey3 hy3
   refine oG J hy3 (fA 0 u104 J ts4 J J J) J (oG J hy3 (lB 1 ts4 J J J) J (oD (stp_pick_t J hy3 J) J ?_))
   obtain rfl := sI ey3
   exact ow_nil (jy 3 0)
  have ey3 := cond_f ey3 hy3
  refine oO J hy3 J (oO J hy3 J (oD (stp_pick_f J hy3 J) J ?_))
  obtain rfl := sI ey3
  exact ow_nil (jy 3 0)
 obtain ⟨y4, ey4, H0⟩ := bS H0
 refine oM J (ow_cutY 6 17 y4 ?_ ?_)
 ·rcases Bool.eq_false_or_eq_true y3 with hy4 | hy4
  ·have ey4 := cond_t ey4 hy4
   refine oG J hy4 (fA 2 u104 J ts3 J J J) J (oG J hy4 (lB 0 ts3 J J J) J (oG J hy4 (fA 2 u104 J ts3 J J J) J (oG J hy4 (lB 1 ts3 J J J) J (oG J hy4 (stp_eql J J) J (oD (stp_pick_t J hy4 J) J ?_)))))
   obtain rfl := sI ey4
   exact ow_nil (jy 6 0)
  have ey4 := cond_f ey4 hy4
  refine oO J hy4 J (oO J hy4 J (oO J hy4 J (oO J hy4 J (oO J hy4 J (oD (stp_pick_f J hy4 J) J ?_)))))
  obtain rfl := sI ey4
  exact ow_nil (jy 6 0)
 obtain ⟨y5, ey5, H0⟩ := bS H0
 refine oM J (ow_cutY 16 34 y5 ?_ ?_)
 ·rcases Bool.eq_false_or_eq_true y4 with hy5 | hy5
  ·have ey5 := cond_t ey5 hy5
   obtain ⟨y6, ey6, ey5⟩ := bS ey5
   refine oG J hy5 (fA 1 u104 J ts3 J J J) J (oG J hy5 (lB 0 ts3 J J J) J (oG J hy5 (fA 1 u104 J ts3 J J J) J (oG J hy5 (lB 1 ts3 J J J) J (oG J hy5 (stp_eql J J) J (oG J hy5 (mv J) J (ow_cutY 4 28 y6 ?_ ?_))))))
   ·rcases Bool.eq_false_or_eq_true (a0.tg == a1.tg) with hy6 | hy6
    ·have ey6 := cond_t ey6 hy6
     refine oO J hy6 J (oO J hy6 J (oO J hy6 J (oG J hy5 (stp_pick_t J hy6 J) J ?_)))
     obtain rfl := sI ey6
     exact ow_nil (jy 4 0)
    have ey6 := cond_f ey6 hy6
    refine oG J hy6 (fA 1 u104 J ts3 J J J) J (oG J hy6 (lB 0 ts3 J J J) J (oG J hy6 (stp_eql J J) J (oG J hy5 (stp_pick_f J hy6 J) J ?_)))
    obtain rfl := sI ey6
    exact ow_nil (jy 4 0)
   obtain ⟨y7, ey7, ey5⟩ := bS ey5
   refine oG J hy5 (mv J) J (ow_cutY 4 33 y7 ?_ ?_)
   ·rcases Bool.eq_false_or_eq_true y6 with hy7 | hy7
    ·have ey7 := cond_t ey7 hy7
     refine oO J hy7 J (oO J hy7 J (oO J hy7 J (oG J hy5 (stp_pick_t J hy7 J) J ?_)))
     obtain rfl := sI ey7
     exact ow_nil (jy 4 0)
    have ey7 := cond_f ey7 hy7
    refine oG J hy7 (fA 1 u104 J ts3 J J J) J (oG J hy7 (lB 1 ts3 J J J) J (oG J hy7 (stp_eql J J) J (oG J hy5 (stp_pick_f J hy7 J) J ?_)))
    obtain rfl := sI ey7
    exact ow_nil (jy 4 0)
   refine oD (stp_pick_t J hy5 J) J ?_
   obtain rfl := sI ey5
   exact ow_nil (jy 10 0)
  have ey5 := cond_f ey5 hy5
  refine oO J hy5 J (oO J hy5 J (oO J hy5 J (oO J hy5 J (oO J hy5 J (oO J hy5 J (oX J J J (oX J J J (oX J J J (oO J hy5 J (oO J hy5 J (oX J J J (oX J J J (oX J J J ?_)))))))))))))
  refine oO J hy5 J (oD (stp_pick_f J hy5 J) J ?_)
  obtain rfl := sI ey5
  exact ow_nil (jy 16 0)
 refine sn J (cw_ret ?_)
 obtain rfl := sI H0
 exact kr results107 (rT J) [] ⟨J, J⟩

theorem c_i_CacheValid (fl : Nat) (w : World) (a0 : Ca) (hn0_0 : n0_0 = (a0.l).length) (hr0_0 : RO w [] (RdL p0_0 c0_0 a0.l)) (r : Bool) (H0 : i_CacheValid fl a0 = some r) :
  Ct prog 59 [.agg #[.slice p0_0 n0_0 c0_0, I a0.h]] w [] (fun rv h' => rv = .bool r ∧ h' = []) := by
 subst hn0_0
 unfold i_CacheValid at H0
 refine ct_of_cw func59 J ntmps59 J (Sat.refl _ _) ?_
 refine sr (oE (stpU_box 0 J J) J ?_)
 rintro _ _ ⟨b1, rfl, rfl⟩
 obtain ⟨y2, ey2, H0⟩ := bS H0
 refine ss J (oAL 0 u29 J ts27 J 0 J (oD (stp_len u27 J) J (sq J (oM J (oW J (oM J (ow_cutY 3 17 y2 ?_ ?_)))))))
 ·rcases Bool.eq_false_or_eq_true (decide (((a0.l).length : Int) < 1)) with hy2 | hy2
  ·have ey2 := cond_t ey2 hy2
   refine oO J hy2 J (oO J hy2 J (oD (stp_pick_t J hy2 J) J ?_))
   obtain rfl := sI ey2
   exact ow_nil (jy 3 0)
  have ey2 := cond_f ey2 hy2
  refine oG J hy2 (mv J) J (oG J hy2 (stp_gtr J J) J (oD (stp_pick_f J hy2 J) J ?_))
  obtain rfl := sI ey2
  exact ow_nil (jy 3 0)
 obtain ⟨y3, ey3, H0⟩ := bS H0
 refine oM J (ow_cutY 6 24 y3 ?_ ?_)
 ·rcases Bool.eq_false_or_eq_true y2 with hy3 | hy3
  ·have ey3 := cond_t ey3 hy3
   refine oO J hy3 J (oO J hy3 J (oO J hy3 J (oO J hy3 J (oO J hy3 J (oD (stp_pick_t J hy3 J) J ?_)))))
   obtain rfl := sI ey3
   exact ow_nil (jy 6 0)
  have ey3 := cond_f ey3 hy3
  obtain ⟨x4, e4, ey3⟩ := bS ey3
  refine oG J hy3 (fA 1 u29 J ts3 J J J) J (oG J hy3 (lB 0 ts3 J J J) J (oG J hy3 (mv J) J (ow_eff (.some J hy3) (uC 1 cf32 (fun w hw => c_i_within fl w a0.h ((a0.l).length : Int) x4 e4) (yB J J)) J ?_)))
  rintro _ _ ⟨_, ⟨rfl, rfl⟩, rfl⟩
  refine oG J hy3 (stp_not J) J (oD (stp_pick_f J hy3 J) J ?_)
  obtain rfl := sI ey3
  exact ow_nil (jy 6 0)
 refine ow_nil (kw_nx (cH J H0 (fun H0 => ?_) (fun H0 => ?_)))
 ·refine sr (sr1 J (kR ?_))
  obtain rfl := sI H0
  exact kr results59 (rT J) [] ⟨J, J⟩
 obtain ⟨o0_0, eo0_0, H0⟩ := bS H0
 refine ks (sq J (oAL 0 u29 J ts27 J 0 J (oD (stp_len u27 J) J (oM J (nn (lp (fun f a b => i_CacheValid_L0 fl a0 f a b = some o0_0) (fun a b => o0_0 = .out (a, b)) (fun R s h => ∃ v6 v7, R v6 v7 ∧ s = [(1, .pointer (some ⟨b1, 0, none⟩)), (4, .bool v7), (26, .slice p0_0 ((a0.l).length) c0_0), (27, I ((a0.l).length : Int)), (28, I v6)] ∧ h = [(0, [(b1, .cells #[.slice p0_0 ((a0.l).length) c0_0, I a0.h] 29 (0, 0))])]) ⟨_, _, eo0_0, J, J⟩ ?_ ?_))))))
 ·rintro fuel _ _ ⟨v6, v7, H1, rfl, rfl⟩
  rcases fuel with _ | fuel
  ·rw [i_CacheValid_L0.eq_1] at H1; cases H1
  rw [i_CacheValid_L0.eq_2] at H1
  refine sr (oW J (nn (cq (cH J H1 (fun H1 => ?_) (fun H1 => ?_)))))
  ·obtain ⟨x9, e9, H1⟩ := bS H1
   refine kq (cw_block (sr (oM J (oD (stp_indexAddr u27 ts104 (by decide) J J J (Rdb.ro hr0_0) e9) J (oD (stp_loadN (us := [_, _, _, _, _, _]) ts104 J (Cells.el (Rdb.ro hr0_0) (by decide) e9 0 6 J)) J (oE (stpU_alloc 1 tz104 J) J ?_))))))
   rintro _ _ ⟨b10, rfl, rfl⟩
   obtain ⟨x11, e11, H1⟩ := bS H1
   refine oS J (oC6 1 ts104 J J (nq (oB6 1 ts104 J (oE (uC 2 cf106 (fun w hw => c_i_lineValid fl w x9 x11 e11) (yA J)) J ?_))))
   rintro _ _ ⟨_, ⟨rfl, rfl⟩, rfl⟩
   refine oK J (nn (cH J H1 (fun H1 => ?_) (fun H1 => ?_)))
   ·refine sr (sR J (kw_bl_ret (kR (ar (kw_bl_ret (xr (kR ?_)))))))
    obtain rfl := sI H1
    obtain rfl := sI H0
    exact kr results59 (rT J) [] ⟨J, J⟩
   obtain ⟨x13, e13, H1⟩ := bS H1
   obtain ⟨o1_1, eo1_1, H1⟩ := bS H1
   refine kq (sr (oAL 0 u29 J ts27 J 0 J (oM J (oD (stp_take u27 ts104 J J J (Rdb.ro hr0_0) e13) J (oD (stp_len u27 J) J (oM J (nn (lp (fun f a => i_CacheValid_L1 fl x9 x13 f a = some o1_1) (fun a => o1_1 = .out a) (fun R s h => ∃ v14, R v14 ∧ s = [(1, .pointer (some ⟨b1, 0, none⟩)), (4, .bool v7), (6, .pointer (some ⟨b10, 0, none⟩)), (26, .slice p0_0 ((a0.l).length) c0_0), (27, I ((a0.l).length : Int)), (28, I v6), (39, .slice p0_0 ((x13).length) c0_0), (40, I ((x13).length : Int)), (41, I v14)] ∧ h = [(0, [(b1, .cells #[.slice p0_0 ((a0.l).length) c0_0, I a0.h] 29 (0, 0))]), (1, [(b10, .cells #[.bool x9.va, I x9.tg, I x9.pg, I x9.fr, I x9.ri, .bool x9.wi] 104 (0, 0))])]) ⟨_, eo1_1, J, J⟩ ?_ ?_))))))))
   ·rintro fuel _ _ ⟨v14, H2, rfl, rfl⟩
    try dsimp only at H2
    rcases fuel with _ | fuel
    ·rw [i_CacheValid_L1.eq_1] at H2; cases H2
    rw [i_CacheValid_L1.eq_2] at H2
    refine sr (oW J (nn (cq (cH J H2 (fun H2 => ?_) (fun H2 => ?_)))))
    ·obtain ⟨x16, e16, H2⟩ := bS H2
     refine kq (cw_block (sr (oD (stp_indexAddr u27 ts104 (by decide) J J J (Rdb.ro (RO.take hr0_0 e13)) e16) J (oD (stp_loadN (us := [_, _, _, _, _, _]) ts104 J (Cells.el (Rdb.ro (RO.take hr0_0 e13)) (by decide) e16 0 6 J)) J (oE (stpU_alloc 2 tz104 J) J ?_)))))
     rintro _ _ ⟨b17, rfl, rfl⟩
     obtain ⟨x18, e18, H2⟩ := bS H2
     refine oC6 2 ts104 J J (ns (oB6 1 ts104 J (oB6 2 ts104 J (oE (uC 3 cf107 (fun w hw => c_i_clash fl w x9 x16 x18 e18) (yB J J)) J ?_))))
     rintro _ _ ⟨_, ⟨rfl, rfl⟩, rfl⟩
     refine nn (cH J H2 (fun H2 => ?_) (fun H2 => ?_))
     ·refine sr (sr1 J (kw_bl_ret (kR (ar (kw_bl_ret (xr (kR (kw_bl_ret (kR (ar (kw_bl_ret ?_)))))))))))
      refine xr (kR ?_)
      obtain rfl := sI H2
      obtain rfl := sI H1
      obtain rfl := sI H0
      exact kr results59 (rT J) [] ⟨J, J⟩
     obtain ⟨x20, e20, H2⟩ := bS H2
     exact cw_skip (kb (cR (oP e20 J (oM J (ow_nil (ka ⟨_, H2, J, J⟩))))))
    refine cw_exit (kw_nx_exit (ax (kw_bl ?_)))
    obtain rfl := sI H2
    exact kx ⟨_, J, J, J⟩
   rintro _ _ ⟨v14, rfl, rfl, rfl⟩
   obtain ⟨y21, ey21, H1⟩ := bS H1
   refine kw_nx (cR (oM J (oM J (ow_cutY 4 54 y21 ?_ ?_))))
   ·rcases Bool.eq_false_or_eq_true v7 with hy21 | hy21
    ·have ey21 := cond_t ey21 hy21
     refine oO J hy21 J (oO J hy21 J (oO J hy21 J (oD (stp_pick_t J hy21 J) J ?_)))
     obtain rfl := sI ey21
     exact ow_nil (jy 4 0)
    have ey21 := cond_f ey21 hy21
    refine oG J hy21 (fA 5 u104 J ts4 J J J) J (oG J hy21 (lB 1 ts4 J J J) J (oG J hy21 (stp_not J) J (oD (stp_pick_f J hy21 J) J ?_)))
    obtain rfl := sI ey21
    exact ow_nil (jy 4 0)
   obtain ⟨x22, e22, H1⟩ := bS H1
   exact oS J (ow_nil (kb (cR (oP e22 J (oM J (ow_nil (ka ⟨_, _, H1, J, J⟩)))))))
  refine cw_exit (kw_nx_exit (ax (kw_bl ?_)))
  obtain rfl := sI H1
  exact kx ⟨_, _, J, J, J⟩
 rintro _ _ ⟨v6, v7, rfl, rfl, rfl⟩
 refine kw_nx (sr (oM J (sn J (cw_ret ?_))))
 obtain rfl := sI H0
 exact kr results59 (rT J) [] ⟨J, J⟩

theorem c_i_TagsValid (fl : Nat) (w : World) (a0 : Tg) (hn0_0 : n0_0 = (a0.o).length) (hr0_0 : RO w [] (RdL p0_0 c0_0 a0.o)) (r : Bool) (H0 : i_TagsValid fl a0 = some r) :
  Ct prog 60 [.agg #[I a0.c, I a0.n, I a0.r, .slice p0_0 n0_0 c0_0]] w [] (fun rv h' => rv = .bool r ∧ h' = []) := by
 subst hn0_0
 unfold i_TagsValid at H0
 refine ct_of_cw func60 J ntmps60 J (Sat.refl _ _) ?_
 refine sr (oE (stpU_box 0 J J) J ?_)
 rintro _ _ ⟨b1, rfl, rfl⟩
 obtain ⟨y2, ey2, H0⟩ := bS H0
 refine sq J (oAL 0 u32 J ts3 J 0 J (oW J (oM J (ow_cutY 4 14 y2 ?_ ?_))))
 ·rcases Bool.eq_false_or_eq_true (decide (a0.c < 1)) with hy2 | hy2
  ·have ey2 := cond_t ey2 hy2
   refine oO J hy2 J (oO J hy2 J (oO J hy2 J (oD (stp_pick_t J hy2 J) J ?_)))
   obtain rfl := sI ey2
   exact ow_nil (jy 4 0)
  have ey2 := cond_f ey2 hy2
  refine oG J hy2 (fA 0 u32 J ts3 J J J) J (oG J hy2 (lB 0 ts3 J J J) J (oG J hy2 (stp_gtr J J) J (oD (stp_pick_f J hy2 J) J ?_)))
  obtain rfl := sI ey2
  exact ow_nil (jy 4 0)
 obtain ⟨y3, ey3, H0⟩ := bS H0
 refine oM J (ow_cutY 4 19 y3 ?_ ?_)
 ·rcases Bool.eq_false_or_eq_true y2 with hy3 | hy3
  ·have ey3 := cond_t ey3 hy3
   refine oO J hy3 J (oO J hy3 J (oO J hy3 J (oD (stp_pick_t J hy3 J) J ?_)))
   obtain rfl := sI ey3
   exact ow_nil (jy 4 0)
  have ey3 := cond_f ey3 hy3
  refine oG J hy3 (fA 1 u32 J ts3 J J J) J (oG J hy3 (lB 0 ts3 J J J) J (oG J hy3 (stp_lss J J) J (oD (stp_pick_f J hy3 J) J ?_)))
  obtain rfl := sI ey3
  exact ow_nil (jy 4 0)
 obtain ⟨y4, ey4, H0⟩ := bS H0
 refine oM J (ow_cutY 6 26 y4 ?_ ?_)
 ·rcases Bool.eq_false_or_eq_true y3 with hy4 | hy4
  ·have ey4 := cond_t ey4 hy4
   refine oO J hy4 J (oO J hy4 J (oO J hy4 J (oO J hy4 J (oO J hy4 J (oD (stp_pick_t J hy4 J) J ?_)))))
   obtain rfl := sI ey4
   exact ow_nil (jy 6 0)
  have ey4 := cond_f ey4 hy4
  refine oG J hy4 (fA 1 u32 J ts3 J J J) J (oG J hy4 (lB 0 ts3 J J J) J (oG J hy4 (fA 0 u32 J ts3 J J J) J (oG J hy4 (lB 0 ts3 J J J) J (oG J hy4 (stp_gtr J J) J (oD (stp_pick_f J hy4 J) J ?_)))))
  obtain rfl := sI ey4
  exact ow_nil (jy 6 0)
 obtain ⟨y5, ey5, H0⟩ := bS H0
 refine oM J (ow_cutY 4 31 y5 ?_ ?_)
 ·rcases Bool.eq_false_or_eq_true y4 with hy5 | hy5
  ·have ey5 := cond_t ey5 hy5
   refine oO J hy5 J (oO J hy5 J (oO J hy5 J (oD (stp_pick_t J hy5 J) J ?_)))
   obtain rfl := sI ey5
   exact ow_nil (jy 4 0)
  have ey5 := cond_f ey5 hy5
  refine oG J hy5 (fA 2 u32 J ts3 J J J) J (oG J hy5 (lB 0 ts3 J J J) J (oG J hy5 (stp_lss J J) J (oD (stp_pick_f J hy5 J) J ?_)))
  obtain rfl := sI ey5
  exact ow_nil (jy 4 0)
 obtain ⟨y6, ey6, H0⟩ := bS H0
 refine oM J (ow_cutY 4 36 y6 ?_ ?_)
 ·rcases Bool.eq_false_or_eq_true y5 with hy6 | hy6
  ·have ey6 := cond_t ey6 hy6
   refine oO J hy6 J (oO J hy6 J (oO J hy6 J (oD (stp_pick_t J hy6 J) J ?_)))
   obtain rfl := sI ey6
   exact ow_nil (jy 4 0)
  have ey6 := cond_f ey6 hy6
  refine oG J hy6 (fA 2 u32 J ts3 J J J) J (oG J hy6 (lB 0 ts3 J J J) J (oG J hy6 (stp_gtr J J) J (oD (stp_pick_f J hy6 J) J ?_)))
  obtain rfl := sI ey6
  exact ow_nil (jy 4 0)
 refine ow_nil (kw_nx (cH J H0 (fun H0 => ?_) (fun H0 => ?_)))
 ·refine sr (sr1 J (kR ?_))
  obtain rfl := sI H0
  exact kr results60 (rT J) [] ⟨J, J⟩
 refine ks (oE (stpU_makeMap 1 3) J ?_)
 rintro _ _ ⟨b8, C9, rfl, rfl, o9⟩
 obtain ⟨o0_0, eo0_0, H0⟩ := bS H0
 refine ss J (sq J (oAL 3 u32 J ts30 J 0 J (oD (stp_len u30 J) J (oM J (nn (lp (fun f a b c => i_TagsValid_L0 fl a0 f a b c = some o0_0) (fun a b c => o0_0 = .out (a, b, c)) (fun R s h => ∃ v10 v12 v13 C11, R v10 v12 v13 ∧ s = [(1, .pointer (some ⟨b1, 0, none⟩)), (3, .map (some b8)), (4, I v12), (39, .slice p0_0 ((a0.o).length) c0_0), (40, I ((a0.o).length : Int)), (41, I v13)] ∧ h = [(0, [(b1, .cells #[I a0.c, I a0.n, I a0.r, .slice p0_0 ((a0.o).length) c0_0] 32 (0, 0))]), (1, C11)] ∧ True ∧ OwnM prog 3 b8 v10 C11) ⟨_, _, _, C9, eo0_0, J, J, trivial, o9⟩ ?_ ?_))))))
 ·rintro fuel _ _ ⟨v10, v12, v13, C11, H1, rfl, rfl, hl11, o11⟩
  rcases fuel with _ | fuel
  ·rw [i_TagsValid_L0.eq_1] at H1; cases H1
  rw [i_TagsValid_L0.eq_2] at H1
  refine sr (oW J (nn (cq (cH J H1 (fun H1 => ?_) (fun H1 => ?_)))))
  ·obtain ⟨x15, e15, H1⟩ := bS H1
   refine kq (cw_block (sr (oD (stp_indexAddr u30 ts70 (by decide) J J J (Rdb.ro hr0_0) e15) J (oD (stp_loadN (us := [_, _]) ts70 J (Cells.el (Rdb.ro hr0_0) (by decide) e15 0 2 J)) J (oE (stpU_alloc 2 tz70 J) J ?_)))))
   rintro _ _ ⟨b16, rfl, rfl⟩
   obtain ⟨y17, ey17, H1⟩ := bS H1
   refine oC2 2 ts70 J J (nq (oAL 1 u70 J ts3 J 2 J (oM J (oV J (oM J (ow_cutY 6 55 y17 ?_ ?_))))))
   ·rcases Bool.eq_false_or_eq_true (decide (x15.tg ≤ v12)) with hy17 | hy17
    ·have ey17 := cond_t ey17 hy17
     refine oO J hy17 J (oO J hy17 J (oO J hy17 J (oO J hy17 J (oO J hy17 J (oD (stp_pick_t J hy17 J) J ?_)))))
     obtain rfl := sI ey17
     exact ow_nil (jy 6 0)
    have ey17 := cond_f ey17 hy17
    refine oG J hy17 (fA 1 u70 J ts3 J J J) J (oG J hy17 (lB 2 ts3 J J J) J (oG J hy17 (fA 1 u32 J ts3 J J J) J (oG J hy17 (lB 0 ts3 J J J) J (oG J hy17 (stp_geq J J) J (oD (stp_pick_f J hy17 J) J ?_)))))
    obtain rfl := sI ey17
    exact ow_nil (jy 6 0)
   obtain ⟨y18, ey18, H1⟩ := bS H1
   refine oM J (ow_cutY 5 61 y18 ?_ ?_)
   ·rcases Bool.eq_false_or_eq_true y17 with hy18 | hy18
    ·have ey18 := cond_t ey18 hy18
     refine oO J hy18 J (oO J hy18 J (oO J hy18 J (oO J hy18 J (oD (stp_pick_t J hy18 J) J ?_))))
     obtain rfl := sI ey18
     exact ow_nil (jy 5 0)
    have ey18 := cond_f ey18 hy18
    obtain ⟨x19, e19, ey18⟩ := bS ey18
    refine oG J hy18 (fA 0 u70 J ts3 J J J) J (oG J hy18 (lB 2 ts3 J J J) J (ow_eff (.some J hy18) (uC 3 cf32 (fun w hw => c_i_within fl w x15.sp 16 x19 e19) (yB J J)) J ?_))
    rintro _ _ ⟨_, ⟨rfl, rfl⟩, rfl⟩
    refine oG J hy18 (stp_not J) J (oD (stp_pick_f J hy18 J) J ?_)
    obtain rfl := sI ey18
    exact ow_nil (jy 5 0)
   obtain ⟨y20, ey20, H1⟩ := bS H1
   refine oM J (ow_cutY 5 67 y20 ?_ ?_)
   ·rcases Bool.eq_false_or_eq_true y18 with hy20 | hy20
    ·have ey20 := cond_t ey20 hy20
     refine oO J hy20 J (oO J hy20 J (oO J hy20 J (oO J hy20 J (oD (stp_pick_t J hy20 J) J ?_))))
     obtain rfl := sI ey20
     exact ow_nil (jy 5 0)
    have ey20 := cond_f ey20 hy20
    obtain ⟨x21, e21, ey20⟩ := bS ey20
    refine oG J hy20 (mv J) J (oG J hy20 (fA 0 u70 J ts3 J J J) J (oG J hy20 (lB 2 ts3 J J J) J (oG J hy20 (stp_has (id := 1) keyInt isKeyInt u107 tz4 J J J o11 e21) J (oD (stp_pick_f J hy20 J) J ?_))))
    obtain rfl := sI ey20
    exact ow_nil (jy 5 0)
   refine ow_nil (kw_nx (cH J H1 (fun H1 => ?_) (fun H1 => ?_)))
   ·refine sr (sR J (kw_bl_ret (kR (ar (kw_bl_ret (xr (kR ?_)))))))
    obtain rfl := sI H1
    obtain rfl := sI H0
    exact kr results60 (rT J) [] ⟨J, J⟩
   obtain ⟨x23, e23, H1⟩ := bS H1
   refine ks (oAL 1 u70 J ts3 J 2 J (sn J (cR (oM J (oAL 0 u70 J ts3 J 2 J (oF (stpU_add (id := 1) keyInt isKeyInt u107 J J J J o11 e23) ?_))))))
   rintro _ _ ⟨C24, rfl, o24⟩
   obtain ⟨x25, e25, H1⟩ := bS H1
   exact ow_nil (kb (cR (oP e25 J (oM J (ow_nil (ka ⟨_, _, _, C24, H1, J, J, trivial, o24⟩))))))
  refine cw_exit (kw_nx_exit (ax (kw_bl ?_)))
  obtain rfl := sI H1
  exact kx ⟨_, _, _, C11, J, J, J, trivial, o11⟩
 rintro _ _ ⟨v10, v12, v13, C11, rfl, rfl, rfl, hl11, o11⟩
 refine kw_nx (sr (sn J (cw_ret ?_)))
 obtain rfl := sI H0
 exact kr results60 (rT J) [] ⟨J, J⟩

theorem c_i_Tags_own_1 (fl : Nat) (w : World) (a0 : Ow) (qc0 : Nat) (ac0 : Int) (hbac0 : RO w [] (fun w' => w'.rangeAt qc0 0 [I ac0])) (r : Bool) (H0 : i_Tags_own_1 fl a0 ac0 = some r) :
  Ct prog 109 [.agg #[I a0.sp, I a0.tg], .pointer (some ⟨qc0, 0, none⟩)] w [] (fun rv h' => rv = .bool r ∧ h' = []) := by
 unfold i_Tags_own_1 at H0
 refine ct_of_cw func109 J ntmps109 J (Sat.refl _ _) ?_
 refine sr (oE (stpU_box 0 J J) J ?_)
 rintro _ _ ⟨b1, rfl, rfl⟩
 refine ss J (oAL 0 u70 J ts3 J 0 J (oD (stp_load1 ts3 J (Cells.ofRO hbac0 1 J)) J (oQ J (sn J (cw_ret ?_)))))
 obtain rfl := sI H0
 exact kr results109 (rT J) [] ⟨J, J⟩

theorem c_slices_IndexFunc_Own_of_i_Tags_own_1 (fl : Nat) (w : World) (a0 : (List Ow)) (q1_0 : Nat) (a1_0 : Int) (hn0_0 : n0_0 = (a0).length) (hr0_0 : RO w [] (RdL p0_0 c0_0 a0)) (hba1_0 : RO w [] (fun w' => w'.rangeAt q1_0 0 [I a1_0])) (r : Int) (H0 : slices_IndexFunc_Own_of_i_Tags_own_1 fl a0 a1_0 = some r) :
  Ct prog 108 [.slice p0_0 n0_0 c0_0, .func (.func 109) #[] #[.pointer (some ⟨q1_0, 0, none⟩)]] w [] (fun rv h' => rv = I r ∧ h' = []) := by
 subst hn0_0
 unfold slices_IndexFunc_Own_of_i_Tags_own_1 at H0
 refine ct_of_cw func108 J ntmps108 J (Sat.refl _ _) ?_
 obtain ⟨o0_0, eo0_0, H0⟩ := bS H0
 refine sr (sq J (oM J (oD (stp_len u30 J) J (oM J (nn (lp (fun f a => slices_IndexFunc_Own_of_i_Tags_own_1_L0 fl a0 a1_0 f a = some o0_0) (fun a => o0_0 = .out a) (fun R s h => ∃ v1, R v1 ∧ s = [(0, .slice p0_0 ((a0).length) c0_0), (1, .func (.func 109) #[] #[.pointer (some ⟨q1_0, 0, none⟩)]), (7, I ((a0).length : Int)), (8, I v1)] ∧ h = []) ⟨_, eo0_0, J, J⟩ ?_ ?_))))))
 ·rintro fuel _ _ ⟨v1, H1, rfl, rfl⟩
  rcases fuel with _ | fuel
  ·rw [slices_IndexFunc_Own_of_i_Tags_own_1_L0.eq_1] at H1; cases H1
  rw [slices_IndexFunc_Own_of_i_Tags_own_1_L0.eq_2] at H1
  refine sr (oW J (nn (cq (cH J H1 (fun H1 => ?_) (fun H1 => ?_)))))
  ·obtain ⟨x3, e3, H1⟩ := bS H1
   refine kq (cw_block (sr (oM J (ss J (oM J (oM J (oM J (oD (stp_indexAddr u30 ts70 (by decide) J J J (Rdb.ro hr0_0) e3) J (oD (stp_loadN (us := [_, _]) ts70 J (Cells.el (Rdb.ro hr0_0) (by decide) e3 0 2 J)) J ?_)))))))))
   obtain ⟨x4, e4, H1⟩ := bS H1
   refine oE (stpU_callF (vals := [_]) (ca := [_]) (fun i => 0 + i) cf109 (fun w hw => c_i_Tags_own_1 fl w x3 q1_0 a1_0 (rp hba1_0 hw) x4 e4) J (yA J)) J ?_
   rintro _ _ ⟨_, ⟨rfl, rfl⟩, rfl⟩
   refine nn (cH J H1 (fun H1 => ?_) (fun H1 => ?_))
   ·refine sr (oM J (sr1 J (kw_bl_ret (kR (ar (kw_bl_ret (xr (kR ?_))))))))
    obtain rfl := sI H1
    obtain rfl := sI H0
    exact kr results108 (rT J) [] ⟨J, J⟩
   obtain ⟨x6, e6, H1⟩ := bS H1
   exact cw_skip (kb (cR (oP e6 J (oM J (ow_nil (ka ⟨_, H1, J, J⟩))))))
  refine cw_exit (kw_nx_exit (ax (kw_bl ?_)))
  obtain rfl := sI H1
  exact kx ⟨_, J, J, J⟩
 rintro _ _ ⟨v1, rfl, rfl, rfl⟩
 refine kw_nx (sr (sn J (cw_ret ?_)))
 obtain rfl := sI H0
 exact kr results108 (rT J) [] ⟨J, J⟩

theorem c_i_Tags_own (fl : Nat) (w : World) (a0 : Tg) (a1 : Int) (hn0_0 : n0_0 = (a0.o).length) (hr0_0 : RO w [] (RdL p0_0 c0_0 a0.o)) (r : Int) (H0 : i_Tags_own fl a0 a1 = some r) :
  Ct prog 61 [.agg #[I a0.c, I a0.n, I a0.r, .slice p0_0 n0_0 c0_0], I a1] w [] (fun rv h' => rv = I r ∧ h' = []) := by
 subst hn0_0
 unfold i_Tags_own at H0
 refine ct_of_cw func61 J ntmps61 J (Sat.refl _ _) ?_
 refine sr (oE (stpU_box 0 J J) J ?_)
 rintro _ _ ⟨b1, rfl, rfl⟩
 refine oE (stpU_box 1 J J) J ?_
 rintro _ _ ⟨b2, rfl, rfl⟩
 obtain ⟨x3, e3, H0⟩ := bS H0
 refine ss J (oAL 3 u32 J ts30 J 0 J (oD (stp_makeFunc (yA J)) J (oE (uC 2 cf108 (fun w hw => c_slices_IndexFunc_Own_of_i_Tags_own_1 fl w a0.o b2 a1 J (rp hr0_0 hw) (box_pass (id := 1) J hw) x3 e3) (yB J J)) J ?_)))
 rintro _ _ ⟨_, ⟨rfl, rfl⟩, rfl⟩
 refine sn J (cw_ret ?_)
 obtain rfl := sI H0
 exact kr results61 (rT J) [] ⟨J, J⟩

theorem c_i_SpaceOf (fl : Nat) (w : World) (a0 : Tg) (a1 : Int) (hn0_0 : n0_0 = (a0.o).length) (hr0_0 : RO w [] (RdL p0_0 c0_0 a0.o)) (r : Int × Bool) (H0 : i_SpaceOf fl a0 a1 = some r) :
  Ct prog 62 [.agg #[I a0.c, I a0.n, I a0.r, .slice p0_0 n0_0 c0_0], I a1] w [] (fun rv h' => rv = .tuple #[I r.1, .bool r.2] ∧ h' = []) := by
 subst hn0_0
 unfold i_SpaceOf at H0
 refine ct_of_cw func62 J ntmps62 J (Sat.refl _ _) ?_
 refine sr (oE (stpU_box 0 J J) J ?_)
 rintro _ _ ⟨b1, rfl, rfl⟩
 obtain ⟨x2, e2, H0⟩ := bS H0
 refine oS J (sq J (oB4 0 ts32 J (oE (uC 1 cf60 (fun w hw => c_i_TagsValid fl w a0 J (rp hr0_0 hw) x2 e2) (yA J)) J ?_)))
 rintro _ _ ⟨_, ⟨rfl, rfl⟩, rfl⟩
 refine oK J (nn (cH J H0 (fun H0 => ?_) (fun H0 => ?_)))
 ·refine sr (oS J (sr1 J (kR ?_)))
  obtain rfl := sI H0
  exact kr results62 (.cons (.tmp J) (rT J)) [] ⟨J, J⟩
 obtain ⟨o0_0, eo0_0, H0⟩ := bS H0
 refine kq (sr (oAL 3 u32 J ts30 J 0 J (oD (stp_len u30 J) J (oM J (nn (lp (fun f a => i_SpaceOf_L0 fl a0 a1 f a = some o0_0) (fun a => o0_0 = .out a) (fun R s h => ∃ v4, R v4 ∧ s = [(1, I a1), (12, .slice p0_0 ((a0.o).length) c0_0), (13, I ((a0.o).length : Int)), (14, I v4)] ∧ h = []) ⟨_, eo0_0, J, J⟩ ?_ ?_))))))
 ·rintro fuel _ _ ⟨v4, H1, rfl, rfl⟩
  rcases fuel with _ | fuel
  ·rw [i_SpaceOf_L0.eq_1] at H1; cases H1
  rw [i_SpaceOf_L0.eq_2] at H1
  refine sr (oW J (nn (cq (cH J H1 (fun H1 => ?_) (fun H1 => ?_)))))
  ·obtain ⟨x6, e6, H1⟩ := bS H1
   refine kq (cw_block (sr (oD (stp_indexAddr u30 ts70 (by decide) J J J (Rdb.ro hr0_0) e6) J (oD (stp_loadN (us := [_, _]) ts70 J (Cells.el (Rdb.ro hr0_0) (by decide) e6 0 2 J)) J (oE (stpU_alloc 1 tz70 J) J ?_)))))
   rintro _ _ ⟨b7, rfl, rfl⟩
   refine oC2 1 ts70 J J (ns (oAL 1 u70 J ts3 J 1 J (oM J (oQ J (nn (cH J H1 (fun H1 => ?_) (fun H1 => ?_)))))))
   ·refine sr (oAL 0 u70 J ts3 J 1 J (oS J (sr1 J (kw_bl_ret (kR (ar (kw_bl_ret (xr (kR ?_)))))))))
    obtain rfl := sI H1
    obtain rfl := sI H0
    exact kr results62 (.cons (.tmp J) (rT J)) [] ⟨J, J⟩
   obtain ⟨x9, e9, H1⟩ := bS H1
   exact cw_skip (kb (cR (oP e9 J (oM J (ow_nil (ka ⟨_, H1, J, J⟩))))))
  refine cw_exit (kw_nx_exit (ax (kw_bl ?_)))
  obtain rfl := sI H1
  exact kx ⟨_, J, J, J⟩
 rintro _ _ ⟨v4, rfl, rfl, rfl⟩
 refine kw_nx (sr (oS J (sn J (cw_ret ?_))))
 obtain rfl := sI H0
 exact kr results62 (.cons (.tmp J) (rT J)) [] ⟨J, J⟩

theorem c_i_KeyFor (fl : Nat) (w : World) (a0 : Int) (a1 : Int) (r : K) (H0 : i_KeyFor fl a0 a1 = some r) :
  Ct prog 16 [I a0, I a1] w [] (fun rv h' => rv = .agg #[I r.s, I r.p] ∧ h' = []) := by
 unfold i_KeyFor at H0
 refine ct_of_cw func16 J ntmps16 J (Sat.refl _ _) ?_
 refine sr (oE (stpU_alloc 0 tz50 J) J ?_)
 rintro _ _ ⟨b1, rfl, rfl⟩
 refine nq (oM J (oI J (nn (cH J H0 (fun H0 => ?_) (fun H0 => ?_)))))
 ·refine cR (ss J (oM J (oM J (oD (stp_build (cs := #[I 0, I a1]) (sP J (sP J sE)) bt50_13) J (oC2 0 ts50 J J (nn (cw_ret ?_)))))))
  obtain rfl := sI H0
  exact kr results16 (rC2 0 ts50 J J) [] ⟨J, J⟩
 refine ks (oM J (oM J (oD (stp_build (cs := #[I a0, I a1]) (sP J (sP J sE)) bt50_13) J (oC2 0 ts50 J J (nn (cw_ret ?_))))))
 obtain rfl := sI H0
 exact kr results16 (rC2 0 ts50 J J) [] ⟨J, J⟩

theorem c_i_Table_find_1 (fl : Nat) (w : World) (a0 : F) (qc0 : Nat) (ac0 : K) (hbac0 : RO w [] (fun w' => w'.rangeAt qc0 0 [I ac0.s, I ac0.p])) (r : Bool) (H0 : i_Table_find_1 fl a0 ac0 = some r) :
  Ct prog 66 [.agg #[.bool a0.u, I a0.k.s, I a0.k.p, I a0.r, I a0.nx], .pointer (some ⟨qc0, 0, none⟩)] w [] (fun rv h' => rv = .bool r ∧ h' = []) := by
 unfold i_Table_find_1 at H0
 refine ct_of_cw func66 J ntmps66 J (Sat.refl _ _) ?_
 refine sr (oE (stpU_box 0 J J) J ?_)
 rintro _ _ ⟨b1, rfl, rfl⟩
 obtain ⟨y2, ey2, H0⟩ := bS H0
 refine ss J (oAL 0 u57 J ts4 J 0 J (oM J (ow_cutY 5 11 y2 ?_ ?_)))
 ·rcases Bool.eq_false_or_eq_true a0.u with hy2 | hy2
  ·have ey2 := cond_t ey2 hy2
   refine oG J hy2 (fA 1 u57 J ts50 J J J) J (oG J hy2 (stp_loadN (us := [_, _]) ts50 J (Cells.box (id := 0) J 2 J)) J (oG J hy2 (stp_loadN (us := [_, _]) ts50 J (Cells.ofRO hbac0 2 J)) J (oG J hy2 (stp_eqlS te50 a0.k ac0 J J) J (oD (stp_pick_t J hy2 J) J ?_))))
   obtain rfl := sI ey2
   exact ow_nil (jy 5 0)
  have ey2 := cond_f ey2 hy2
  refine oO J hy2 J (oO J hy2 J (oO J hy2 J (oO J hy2 J (oD (stp_pick_f J hy2 J) J ?_))))
  obtain rfl := sI ey2
  exact ow_nil (jy 5 0)
 refine sn J (cw_ret ?_)
 obtain rfl := sI H0
 exact kr results66 (rT J) [] ⟨J, J⟩

theorem c_slices_IndexFunc_Frame_of_i_Table_find_1 (fl : Nat) (w : World) (a0 : (List F)) (q1_0 : Nat) (a1_0 : K) (hn0_0 : n0_0 = (a0).length) (hr0_0 : RO w [] (RdL p0_0 c0_0 a0)) (hba1_0 : RO w [] (fun w' => w'.rangeAt q1_0 0 [I a1_0.s, I a1_0.p])) (r : Int) (H0 : slices_IndexFunc_Frame_of_i_Table_find_1 fl a0 a1_0 = some r) :
  Ct prog 65 [.slice p0_0 n0_0 c0_0, .func (.func 66) #[] #[.pointer (some ⟨q1_0, 0, none⟩)]] w [] (fun rv h' => rv = I r ∧ h' = []) := by
 subst hn0_0
 unfold slices_IndexFunc_Frame_of_i_Table_find_1 at H0
 refine ct_of_cw func65 J ntmps65 J (Sat.refl _ _) ?_
 obtain ⟨o0_0, eo0_0, H0⟩ := bS H0
 refine sr (sq J (oM J (oD (stp_len u24 J) J (oM J (nn (lp (fun f a => slices_IndexFunc_Frame_of_i_Table_find_1_L0 fl a0 a1_0 f a = some o0_0) (fun a => o0_0 = .out a) (fun R s h => ∃ v1, R v1 ∧ s = [(0, .slice p0_0 ((a0).length) c0_0), (1, .func (.func 66) #[] #[.pointer (some ⟨q1_0, 0, none⟩)]), (7, I ((a0).length : Int)), (8, I v1)] ∧ h = []) ⟨_, eo0_0, J, J⟩ ?_ ?_))))))
 ·rintro fuel _ _ ⟨v1, H1, rfl, rfl⟩
  rcases fuel with _ | fuel
  ·rw [slices_IndexFunc_Frame_of_i_Table_find_1_L0.eq_1] at H1; cases H1
  rw [slices_IndexFunc_Frame_of_i_Table_find_1_L0.eq_2] at H1
  refine sr (oW J (nn (cq (cH J H1 (fun H1 => ?_) (fun H1 => ?_)))))
  ·obtain ⟨x3, e3, H1⟩ := bS H1
   refine kq (cw_block (sr (oM J (ss J (oM J (oM J (oM J (oD (stp_indexAddr u24 ts57 (by decide) J J J (Rdb.ro hr0_0) e3) J (oD (stp_loadN (us := [_, _, _, _, _]) ts57 J (Cells.el (Rdb.ro hr0_0) (by decide) e3 0 5 J)) J ?_)))))))))
   obtain ⟨x4, e4, H1⟩ := bS H1
   refine oE (stpU_callF (vals := [_]) (ca := [_]) (fun i => 0 + i) cf66 (fun w hw => c_i_Table_find_1 fl w x3 q1_0 a1_0 (rp hba1_0 hw) x4 e4) J (yA J)) J ?_
   rintro _ _ ⟨_, ⟨rfl, rfl⟩, rfl⟩
   refine nn (cH J H1 (fun H1 => ?_) (fun H1 => ?_))
   ·refine sr (oM J (sr1 J (kw_bl_ret (kR (ar (kw_bl_ret (xr (kR ?_))))))))
    obtain rfl := sI H1
    obtain rfl := sI H0
    exact kr results65 (rT J) [] ⟨J, J⟩
   obtain ⟨x6, e6, H1⟩ := bS H1
   exact cw_skip (kb (cR (oP e6 J (oM J (ow_nil (ka ⟨_, H1, J, J⟩))))))
  refine cw_exit (kw_nx_exit (ax (kw_bl ?_)))
  obtain rfl := sI H1
  exact kx ⟨_, J, J, J⟩
 rintro _ _ ⟨v1, rfl, rfl, rfl⟩
 refine kw_nx (sr (sn J (cw_ret ?_)))
 obtain rfl := sI H0
 exact kr results65 (rT J) [] ⟨J, J⟩

theorem c_i_Table_find (fl : Nat) (w : World) (a0 : T) (a1 : K) (hn0_0 : n0_0 = (a0.b).length) (hr0_0 : RO w [] (RdL p0_0 c0_0 a0.b)) (hn0_1 : n0_1 = (a0.f).length) (hr0_1 : RO w [] (RdL p0_1 c0_1 a0.f)) (r : Int) (H0 : i_Table_find fl a0 a1 = some r) :
  Ct prog 38 [.agg #[.slice p0_0 n0_0 c0_0, .slice p0_1 n0_1 c0_1], .agg #[I a1.s, I a1.p]] w [] (fun rv h' => rv = I r ∧ h' = []) := by
 subst hn0_0 hn0_1
 unfold i_Table_find at H0
 refine ct_of_cw func38 J ntmps38 J (Sat.refl _ _) ?_
 refine sr (oE (stpU_box 0 J J) J ?_)
 rintro _ _ ⟨b1, rfl, rfl⟩
 refine oE (stpU_box 1 J J) J ?_
 rintro _ _ ⟨b2, rfl, rfl⟩
 obtain ⟨x3, e3, H0⟩ := bS H0
 refine ss J (oAL 1 u26 J ts24 J 0 J (oD (stp_makeFunc (yA J)) J (oE (uC 2 cf65 (fun w hw => c_slices_IndexFunc_Frame_of_i_Table_find_1 fl w a0.f b2 a1 J (rp hr0_1 hw) (box_pass (id := 1) J hw) x3 e3) (yB J J)) J ?_)))
 rintro _ _ ⟨_, ⟨rfl, rfl⟩, rfl⟩
 refine sn J (cw_ret ?_)
 obtain rfl := sI H0
 exact kr results38 (rT J) [] ⟨J, J⟩

theorem c_i_MachineValid (fl : Nat) (w : World) (a0 : Mc) (hn0_0 : n0_0 = (a0.t.b).length) (hr0_0 : RO w [] (RdL p0_0 c0_0 a0.t.b)) (hn0_1 : n0_1 = (a0.t.f).length) (hr0_1 : RO w [] (RdL p0_1 c0_1 a0.t.f)) (hn0_2 : n0_2 = (a0.c.l).length) (hr0_2 : RO w [] (RdL p0_2 c0_2 a0.c.l)) (hn0_3 : n0_3 = (a0.g.o).length) (hr0_3 : RO w [] (RdL p0_3 c0_3 a0.g.o)) (hg : RO w [] (fun w' => w'.rangeAt 0 0 [.bool false, I 0, I 0, I 0, I (-1)])) (r : Bool) (H0 : i_MachineValid fl a0 = some r) :
  Ct prog 31 [.agg #[.slice p0_0 n0_0 c0_0, .slice p0_1 n0_1 c0_1, .slice p0_2 n0_2 c0_2, I a0.c.h, I a0.g.c, I a0.g.n, I a0.g.r, .slice p0_3 n0_3 c0_3, I a0.s]] w [] (fun rv h' => rv = .bool r ∧ h' = []) := by
 subst hn0_0 hn0_1 hn0_2 hn0_3
 unfold i_MachineValid at H0
 refine ct_of_cw func31 J ntmps31 J (Sat.refl _ _) ?_
 refine sr (oE (stpU_box 0 J J) J ?_)
 rintro _ _ ⟨b1, rfl, rfl⟩
 obtain ⟨x2, e2, H0⟩ := bS H0
 refine sq J (oA 0 u34 J ts26 J (oB2 0 ts26 J (oE (uC 1 cf33 (fun w hw => c_i_TableValid fl w a0.t J (rp hr0_0 hw) J (rp hr0_1 hw) (rp hg hw) x2 e2) (yA J)) J ?_)))
 rintro _ _ ⟨_, ⟨rfl, rfl⟩, rfl⟩
 obtain ⟨y3, ey3, H0⟩ := bS H0
 refine oK J (oM J (ow_cutY 5 21 y3 ?_ ?_))
 ·rcases Bool.eq_false_or_eq_true (!x2) with hy3 | hy3
  ·have ey3 := cond_t ey3 hy3
   refine oO J hy3 J (oO J hy3 J (oO J hy3 J (oO J hy3 J (oD (stp_pick_t J hy3 J) J ?_))))
   obtain rfl := sI ey3
   exact ow_nil (jy 5 0)
  have ey3 := cond_f ey3 hy3
  obtain ⟨x4, e4, ey3⟩ := bS ey3
  refine oG J hy3 (fA 2 u34 J ts29 J J J) J (oG J hy3 (stp_loadN (us := [_, _]) ts29 J (Cells.box (id := 0) J 2 J)) J (ow_eff (.some J hy3) (uC 1 cf59 (fun w hw => c_i_CacheValid fl w a0.c J (rp hr0_2 hw) x4 e4) (yA J)) J ?_))
  rintro _ _ ⟨_, ⟨rfl, rfl⟩, rfl⟩
  refine oG J hy3 (stp_not J) J (oD (stp_pick_f J hy3 J) J ?_)
  obtain rfl := sI ey3
  exact ow_nil (jy 5 0)
 obtain ⟨y5, ey5, H0⟩ := bS H0
 refine oM J (ow_cutY 5 27 y5 ?_ ?_)
 ·rcases Bool.eq_false_or_eq_true y3 with hy5 | hy5
  ·have ey5 := cond_t ey5 hy5
   refine oO J hy5 J (oO J hy5 J (oO J hy5 J (oO J hy5 J (oD (stp_pick_t J hy5 J) J ?_))))
   obtain rfl := sI ey5
   exact ow_nil (jy 5 0)
  have ey5 := cond_f ey5 hy5
  obtain ⟨x6, e6, ey5⟩ := bS ey5
  refine oG J hy5 (fA 4 u34 J ts32 J J J) J (oG J hy5 (stp_loadN (us := [_, _, _, _]) ts32 J (Cells.box (id := 0) J 4 J)) J (ow_eff (.some J hy5) (uC 1 cf60 (fun w hw => c_i_TagsValid fl w a0.g J (rp hr0_3 hw) x6 e6) (yA J)) J ?_))
  rintro _ _ ⟨_, ⟨rfl, rfl⟩, rfl⟩
  refine oG J hy5 (stp_not J) J (oD (stp_pick_f J hy5 J) J ?_)
  obtain rfl := sI ey5
  exact ow_nil (jy 5 0)
 obtain ⟨y7, ey7, H0⟩ := bS H0
 refine oM J (ow_cutY 7 35 y7 ?_ ?_)
 ·rcases Bool.eq_false_or_eq_true y5 with hy7 | hy7
  ·have ey7 := cond_t ey7 hy7
   refine oO J hy7 J (oO J hy7 J (oO J hy7 J (oO J hy7 J (oO J hy7 J (oO J hy7 J (oD (stp_pick_t J hy7 J) J ?_))))))
   obtain rfl := sI ey7
   exact ow_nil (jy 7 0)
  have ey7 := cond_f ey7 hy7
  obtain ⟨x8, e8, ey7⟩ := bS ey7
  refine oG J hy7 (fA 4 u34 J ts32 J J J) J (oG J hy7 (stp_loadN (us := [_, _, _, _]) ts32 J (Cells.box (id := 0) J 4 J)) J (oG J hy7 (fA 8 u34 J ts3 J J J) J (oG J hy7 (lB 0 ts3 J J J) J (ow_eff (.some J hy7) (uC 1 cf61 (fun w hw => c_i_Tags_own fl w a0.g a0.s J (rp hr0_3 hw) x8 e8) (yB J J)) J ?_))))
  rintro _ _ ⟨_, ⟨rfl, rfl⟩, rfl⟩
  refine oG J hy7 (stp_lss J J) J (oD (stp_pick_f J hy7 J) J ?_)
  obtain rfl := sI ey7
  exact ow_nil (jy 7 0)
 refine ow_nil (kw_nx (cH J H0 (fun H0 => ?_) (fun H0 => ?_)))
 ·refine sr (sr1 J (kR ?_))
  obtain rfl := sI H0
  exact kr results31 (rT J) [] ⟨J, J⟩
 obtain ⟨o0_0, eo0_0, H0⟩ := bS H0
 refine kq (sr (oA 0 u34 J ts26 J (oAL 1 u26 J ts24 J 0 J (oD (stp_len u24 J) J (oM J (nn (lp (fun f a => i_MachineValid_L0 fl a0 f a = some o0_0) (fun a => o0_0 = .out a) (fun R s h => ∃ v10, R v10 ∧ s = [(1, .pointer (some ⟨b1, 0, none⟩)), (38, .slice p0_1 ((a0.t.f).length) c0_1), (39, I ((a0.t.f).length : Int)), (40, I v10)] ∧ h = [(0, [(b1, .cells #[.slice p0_0 ((a0.t.b).length) c0_0, .slice p0_1 ((a0.t.f).length) c0_1, .slice p0_2 ((a0.c.l).length) c0_2, I a0.c.h, I a0.g.c, I a0.g.n, I a0.g.r, .slice p0_3 ((a0.g.o).length) c0_3, I a0.s] 34 (0, 0))])]) ⟨_, eo0_0, J, J⟩ ?_ ?_)))))))
 ·rintro fuel _ _ ⟨v10, H1, rfl, rfl⟩
  rcases fuel with _ | fuel
  ·rw [i_MachineValid_L0.eq_1] at H1; cases H1
  rw [i_MachineValid_L0.eq_2] at H1
  refine sr (oW J (nn (cq (cH J H1 (fun H1 => ?_) (fun H1 => ?_)))))
  ·obtain ⟨x12, e12, H1⟩ := bS H1
   refine kq (cw_block (sr (oD (stp_indexAddr u24 ts57 (by decide) J J J (Rdb.ro hr0_1) e12) J (oD (stp_loadN (us := [_, _, _, _, _]) ts57 J (Cells.el (Rdb.ro hr0_1) (by decide) e12 0 5 J)) J (oE (stpU_alloc 1 tz57 J) J ?_)))))
   rintro _ _ ⟨b13, rfl, rfl⟩
   obtain ⟨y14, ey14, H1⟩ := bS H1
   refine oC5 1 ts57 J J (ns (oAL 0 u57 J ts4 J 1 J (oM J (ow_cutY 5 51 y14 ?_ ?_))))
   ·rcases Bool.eq_false_or_eq_true x12.u with hy14 | hy14
    ·have ey14 := cond_t ey14 hy14
     refine oG J hy14 (fA 1 u57 J ts50 J J J) J (oG J hy14 (fA 1 u50 J ts3 J J J) J (oG J hy14 (lB 1 ts3 J J J) J (oG J hy14 (stp_geq J J) J (oD (stp_pick_t J hy14 J) J ?_))))
     obtain rfl := sI ey14
     exact ow_nil (jy 5 0)
    have ey14 := cond_f ey14 hy14
    refine oO J hy14 J (oO J hy14 J (oO J hy14 J (oO J hy14 J (oD (stp_pick_f J hy14 J) J ?_))))
    obtain rfl := sI ey14
    exact ow_nil (jy 5 0)
   obtain ⟨y15, ey15, H1⟩ := bS H1
   refine oM J (ow_cutY 5 57 y15 ?_ ?_)
   ·rcases Bool.eq_false_or_eq_true y14 with hy15 | hy15
    ·have ey15 := cond_t ey15 hy15
     refine oG J hy15 (fA 1 u57 J ts50 J J J) J (oG J hy15 (fA 0 u50 J ts3 J J J) J (oG J hy15 (lB 1 ts3 J J J) J (oG J hy15 (stp_neq J J) J (oD (stp_pick_t J hy15 J) J ?_))))
     obtain rfl := sI ey15
     exact ow_nil (jy 5 0)
    have ey15 := cond_f ey15 hy15
    refine oO J hy15 J (oO J hy15 J (oO J hy15 J (oO J hy15 J (oD (stp_pick_f J hy15 J) J ?_))))
    obtain rfl := sI ey15
    exact ow_nil (jy 5 0)
   refine ow_nil (kw_nx (cH J H1 (fun H1 => ?_) (fun H1 => ?_)))
   ·refine sr (sr1 J (kw_bl_ret (kR (ar (kw_bl_ret (xr (kR ?_)))))))
    obtain rfl := sI H1
    obtain rfl := sI H0
    exact kr results31 (rT J) [] ⟨J, J⟩
   obtain ⟨x17, e17, H1⟩ := bS H1
   exact cw_skip (kb (cR (oP e17 J (oM J (ow_nil (ka ⟨_, H1, J, J⟩))))))
  refine cw_exit (kw_nx_exit (ax (kw_bl ?_)))
  obtain rfl := sI H1
  exact kx ⟨_, J, J, J⟩
 rintro _ _ ⟨v10, rfl, rfl, rfl⟩
 obtain ⟨o0_1, eo0_1, H0⟩ := bS H0
 refine kw_nx (csr (oA 2 u34 J ts29 J (oAL 0 u29 J ts27 J 0 J (oD (stp_len u27 J) J (oM J (nn (lp (fun f a => i_MachineValid_L1 fl a0 f a = some o0_1) (fun a => o0_1 = .out a) (fun R s h => ∃ v18, R v18 ∧ s = [(1, .pointer (some ⟨b1, 0, none⟩)), (61, .slice p0_2 ((a0.c.l).length) c0_2), (62, I ((a0.c.l).length : Int)), (63, I v18)] ∧ h = [(0, [(b1, .cells #[.slice p0_0 ((a0.t.b).length) c0_0, .slice p0_1 ((a0.t.f).length) c0_1, .slice p0_2 ((a0.c.l).length) c0_2, I a0.c.h, I a0.g.c, I a0.g.n, I a0.g.r, .slice p0_3 ((a0.g.o).length) c0_3, I a0.s] 34 (0, 0))])]) ⟨_, eo0_1, J, J⟩ ?_ ?_)))))))
 ·rintro fuel _ _ ⟨v18, H1, rfl, rfl⟩
  rcases fuel with _ | fuel
  ·rw [i_MachineValid_L1.eq_1] at H1; cases H1
  rw [i_MachineValid_L1.eq_2] at H1
  refine sr (oW J (nn (cq (cH J H1 (fun H1 => ?_) (fun H1 => ?_)))))
  ·obtain ⟨x20, e20, H1⟩ := bS H1
   refine kq (cw_block (sr (oD (stp_indexAddr u27 ts104 (by decide) J J J (Rdb.ro hr0_2) e20) J (oD (stp_loadN (us := [_, _, _, _, _, _]) ts104 J (Cells.el (Rdb.ro hr0_2) (by decide) e20 0 6 J)) J (oE (stpU_alloc 2 tz104 J) J ?_)))))
   rintro _ _ ⟨b21, rfl, rfl⟩
   refine oC6 2 ts104 J J (nq (oAL 0 u104 J ts4 J 2 J (oK J (nn (cH J H1 (fun H1 => ?_) (fun H1 => ?_))))))
   ·obtain ⟨x23, e23, H1⟩ := bS H1
    exact cw_exit (kw_nx_exit (kw_bl (kw_nx (cR (oP e23 J (oM J (ow_nil (ka ⟨_, H1, J, J⟩))))))))
   refine ks (oAL 2 u104 J ts3 J 2 J (oI J (sq J (oM J (oAL 1 u104 J ts3 J 2 J (oQ J ?_))))))
   obtain ⟨y24, ey24, H1⟩ := bS H1
   refine oD (stp_neqB u4 J J) J (oM J (ow_cutY 7 85 y24 ?_ ?_))
   ·rcases Bool.eq_false_or_eq_true ((decide (128 ≤ x20.pg)) != (x20.tg == (-1))) with hy24 | hy24
    ·have ey24 := cond_t ey24 hy24
     refine oO J hy24 J (oO J hy24 J (oO J hy24 J (oX J J J (oX J J J (oO J hy24 J (oD (stp_pick_t J hy24 J) J ?_))))))
     obtain rfl := sI ey24
     exact ow_nil (jy 7 0)
    have ey24 := cond_f ey24 hy24
    obtain ⟨y25, ey25, ey24⟩ := bS ey24
    refine oG J hy24 (fA 5 u104 J ts4 J J J) J (oG J hy24 (lB 2 ts4 J J J) J (oG J hy24 (mv J) J (ow_cutY 3 84 y25 ?_ ?_)))
    ·rcases Bool.eq_false_or_eq_true x20.wi with hy25 | hy25
     ·have ey25 := cond_t ey25 hy25
      refine oG J hy25 (mv J) J (oG J hy25 (stp_not J) J (oG J hy24 (stp_pick_t J hy25 J) J ?_))
      obtain rfl := sI ey25
      exact ow_nil (jy 3 0)
     have ey25 := cond_f ey25 hy25
     refine oO J hy25 J (oO J hy25 J (oG J hy24 (stp_pick_f J hy25 J) J ?_))
     obtain rfl := sI ey25
     exact ow_nil (jy 3 0)
    refine oD (stp_pick_f J hy24 J) J ?_
    obtain rfl := sI ey24
    exact ow_nil (jy 5 0)
   refine ow_nil (kw_nx (cH J H1 (fun H1 => ?_) (fun H1 => ?_)))
   ·refine sr (sR J (kw_bl_ret (kR (ar (kw_bl_ret (xr (kR ?_)))))))
    obtain rfl := sI H1
    obtain rfl := sI H0
    exact kr results31 (rT J) [] ⟨J, J⟩
   refine ks (sq J (oM J (oK J (nn (cH J H1 (fun H1 => ?_) (fun H1 => ?_))))))
   ·obtain ⟨x28, e28, H1⟩ := bS H1
    refine sr (oA 4 u34 J ts32 J (oB4 0 ts32 J (oAL 1 u104 J ts3 J 2 J (oE (uC 3 cf62 (fun w hw => c_i_SpaceOf fl w a0.g x20.tg J (rp hr0_3 hw) x28 e28) (yB J J)) J ?_))))
    rintro _ _ ⟨_, ⟨rfl, rfl⟩, rfl⟩
    refine oMTT J J J (oS J (sq J (oM J (oK J (nn (cH J H1 (fun H1 => ?_) (fun H1 => ?_)))))))
    ·refine sr (sR J (kR (kw_bl_ret (kR (ar (kw_bl_ret (xr (kR ?_))))))))
     obtain rfl := sI H1
     obtain rfl := sI H0
     exact kr results31 (rT J) [] ⟨J, J⟩
    obtain ⟨x30, e30, H1⟩ := bS H1
    refine kz (cR (oM J (sn J (cq (rdt g_mixed (rn 0 8) ⟨[[],[0],[],[],[2]], [], []⟩ (dA 0 J u34 J ts26 J (dB2 0 ts26 J (dM J (dA 2 J u104 J ts3 J (dL 2 ts3 J (dV J (fun hh => uC 3 cf16 (fun w hw => c_i_KeyFor fl w x28.1 x20.pg x30 e30) (yB J J)) J ?_)))))))))))
    obtain ⟨x31, e31, H1⟩ := bS H1
    obtain ⟨y32, ey32, H1⟩ := bS H1
    refine dV J (fun hh => uC 3 cf38 (fun w hw => c_i_Table_find fl w a0.t x30 J (rp hr0_0 hw) J (rp hr0_1 hw) x31 e31) (yB J J)) J (dS J (dn (kw_nx (cq (rdt g_mixed (rn 0 20) ⟨[[],[],[],[],[],[2],[],[],[],[],[],[0],[],[],[],[],[],[2]], [], []⟩ (dM J (dW J (dM J (dcY 5 113 y32 ?_ ?_)))))))))
    ·rcases Bool.eq_false_or_eq_true (decide (x31 < 0)) with hy32 | hy32
     ·have ey32 := cond_t ey32 hy32
      refine dO J hy32 (dO J hy32 (dO J hy32 (dO J hy32 (dD J (stp_pick_t J hy32 J) ?_))))
      obtain rfl := sI ey32
      exact dy 5 0
     have ey32 := cond_f ey32 hy32
     refine dG J hy32 (mv J) (dG J hy32 (fA 3 u104 J ts3 J J J) (dG J hy32 (lB 2 ts3 J J J) (dG J hy32 (stp_neq J J) (dD J (stp_pick_f J hy32 J) ?_))))
     obtain rfl := sI ey32
     exact dy 5 0
    obtain ⟨y33, ey33, H1⟩ := bS H1
    refine dM J (dcY 11 125 y33 ?_ ?_)
    ·rcases Bool.eq_false_or_eq_true y32 with hy33 | hy33
     ·have ey33 := cond_t ey33 hy33
      refine dO J hy33 (dO J hy33 (dO J hy33 (dO J hy33 (dO J hy33 (dO J hy33 (dO J hy33 (dO J hy33 (dO J hy33 (dO J hy33 (dD J (stp_pick_t J hy33 J) ?_))))))))))
      obtain rfl := sI ey33
      exact dy 11 0
     have ey33 := cond_f ey33 hy33
     obtain ⟨x34, e34, ey33⟩ := bS ey33
     refine dG J hy33 (fA 0 u34 J ts26 J J J) (dG J hy33 (fA 1 u26 J ts24 J J J) (dG J hy33 (lB 0 ts24 J J J) (dG J hy33 (mv J) (dG J hy33 (stp_indexAddr u24 ts57 (by decide) J J J (Rdb.ro hr0_1) e34) (dG J hy33 (fA 3 u57 J ts3 J J J) (dG J hy33 (stp_load1 ts3 J (Cells.el (Rdb.ro hr0_1) (by decide) e34 3 1 J)) (dG J hy33 (fA 4 u104 J ts3 J J J) (dG J hy33 (lB 2 ts3 J J J) (dG J hy33 (stp_neq J J) (dD J (stp_pick_f J hy33 J) ?_))))))))))
     obtain rfl := sI ey33
     exact dy 11 0
    refine dn (kw_nx (cH J H1 (fun H1 => ?_) (fun H1 => ?_)))
    ·refine sr (sr1 J (kw_bl_ret (kR (ar (kw_bl_ret (xr (kR ?_)))))))
     obtain rfl := sI H1
     obtain rfl := sI H0
     exact kr results31 (rT J) [] ⟨J, J⟩
    obtain ⟨x36, e36, H1⟩ := bS H1
    exact cw_skip (kb (cR (oP e36 J (oM J (ow_nil (ka ⟨_, H1, J, J⟩))))))
   obtain ⟨x37, e37, H1⟩ := bS H1
   obtain ⟨x38, e38, H1⟩ := bS H1
   refine kq (rdt g_mixed (rn 0 8) ⟨[[],[0],[],[],[2]], [], []⟩ (dA 0 J u34 J ts26 J (dB2 0 ts26 J (dM J (dA 2 J u104 J ts3 J (dL 2 ts3 J (dV J (fun hh => uC 3 cf16 (fun w hw => c_i_KeyFor fl w 0 x20.pg x37 e37) (yB J J)) J (dV J (fun hh => uC 3 cf38 (fun w hw => c_i_Table_find fl w a0.t x37 J (rp hr0_0 hw) J (rp hr0_1 hw) x38 e38) (yB J J)) J (dS J (dn (kw_nx ?_)))))))))))
   obtain ⟨y39, ey39, H1⟩ := bS H1
   refine cq (rdt g_mixed (rn 0 20) ⟨[[],[],[],[],[],[2],[],[],[],[],[],[0],[],[],[],[],[],[2]], [], []⟩ (dM J (dW J (dM J (dcY 5 113 y39 ?_ ?_)))))
   ·rcases Bool.eq_false_or_eq_true (decide (x38 < 0)) with hy39 | hy39
    ·have ey39 := cond_t ey39 hy39
     refine dO J hy39 (dO J hy39 (dO J hy39 (dO J hy39 (dD J (stp_pick_t J hy39 J) ?_))))
     obtain rfl := sI ey39
     exact dy 5 0
    have ey39 := cond_f ey39 hy39
    refine dG J hy39 (mv J) (dG J hy39 (fA 3 u104 J ts3 J J J) (dG J hy39 (lB 2 ts3 J J J) (dG J hy39 (stp_neq J J) (dD J (stp_pick_f J hy39 J) ?_))))
    obtain rfl := sI ey39
    exact dy 5 0
   obtain ⟨y40, ey40, H1⟩ := bS H1
   refine dM J (dcY 11 125 y40 ?_ ?_)
   ·rcases Bool.eq_false_or_eq_true y39 with hy40 | hy40
    ·have ey40 := cond_t ey40 hy40
     refine dO J hy40 (dO J hy40 (dO J hy40 (dO J hy40 (dO J hy40 (dO J hy40 (dO J hy40 (dO J hy40 (dO J hy40 (dO J hy40 (dD J (stp_pick_t J hy40 J) ?_))))))))))
     obtain rfl := sI ey40
     exact dy 11 0
    have ey40 := cond_f ey40 hy40
    obtain ⟨x41, e41, ey40⟩ := bS ey40
    refine dG J hy40 (fA 0 u34 J ts26 J J J) (dG J hy40 (fA 1 u26 J ts24 J J J) (dG J hy40 (lB 0 ts24 J J J) (dG J hy40 (mv J) (dG J hy40 (stp_indexAddr u24 ts57 (by decide) J J J (Rdb.ro hr0_1) e41) (dG J hy40 (fA 3 u57 J ts3 J J J) (dG J hy40 (stp_load1 ts3 J (Cells.el (Rdb.ro hr0_1) (by decide) e41 3 1 J)) (dG J hy40 (fA 4 u104 J ts3 J J J) (dG J hy40 (lB 2 ts3 J J J) (dG J hy40 (stp_neq J J) (dD J (stp_pick_f J hy40 J) ?_))))))))))
    obtain rfl := sI ey40
    exact dy 11 0
   refine dn (kw_nx (cH J H1 (fun H1 => ?_) (fun H1 => ?_)))
   ·refine sr (sr1 J (kw_bl_ret (kR (ar (kw_bl_ret (xr (kR ?_)))))))
    obtain rfl := sI H1
    obtain rfl := sI H0
    exact kr results31 (rT J) [] ⟨J, J⟩
   obtain ⟨x43, e43, H1⟩ := bS H1
   exact cw_skip (kb (cR (oP e43 J (oM J (ow_nil (ka ⟨_, H1, J, J⟩))))))
  refine cw_exit (kw_nx_exit (ax (kw_bl ?_)))
  obtain rfl := sI H1
  exact kx ⟨_, J, J, J⟩
 rintro _ _ ⟨v18, rfl, rfl, rfl⟩
 refine kw_nx (sr (sn J (cw_ret ?_)))
 obtain rfl := sI H0
 exact kr results31 (rT J) [] ⟨J, J⟩

theorem c_i_MemoryValid (fl : Nat) (w : World) (a0 : Mm) (hn0_0 : n0_0 = (a0.m.t.b).length) (hr0_0 : RO w [] (RdL p0_0 c0_0 a0.m.t.b)) (hn0_1 : n0_1 = (a0.m.t.f).length) (hr0_1 : RO w [] (RdL p0_1 c0_1 a0.m.t.f)) (hn0_2 : n0_2 = (a0.m.c.l).length) (hr0_2 : RO w [] (RdL p0_2 c0_2 a0.m.c.l)) (hn0_3 : n0_3 = (a0.m.g.o).length) (hr0_3 : RO w [] (RdL p0_3 c0_3 a0.m.g.o)) (hn0_4 : n0_4 = (a0.k).length) (hr0_4 : RO w [] (RdL p0_4 c0_4 a0.k)) (hg : RO w [] (fun w' => w'.rangeAt 0 0 [.bool false, I 0, I 0, I 0, I (-1)])) (r : Bool) (H0 : i_MemoryValid fl a0 = some r) :
  Ct prog 14 [.agg #[.slice p0_0 n0_0 c0_0, .slice p0_1 n0_1 c0_1, .slice p0_2 n0_2 c0_2, I a0.m.c.h, I a0.m.g.c, I a0.m.g.n, I a0.m.g.r, .slice p0_3 n0_3 c0_3, I a0.m.s, .slice p0_4 n0_4 c0_4, I a0.h]] w [] (fun rv h' => rv = .bool r ∧ h' = []) := by
 subst hn0_0 hn0_1 hn0_2 hn0_3 hn0_4
 unfold i_MemoryValid at H0
 refine ct_of_cw func14 J ntmps14 J (Sat.refl _ _) ?_
 refine sr (oE (stpU_box 0 J J) J ?_)
 rintro _ _ ⟨b1, rfl, rfl⟩
 obtain ⟨x2, e2, H0⟩ := bS H0
 refine ss J (oA 0 u37 J ts34 J (oA 0 u34 J ts26 J (oAL 1 u26 J ts24 J 0 J (sq J (oA 0 u37 J ts34 J (oB9 0 ts34 J (oE (uC 1 cf31 (fun w hw => c_i_MachineValid fl w a0.m J (rp hr0_0 hw) J (rp hr0_1 hw) J (rp hr0_2 hw) J (rp hr0_3 hw) (rp hg hw) x2 e2) (yA J)) J ?_)))))))
 rintro _ _ ⟨_, ⟨rfl, rfl⟩, rfl⟩
 obtain ⟨y3, ey3, H0⟩ := bS H0
 refine oK J (oM J (ow_cutY 7 21 y3 ?_ ?_))
 ·rcases Bool.eq_false_or_eq_true (!x2) with hy3 | hy3
  ·have ey3 := cond_t ey3 hy3
   refine oO J hy3 J (oO J hy3 J (oO J hy3 J (oO J hy3 J (oO J hy3 J (oO J hy3 J (oD (stp_pick_t J hy3 J) J ?_))))))
   obtain rfl := sI ey3
   exact ow_nil (jy 7 0)
  have ey3 := cond_f ey3 hy3
  refine oG J hy3 (fA 9 u37 J ts35 J J J) J (oG J hy3 (lB 0 ts35 J J J) J (oG J hy3 (stp_len u35 J) J (oG J hy3 (mv J) J (oG J hy3 (stp_len u24 J) J (oG J hy3 (stp_neq J J) J (oD (stp_pick_f J hy3 J) J ?_))))))
  obtain rfl := sI ey3
  exact ow_nil (jy 7 0)
 obtain ⟨y4, ey4, H0⟩ := bS H0
 refine oM J (ow_cutY 7 29 y4 ?_ ?_)
 ·rcases Bool.eq_false_or_eq_true y3 with hy4 | hy4
  ·have ey4 := cond_t ey4 hy4
   refine oO J hy4 J (oO J hy4 J (oO J hy4 J (oO J hy4 J (oO J hy4 J (oO J hy4 J (oD (stp_pick_t J hy4 J) J ?_))))))
   obtain rfl := sI ey4
   exact ow_nil (jy 7 0)
  have ey4 := cond_f ey4 hy4
  obtain ⟨x5, e5, ey4⟩ := bS ey4
  refine oG J hy4 (fA 10 u37 J ts3 J J J) J (oG J hy4 (lB 0 ts3 J J J) J (oG J hy4 (mv J) J (oG J hy4 (stp_len u24 J) J (ow_eff (.some J hy4) (uC 1 cf32 (fun w hw => c_i_within fl w a0.h ((a0.m.t.f).length : Int) x5 e5) (yB J J)) J ?_))))
  rintro _ _ ⟨_, ⟨rfl, rfl⟩, rfl⟩
  refine oG J hy4 (stp_not J) J (oD (stp_pick_f J hy4 J) J ?_)
  obtain rfl := sI ey4
  exact ow_nil (jy 7 0)
 refine ow_nil (kw_nx (cH J H0 (fun H0 => ?_) (fun H0 => ?_)))
 ·refine sr (sr1 J (kR ?_))
  obtain rfl := sI H0
  exact kr results14 (rT J) [] ⟨J, J⟩
 obtain ⟨o0_0, eo0_0, H0⟩ := bS H0
 refine kq (sr (oAL 9 u37 J ts35 J 0 J (oD (stp_len u35 J) J (oM J (nn (lp (fun f a => i_MemoryValid_L0 fl a0 f a = some o0_0) (fun a => o0_0 = .out a) (fun R s h => ∃ v7, R v7 ∧ s = [(3, .slice p0_1 ((a0.m.t.f).length) c0_1), (31, .slice p0_4 ((a0.k).length) c0_4), (32, I ((a0.k).length : Int)), (33, I v7)] ∧ h = []) ⟨_, eo0_0, J, J⟩ ?_ ?_))))))
 ·rintro fuel _ _ ⟨v7, H1, rfl, rfl⟩
  rcases fuel with _ | fuel
  ·rw [i_MemoryValid_L0.eq_1] at H1; cases H1
  rw [i_MemoryValid_L0.eq_2] at H1
  refine sr (oW J (nn (cq (cH J H1 (fun H1 => ?_) (fun H1 => ?_)))))
  ·obtain ⟨x9, e9, H1⟩ := bS H1
   refine kq (cw_block (sr (oM J (oD (stp_indexAddr u35 ts4 (by decide) J J J (Rdb.ro hr0_4) e9) J (oD (stp_load1 ts4 J (Cells.el (Rdb.ro hr0_4) (by decide) e9 0 1 J)) J (oS J (ss J (oM J (oM J ?_)))))))))
   obtain ⟨y10, ey10, H1⟩ := bS H1
   refine ow_cutY 7 46 y10 ?_ ?_
   ·rcases Bool.eq_false_or_eq_true x9 with hy10 | hy10
    ·have ey10 := cond_t ey10 hy10
     obtain ⟨x11, e11, ey10⟩ := bS ey10
     refine oG J hy10 (mv J) J (oG J hy10 (mv J) J (oG J hy10 (stp_indexAddr u24 ts57 (by decide) J J J (Rdb.ro hr0_1) e11) J (oG J hy10 (fA 0 u57 J ts4 J J J) J (oG J hy10 (stp_load1 ts4 J (Cells.el (Rdb.ro hr0_1) (by decide) e11 0 1 J)) J (oG J hy10 (stp_not J) J (oD (stp_pick_t J hy10 J) J ?_))))))
     obtain rfl := sI ey10
     exact ow_nil (jy 7 0)
    have ey10 := cond_f ey10 hy10
    refine oO J hy10 J (oO J hy10 J (oO J hy10 J (oO J hy10 J (oO J hy10 J (oO J hy10 J (oD (stp_pick_f J hy10 J) J ?_))))))
    obtain rfl := sI ey10
    exact ow_nil (jy 7 0)
   refine ow_nil (kw_nx (cH J H1 (fun H1 => ?_) (fun H1 => ?_)))
   ·refine sr (sr1 J (kw_bl_ret (kR (ar (kw_bl_ret (xr (kR ?_)))))))
    obtain rfl := sI H1
    obtain rfl := sI H0
    exact kr results14 (rT J) [] ⟨J, J⟩
   obtain ⟨x13, e13, H1⟩ := bS H1
   exact cw_skip (kb (cR (oP e13 J (oM J (ow_nil (ka ⟨_, H1, J, J⟩))))))
  refine cw_exit (kw_nx_exit (ax (kw_bl ?_)))
  obtain rfl := sI H1
  exact kx ⟨_, J, J, J⟩
 rintro _ _ ⟨v7, rfl, rfl, rfl⟩
 refine kw_nx (sr (sn J (cw_ret ?_)))
 obtain rfl := sI H0
 exact kr results14 (rT J) [] ⟨J, J⟩

theorem c_slices_Clone_Int (fl : Nat) (w : World) (a0 : (List Int)) (hn0_0 : n0_0 = (a0).length) (hr0_0 : RO w [] (RdL p0_0 c0_0 a0)) (r : (List Int)) (H0 : slices_Clone_Int fl a0 = some r) :
  Ct prog 128 [.slice p0_0 n0_0 c0_0] w [] (fun rv h' => SL 3 r fun x0 y0 z0 C0 => rv = .slice x0 y0 z0 ∧ h' = [(0, C0)]) := by
 subst hn0_0
 unfold slices_Clone_Int at H0
 refine ct_of_cw func128 J ntmps128 J (Sat.refl _ _) ?_
 refine sr (sq J (oM J (oD (stp_eqlNil u23 J) J (nn (cw_cond J (fun h1 => ?_) (fun h1 => ?_))))))
 ·have := True.intro
  obtain rfl : p0_0 = none := by simpa using h1
  obtain rfl : a0 = [] := nil_of_none hr0_0
  obtain rfl : r = [] := (cnt_some H0).1
  exact sr (sR J (kA 0 (kr results128 (rT J) [0] (sl J oN0 ⟨J, J⟩))))
 have := True.intro
 refine ks (oE (stpU_lit0 sl23 1) J ?_)
 rintro _ _ ⟨p2, C3, rfl, rfl, o3⟩
 refine oM J ?_
 have e4 : cnt (([] : List Int) ++ a0) = some r := H0
 refine oE (stpU_append sl23 J (id := 1) J (by simp) J J J o3 (Rdb.ro hr0_0) e4) J ?_
 rintro _ _ ⟨p5, c6, C7, rfl, rfl, o7⟩
 exact sr1 J (kr results128 (rT J) [1] (sl J o7 ⟨J, J⟩))

theorem c_slices_Clone_Frame (fl : Nat) (w : World) (a0 : (List F)) (hn0_0 : n0_0 = (a0).length) (hr0_0 : RO w [] (RdL p0_0 c0_0 a0)) (r : (List F)) (H0 : slices_Clone_Frame fl a0 = some r) :
  Ct prog 130 [.slice p0_0 n0_0 c0_0] w [] (fun rv h' => SL 57 r fun x0 y0 z0 C0 => rv = .slice x0 y0 z0 ∧ h' = [(0, C0)]) := by
 subst hn0_0
 unfold slices_Clone_Frame at H0
 refine ct_of_cw func130 J ntmps130 J (Sat.refl _ _) ?_
 refine sr (sq J (oM J (oD (stp_eqlNil u24 J) J (nn (cw_cond J (fun h1 => ?_) (fun h1 => ?_))))))
 ·have := True.intro
  obtain rfl : p0_0 = none := by simpa using h1
  obtain rfl : a0 = [] := nil_of_none hr0_0
  obtain rfl : r = [] := (cnt_some H0).1
  exact sr (sR J (kA 0 (kr results130 (rT J) [0] (sl J oN0 ⟨J, J⟩))))
 have := True.intro
 refine ks (oE (stpU_lit0 sl24 1) J ?_)
 rintro _ _ ⟨p2, C3, rfl, rfl, o3⟩
 refine oM J ?_
 have e4 : cnt (([] : List F) ++ a0) = some r := H0
 refine oE (stpU_append sl24 J (id := 1) J (by simp) J J J o3 (Rdb.ro hr0_0) e4) J ?_
 rintro _ _ ⟨p5, c6, C7, rfl, rfl, o7⟩
 exact sr1 J (kr results130 (rT J) [1] (sl J o7 ⟨J, J⟩))

theorem c_i_Table_clone (fl : Nat) (w : World) (a0 : T) (hn0_0 : n0_0 = (a0.b).length) (hr0_0 : RO w [] (RdL p0_0 c0_0 a0.b)) (hn0_1 : n0_1 = (a0.f).length) (hr0_1 : RO w [] (RdL p0_1 c0_1 a0.f)) (r : T) (H0 : i_Table_clone fl a0 = some r) :
  Ct prog 90 [.agg #[.slice p0_0 n0_0 c0_0, .slice p0_1 n0_1 c0_1]] w [] (fun rv h' => SL 3 r.b fun x0 y0 z0 C0 => SL 57 r.f fun x1 y1 z1 C1 => rv = .agg #[.slice x0 y0 z0, .slice x1 y1 z1] ∧ h' = [(0, C0), (1, C1)]) := by
 subst hn0_0 hn0_1
 unfold i_Table_clone at H0
 refine ct_of_cw func90 J ntmps90 J (Sat.refl _ _) ?_
 refine sr (oE (stpU_box 0 J J) J ?_)
 rintro _ _ ⟨b1, rfl, rfl⟩
 refine oE (stpU_alloc 1 tz26 J) J ?_
 rintro _ _ ⟨b2, rfl, rfl⟩
 obtain ⟨x3, e3, H0⟩ := bS H0
 refine nn (cq (rdt g_mixed [.n 0, .n 1, .n 4, .n 5, .n 2, .n 3, .n 6, .n 7, .n 8, .n 9] ⟨[[],[0],[],[],[],[0],[],[],[],[1]], [[],[],[2],[],[],[],[3],[],[],[1]], [2,6]⟩ (dA 0 J u26 J ts23 J (dL 0 ts23 J (dA 1 J u26 J ts24 J (dL 0 ts24 J (dE J (fun hh => uC 2 cf128 (fun w hw => c_slices_Clone_Int fl w a0.b J (rp hr0_0 hw) x3 e3) (yA J)) ?_)))))))
 rintro _ _ ⟨_, ⟨p4, _, c6, C7, rfl, o7, rfl, rfl⟩, rfl⟩
 obtain ⟨x8, e8, H0⟩ := bS H0
 refine dk J (dV J (fun hh => stpU_call (fun i => i) cf64 (fun w hw => c_clip64 w p4 ((x3).length) c6 (OwnC.len o7).1) (yA J)) J (dE J (fun hh => uC 3 cf130 (fun w hw => c_slices_Clone_Frame fl w a0.f J (rp hr0_1 hw) x8 e8) (yA J)) ?_))
 rintro _ _ ⟨_, ⟨p9, _, c11, C12, rfl, o12, rfl, rfl⟩, rfl⟩
 refine dk J (dV J (fun hh => stpU_call (fun i => i) cf129 (fun w hw => c_clip129 w p9 ((x8).length) c11 (OwnC.len o12).1) (yA J)) J (dD J (stp_build (cs := #[.slice p4 ((x3).length) ((x3).length), .slice p9 ((x8).length) ((x8).length)]) (sP J (sP J sE)) bt26_14) (dC2 1 ts26 J J J (dn (kw_nx (cw_ret ?_))))))
 obtain rfl := sI H0
 exact kr results90 (rC2 1 ts26 J J) [2, 3] (sl J (OwnC.clip o7) (sl J (OwnC.clip o12) ⟨J, J⟩))

theorem c_slices_Clone_Line (fl : Nat) (w : World) (a0 : (List Ln)) (hn0_0 : n0_0 = (a0).length) (hr0_0 : RO w [] (RdL p0_0 c0_0 a0)) (r : (List Ln)) (H0 : slices_Clone_Line fl a0 = some r) :
  Ct prog 92 [.slice p0_0 n0_0 c0_0] w [] (fun rv h' => SL 104 r fun x0 y0 z0 C0 => rv = .slice x0 y0 z0 ∧ h' = [(0, C0)]) := by
 subst hn0_0
 unfold slices_Clone_Line at H0
 refine ct_of_cw func92 J ntmps92 J (Sat.refl _ _) ?_
 refine sr (sq J (oM J (oD (stp_eqlNil u27 J) J (nn (cw_cond J (fun h1 => ?_) (fun h1 => ?_))))))
 ·have := True.intro
  obtain rfl : p0_0 = none := by simpa using h1
  obtain rfl : a0 = [] := nil_of_none hr0_0
  obtain rfl : r = [] := (cnt_some H0).1
  exact sr (sR J (kA 0 (kr results92 (rT J) [0] (sl J oN0 ⟨J, J⟩))))
 have := True.intro
 refine ks (oE (stpU_lit0 sl27 1) J ?_)
 rintro _ _ ⟨p2, C3, rfl, rfl, o3⟩
 refine oM J ?_
 have e4 : cnt (([] : List Ln) ++ a0) = some r := H0
 refine oE (stpU_append sl27 J (id := 1) J (by simp) J J J o3 (Rdb.ro hr0_0) e4) J ?_
 rintro _ _ ⟨p5, c6, C7, rfl, rfl, o7⟩
 exact sr1 J (kr results92 (rT J) [1] (sl J o7 ⟨J, J⟩))

theorem c_slices_Clone_Own (fl : Nat) (w : World) (a0 : (List Ow)) (hn0_0 : n0_0 = (a0).length) (hr0_0 : RO w [] (RdL p0_0 c0_0 a0)) (r : (List Ow)) (H0 : slices_Clone_Own fl a0 = some r) :
  Ct prog 94 [.slice p0_0 n0_0 c0_0] w [] (fun rv h' => SL 70 r fun x0 y0 z0 C0 => rv = .slice x0 y0 z0 ∧ h' = [(0, C0)]) := by
 subst hn0_0
 unfold slices_Clone_Own at H0
 refine ct_of_cw func94 J ntmps94 J (Sat.refl _ _) ?_
 refine sr (sq J (oM J (oD (stp_eqlNil u30 J) J (nn (cw_cond J (fun h1 => ?_) (fun h1 => ?_))))))
 ·have := True.intro
  obtain rfl : p0_0 = none := by simpa using h1
  obtain rfl : a0 = [] := nil_of_none hr0_0
  obtain rfl : r = [] := (cnt_some H0).1
  exact sr (sR J (kA 0 (kr results94 (rT J) [0] (sl J oN0 ⟨J, J⟩))))
 have := True.intro
 refine ks (oE (stpU_lit0 sl30 1) J ?_)
 rintro _ _ ⟨p2, C3, rfl, rfl, o3⟩
 refine oM J ?_
 have e4 : cnt (([] : List Ow) ++ a0) = some r := H0
 refine oE (stpU_append sl30 J (id := 1) J (by simp) J J J o3 (Rdb.ro hr0_0) e4) J ?_
 rintro _ _ ⟨p5, c6, C7, rfl, rfl, o7⟩
 exact sr1 J (kr results94 (rT J) [1] (sl J o7 ⟨J, J⟩))

theorem c_i_Machine_clone (fl : Nat) (w : World) (a0 : Mc) (hn0_0 : n0_0 = (a0.t.b).length) (hr0_0 : RO w [] (RdL p0_0 c0_0 a0.t.b)) (hn0_1 : n0_1 = (a0.t.f).length) (hr0_1 : RO w [] (RdL p0_1 c0_1 a0.t.f)) (hn0_2 : n0_2 = (a0.c.l).length) (hr0_2 : RO w [] (RdL p0_2 c0_2 a0.c.l)) (hn0_3 : n0_3 = (a0.g.o).length) (hr0_3 : RO w [] (RdL p0_3 c0_3 a0.g.o)) (r : Mc) (H0 : i_Machine_clone fl a0 = some r) :
  Ct prog 52 [.agg #[.slice p0_0 n0_0 c0_0, .slice p0_1 n0_1 c0_1, .slice p0_2 n0_2 c0_2, I a0.c.h, I a0.g.c, I a0.g.n, I a0.g.r, .slice p0_3 n0_3 c0_3, I a0.s]] w [] (fun rv h' => SL 3 r.t.b fun x0 y0 z0 C0 => SL 57 r.t.f fun x1 y1 z1 C1 => SL 104 r.c.l fun x2 y2 z2 C2 => SL 70 r.g.o fun x3 y3 z3 C3 => rv = .agg #[.slice x0 y0 z0, .slice x1 y1 z1, .slice x2 y2 z2, I r.c.h, I r.g.c, I r.g.n, I r.g.r, .slice x3 y3 z3, I r.s] ∧ h' = [(0, C0), (1, C1), (2, C2), (3, C3)]) := by
 subst hn0_0 hn0_1 hn0_2 hn0_3
 unfold i_Machine_clone at H0
 refine ct_of_cw func52 J ntmps52 J (Sat.refl _ _) ?_
 refine sr (oE (stpU_box 0 J J) J ?_)
 rintro _ _ ⟨b1, rfl, rfl⟩
 refine oE (stpU_alloc 1 tz34 J) J ?_
 rintro _ _ ⟨b2, rfl, rfl⟩
 obtain ⟨x3, e3, H0⟩ := bS H0
 refine ns (oA 0 u34 J ts26 J (oB2 0 ts26 J (oE (uC 2 cf90 (fun w hw => c_i_Table_clone fl w a0.t J (rp hr0_0 hw) J (rp hr0_1 hw) x3 e3) (yA J)) J ?_)))
 rintro _ _ ⟨_, ⟨p4, _, c6, C7, rfl, o7, p8, _, c10, C11, rfl, o11, rfl, rfl⟩, rfl⟩
 obtain ⟨x12, e12, H0⟩ := bS H0
 refine oA 0 u34 J ts26 J (oC9 0 ts26 J J (ns (oA 2 u34 J ts29 J (oAL 0 u29 J ts27 J 0 J (oE (uC 4 cf92 (fun w hw => c_slices_Clone_Line fl w a0.c.l J (rp hr0_2 hw) x12 e12) (yA J)) J ?_)))))
 rintro _ _ ⟨_, ⟨p13, _, c15, C16, rfl, o16, rfl, rfl⟩, rfl⟩
 refine oE (stpU_call (fun i => i) cf91 (fun w hw => c_clip91 w p13 ((x12).length) c15 (OwnC.len o16).1) (yA J)) J ?_
 rintro _ _ ⟨_, ⟨rfl, rfl⟩, rfl⟩
 obtain ⟨x17, e17, H0⟩ := bS H0
 refine oA 2 u34 J ts29 J (oA 0 u29 J ts27 J (oC9 0 ts27 J J (ns (oA 4 u34 J ts32 J (oAL 3 u32 J ts30 J 0 J (oE (uC 5 cf94 (fun w hw => c_slices_Clone_Own fl w a0.g.o J (rp hr0_3 hw) x17 e17) (yA J)) J ?_))))))
 rintro _ _ ⟨_, ⟨p18, _, c20, C21, rfl, o21, rfl, rfl⟩, rfl⟩
 refine oE (stpU_call (fun i => i) cf93 (fun w hw => c_clip93 w p18 ((x17).length) c20 (OwnC.len o21).1) (yA J)) J ?_
 rintro _ _ ⟨_, ⟨rfl, rfl⟩, rfl⟩
 refine oA 4 u34 J ts32 J (oA 3 u32 J ts30 J (oC9 0 ts30 J J (ns (oB9 0 ts34 J (oC9 1 ts34 J J (nn (cw_ret ?_)))))))
 obtain rfl := sI H0
 exact kr results52 (rC9 1 ts34 J J) [2, 3, 4, 5] (sl J o7 (sl J o11 (sl J (OwnC.clip o16) (sl J (OwnC.clip o21) ⟨J, J⟩))))

theorem c_slices_Clone_Bool (fl : Nat) (w : World) (a0 : (List Bool)) (hn0_0 : n0_0 = (a0).length) (hr0_0 : RO w [] (RdL p0_0 c0_0 a0)) (r : (List Bool)) (H0 : slices_Clone_Bool fl a0 = some r) :
  Ct prog 54 [.slice p0_0 n0_0 c0_0] w [] (fun rv h' => SL 4 r fun x0 y0 z0 C0 => rv = .slice x0 y0 z0 ∧ h' = [(0, C0)]) := by
 subst hn0_0
 unfold slices_Clone_Bool at H0
 refine ct_of_cw func54 J ntmps54 J (Sat.refl _ _) ?_
 refine sr (sq J (oM J (oD (stp_eqlNil u35 J) J (nn (cw_cond J (fun h1 => ?_) (fun h1 => ?_))))))
 ·have := True.intro
  obtain rfl : p0_0 = none := by simpa using h1
  obtain rfl : a0 = [] := nil_of_none hr0_0
  obtain rfl : r = [] := (cnt_some H0).1
  exact sr (sR J (kA 0 (kr results54 (rT J) [0] (sl J oN0 ⟨J, J⟩))))
 have := True.intro
 refine ks (oE (stpU_lit0 sl35 1) J ?_)
 rintro _ _ ⟨p2, C3, rfl, rfl, o3⟩
 refine oM J ?_
 have e4 : cnt (([] : List Bool) ++ a0) = some r := H0
 refine oE (stpU_append sl35 J (id := 1) J (by simp) J J J o3 (Rdb.ro hr0_0) e4) J ?_
 rintro _ _ ⟨p5, c6, C7, rfl, rfl, o7⟩
 exact sr1 J (kr results54 (rT J) [1] (sl J o7 ⟨J, J⟩))

theorem c_i_Memory_clone (fl : Nat) (w : World) (a0 : Mm) (hn0_0 : n0_0 = (a0.m.t.b).length) (hr0_0 : RO w [] (RdL p0_0 c0_0 a0.m.t.b)) (hn0_1 : n0_1 = (a0.m.t.f).length) (hr0_1 : RO w [] (RdL p0_1 c0_1 a0.m.t.f)) (hn0_2 : n0_2 = (a0.m.c.l).length) (hr0_2 : RO w [] (RdL p0_2 c0_2 a0.m.c.l)) (hn0_3 : n0_3 = (a0.m.g.o).length) (hr0_3 : RO w [] (RdL p0_3 c0_3 a0.m.g.o)) (hn0_4 : n0_4 = (a0.k).length) (hr0_4 : RO w [] (RdL p0_4 c0_4 a0.k)) (r : Mm) (H0 : i_Memory_clone fl a0 = some r) :
  Ct prog 25 [.agg #[.slice p0_0 n0_0 c0_0, .slice p0_1 n0_1 c0_1, .slice p0_2 n0_2 c0_2, I a0.m.c.h, I a0.m.g.c, I a0.m.g.n, I a0.m.g.r, .slice p0_3 n0_3 c0_3, I a0.m.s, .slice p0_4 n0_4 c0_4, I a0.h]] w [] (fun rv h' => SL 3 r.m.t.b fun x0 y0 z0 C0 => SL 57 r.m.t.f fun x1 y1 z1 C1 => SL 104 r.m.c.l fun x2 y2 z2 C2 => SL 70 r.m.g.o fun x3 y3 z3 C3 => SL 4 r.k fun x4 y4 z4 C4 => rv = .agg #[.slice x0 y0 z0, .slice x1 y1 z1, .slice x2 y2 z2, I r.m.c.h, I r.m.g.c, I r.m.g.n, I r.m.g.r, .slice x3 y3 z3, I r.m.s, .slice x4 y4 z4, I r.h] ∧ h' = [(0, C0), (1, C1), (2, C2), (3, C3), (4, C4)]) := by
 subst hn0_0 hn0_1 hn0_2 hn0_3 hn0_4
 unfold i_Memory_clone at H0
 refine ct_of_cw func25 J ntmps25 J (Sat.refl _ _) ?_
 refine sr (oE (stpU_box 0 J J) J ?_)
 rintro _ _ ⟨b1, rfl, rfl⟩
 refine oE (stpU_alloc 1 tz37 J) J ?_
 rintro _ _ ⟨b2, rfl, rfl⟩
 obtain ⟨x3, e3, H0⟩ := bS H0
 refine ns (oA 0 u37 J ts34 J (oB9 0 ts34 J (oE (uC 2 cf52 (fun w hw => c_i_Machine_clone fl w a0.m J (rp hr0_0 hw) J (rp hr0_1 hw) J (rp hr0_2 hw) J (rp hr0_3 hw) x3 e3) (yA J)) J ?_)))
 rintro _ _ ⟨_, ⟨p4, _, c6, C7, rfl, o7, p8, _, c10, C11, rfl, o11, p12, _, c14, C15, rfl, o15, p16, _, c18, C19, rfl, o19, rfl, rfl⟩, rfl⟩
 obtain ⟨x20, e20, H0⟩ := bS H0
 refine oA 0 u37 J ts34 J (oC11 0 ts34 J J (ns (oAL 9 u37 J ts35 J 0 J (oE (uC 6 cf54 (fun w hw => c_slices_Clone_Bool fl w a0.k J (rp hr0_4 hw) x20 e20) (yA J)) J ?_))))
 rintro _ _ ⟨_, ⟨p21, _, c23, C24, rfl, o24, rfl, rfl⟩, rfl⟩
 refine oE (stpU_call (fun i => i) cf53 (fun w hw => c_clip53 w p21 ((x20).length) c23 (OwnC.len o24).1) (yA J)) J ?_
 rintro _ _ ⟨_, ⟨rfl, rfl⟩, rfl⟩
 refine oA 9 u37 J ts35 J (oC11 0 ts35 J J (ns (oB11 0 ts37 J (oC11 1 ts37 J J (nn (cw_ret ?_))))))
 obtain rfl := sI H0
 exact kr results25 (rC11 1 ts37 J J) [2, 3, 4, 5, 6] (sl J o7 (sl J o11 (sl J o15 (sl J o19 (sl J (OwnC.clip o24) ⟨J, J⟩)))))

theorem c_i_FreeFrame (fl : Nat) (w : World) (a0 : Mm) (hn0_0 : n0_0 = (a0.m.t.b).length) (hr0_0 : RO w [] (RdL p0_0 c0_0 a0.m.t.b)) (hn0_1 : n0_1 = (a0.m.t.f).length) (hr0_1 : RO w [] (RdL p0_1 c0_1 a0.m.t.f)) (hn0_2 : n0_2 = (a0.m.c.l).length) (hr0_2 : RO w [] (RdL p0_2 c0_2 a0.m.c.l)) (hn0_3 : n0_3 = (a0.m.g.o).length) (hr0_3 : RO w [] (RdL p0_3 c0_3 a0.m.g.o)) (hn0_4 : n0_4 = (a0.k).length) (hr0_4 : RO w [] (RdL p0_4 c0_4 a0.k)) (hg : RO w [] (fun w' => w'.rangeAt 0 0 [.bool false, I 0, I 0, I 0, I (-1)])) (r : Int × Bool) (H0 : i_FreeFrame fl a0 = some r) :
  Ct prog 39 [.agg #[.slice p0_0 n0_0 c0_0, .slice p0_1 n0_1 c0_1, .slice p0_2 n0_2 c0_2, I a0.m.c.h, I a0.m.g.c, I a0.m.g.n, I a0.m.g.r, .slice p0_3 n0_3 c0_3, I a0.m.s, .slice p0_4 n0_4 c0_4, I a0.h]] w [] (fun rv h' => rv = .tuple #[I r.1, .bool r.2] ∧ h' = []) := by
 subst hn0_0 hn0_1 hn0_2 hn0_3 hn0_4
 unfold i_FreeFrame at H0
 refine ct_of_cw func39 J ntmps39 J (Sat.refl _ _) ?_
 refine sr (oE (stpU_box 0 J J) J ?_)
 rintro _ _ ⟨b1, rfl, rfl⟩
 obtain ⟨x2, e2, H0⟩ := bS H0
 refine oS J (sq J (oB11 0 ts37 J (oE (uC 1 cf14 (fun w hw => c_i_MemoryValid fl w a0 J (rp hr0_0 hw) J (rp hr0_1 hw) J (rp hr0_2 hw) J (rp hr0_3 hw) J (rp hr0_4 hw) (rp hg hw) x2 e2) (yA J)) J ?_)))
 rintro _ _ ⟨_, ⟨rfl, rfl⟩, rfl⟩
 refine oK J (nn (cH J H0 (fun H0 => ?_) (fun H0 => ?_)))
 ·refine sr (oS J (sr1 J (kR ?_)))
  obtain rfl := sI H0
  exact kr results39 (.cons (.tmp J) (rT J)) [] ⟨J, J⟩
 obtain ⟨o0_0, eo0_0, H0⟩ := bS H0
 refine kq (sr (oA 0 u37 J ts34 J (oA 0 u34 J ts26 J (oAL 1 u26 J ts24 J 0 J (oD (stp_len u24 J) J (oM J (nn (lp (fun f a => i_FreeFrame_L0 fl a0 f a = some o0_0) (fun a => o0_0 = .out a) (fun R s h => ∃ v4, R v4 ∧ s = [(12, .slice p0_1 ((a0.m.t.f).length) c0_1), (13, I ((a0.m.t.f).length : Int)), (14, I v4)] ∧ h = []) ⟨_, eo0_0, J, J⟩ ?_ ?_))))))))
 ·rintro fuel _ _ ⟨v4, H1, rfl, rfl⟩
  rcases fuel with _ | fuel
  ·rw [i_FreeFrame_L0.eq_1] at H1; cases H1
  rw [i_FreeFrame_L0.eq_2] at H1
  refine sr (oW J (nn (cq (cH J H1 (fun H1 => ?_) (fun H1 => ?_)))))
  ·obtain ⟨x6, e6, H1⟩ := bS H1
   refine kq (cw_block (sr (oM J (oD (stp_indexAddr u24 ts57 (by decide) J J J (Rdb.ro hr0_1) e6) J (oD (stp_loadN (us := [_, _, _, _, _]) ts57 J (Cells.el (Rdb.ro hr0_1) (by decide) e6 0 5 J)) J (oE (stpU_alloc 1 tz57 J) J ?_))))))
   rintro _ _ ⟨b7, rfl, rfl⟩
   refine oS J (oC5 1 ts57 J J (ns (oAL 0 u57 J ts4 J 1 J (oK J (nn (cH J H1 (fun H1 => ?_) (fun H1 => ?_)))))))
   ·refine sr (oM J (oS J (sr1 J (kw_bl_ret (kR (ar (kw_bl_ret (xr (kR ?_)))))))))
    obtain rfl := sI H1
    obtain rfl := sI H0
    exact kr results39 (.cons (.tmp J) (rT J)) [] ⟨J, J⟩
   obtain ⟨x9, e9, H1⟩ := bS H1
   exact cw_skip (kb (cR (oP e9 J (oM J (ow_nil (ka ⟨_, H1, J, J⟩))))))
  refine cw_exit (kw_nx_exit (ax (kw_bl ?_)))
  obtain rfl := sI H1
  exact kx ⟨_, J, J, J⟩
 rintro _ _ ⟨v4, rfl, rfl, rfl⟩
 refine kw_nx (sr (oS J (sn J (cw_ret ?_))))
 obtain rfl := sI H0
 exact kr results39 (.cons (.tmp J) (rT J)) [] ⟨J, J⟩

theorem c_i_FrameVictim_1 (fl : Nat) (w : World) (a0 : Ln) (qc0 : Nat) (ac0 : Int) (hbac0 : RO w [] (fun w' => w'.rangeAt qc0 0 [I ac0])) (r : Bool) (H0 : i_FrameVictim_1 fl a0 ac0 = some r) :
  Ct prog 68 [.agg #[.bool a0.va, I a0.tg, I a0.pg, I a0.fr, I a0.ri, .bool a0.wi], .pointer (some ⟨qc0, 0, none⟩)] w [] (fun rv h' => rv = .bool r ∧ h' = []) := by
 unfold i_FrameVictim_1 at H0
 refine ct_of_cw func68 J ntmps68 J (Sat.refl _ _) ?_
 refine sr (oE (stpU_box 0 J J) J ?_)
 rintro _ _ ⟨b1, rfl, rfl⟩
 obtain ⟨y2, ey2, H0⟩ := bS H0
 refine ss J (oAL 5 u104 J ts4 J 0 J (oM J (ow_cutY 5 11 y2 ?_ ?_)))
 ·rcases Bool.eq_false_or_eq_true a0.wi with hy2 | hy2
  ·have ey2 := cond_t ey2 hy2
   refine oG J hy2 (fA 3 u104 J ts3 J J J) J (oG J hy2 (lB 0 ts3 J J J) J (oG J hy2 (stp_load1 ts3 J (Cells.ofRO hbac0 1 J)) J (oG J hy2 (stp_eql J J) J (oD (stp_pick_t J hy2 J) J ?_))))
   obtain rfl := sI ey2
   exact ow_nil (jy 5 0)
  have ey2 := cond_f ey2 hy2
  refine oO J hy2 J (oO J hy2 J (oO J hy2 J (oO J hy2 J (oD (stp_pick_f J hy2 J) J ?_))))
  obtain rfl := sI ey2
  exact ow_nil (jy 5 0)
 refine sn J (cw_ret ?_)
 obtain rfl := sI H0
 exact kr results68 (rT J) [] ⟨J, J⟩

theorem c_slices_IndexFunc_Line_of_i_FrameVictim_1 (fl : Nat) (w : World) (a0 : (List Ln)) (q1_0 : Nat) (a1_0 : Int) (hn0_0 : n0_0 = (a0).length) (hr0_0 : RO w [] (RdL p0_0 c0_0 a0)) (hba1_0 : RO w [] (fun w' => w'.rangeAt q1_0 0 [I a1_0])) (r : Int) (H0 : slices_IndexFunc_Line_of_i_FrameVictim_1 fl a0 a1_0 = some r) :
  Ct prog 110 [.slice p0_0 n0_0 c0_0, .func (.func 68) #[] #[.pointer (some ⟨q1_0, 0, none⟩)]] w [] (fun rv h' => rv = I r ∧ h' = []) := by
 subst hn0_0
 unfold slices_IndexFunc_Line_of_i_FrameVictim_1 at H0
 refine ct_of_cw func110 J ntmps110 J (Sat.refl _ _) ?_
 obtain ⟨o0_0, eo0_0, H0⟩ := bS H0
 refine sr (sq J (oM J (oD (stp_len u27 J) J (oM J (nn (lp (fun f a => slices_IndexFunc_Line_of_i_FrameVictim_1_L0 fl a0 a1_0 f a = some o0_0) (fun a => o0_0 = .out a) (fun R s h => ∃ v1, R v1 ∧ s = [(0, .slice p0_0 ((a0).length) c0_0), (1, .func (.func 68) #[] #[.pointer (some ⟨q1_0, 0, none⟩)]), (7, I ((a0).length : Int)), (8, I v1)] ∧ h = []) ⟨_, eo0_0, J, J⟩ ?_ ?_))))))
 ·rintro fuel _ _ ⟨v1, H1, rfl, rfl⟩
  rcases fuel with _ | fuel
  ·rw [slices_IndexFunc_Line_of_i_FrameVictim_1_L0.eq_1] at H1; cases H1
  rw [slices_IndexFunc_Line_of_i_FrameVictim_1_L0.eq_2] at H1
  refine sr (oW J (nn (cq (cH J H1 (fun H1 => ?_) (fun H1 => ?_)))))
  ·obtain ⟨x3, e3, H1⟩ := bS H1
   refine kq (cw_block (sr (oM J (ss J (oM J (oM J (oM J (oD (stp_indexAddr u27 ts104 (by decide) J J J (Rdb.ro hr0_0) e3) J (oD (stp_loadN (us := [_, _, _, _, _, _]) ts104 J (Cells.el (Rdb.ro hr0_0) (by decide) e3 0 6 J)) J ?_)))))))))
   obtain ⟨x4, e4, H1⟩ := bS H1
   refine oE (stpU_callF (vals := [_]) (ca := [_]) (fun i => 0 + i) cf68 (fun w hw => c_i_FrameVictim_1 fl w x3 q1_0 a1_0 (rp hba1_0 hw) x4 e4) J (yA J)) J ?_
   rintro _ _ ⟨_, ⟨rfl, rfl⟩, rfl⟩
   refine nn (cH J H1 (fun H1 => ?_) (fun H1 => ?_))
   ·refine sr (oM J (sr1 J (kw_bl_ret (kR (ar (kw_bl_ret (xr (kR ?_))))))))
    obtain rfl := sI H1
    obtain rfl := sI H0
    exact kr results110 (rT J) [] ⟨J, J⟩
   obtain ⟨x6, e6, H1⟩ := bS H1
   exact cw_skip (kb (cR (oP e6 J (oM J (ow_nil (ka ⟨_, H1, J, J⟩))))))
  refine cw_exit (kw_nx_exit (ax (kw_bl ?_)))
  obtain rfl := sI H1
  exact kx ⟨_, J, J, J⟩
 rintro _ _ ⟨v1, rfl, rfl, rfl⟩
 refine kw_nx (sr (sn J (cw_ret ?_)))
 obtain rfl := sI H0
 exact kr results110 (rT J) [] ⟨J, J⟩

theorem c_slices_ContainsFunc_Line_of_i_FrameVictim_1 (fl : Nat) (w : World) (a0 : (List Ln)) (q1_0 : Nat) (a1_0 : Int) (hn0_0 : n0_0 = (a0).length) (hr0_0 : RO w [] (RdL p0_0 c0_0 a0)) (hba1_0 : RO w [] (fun w' => w'.rangeAt q1_0 0 [I a1_0])) (r : Bool) (H0 : slices_ContainsFunc_Line_of_i_FrameVictim_1 fl a0 a1_0 = some r) :
  Ct prog 67 [.slice p0_0 n0_0 c0_0, .func (.func 68) #[] #[.pointer (some ⟨q1_0, 0, none⟩)]] w [] (fun rv h' => rv = .bool r ∧ h' = []) := by
 subst hn0_0
 unfold slices_ContainsFunc_Line_of_i_FrameVictim_1 at H0
 refine ct_of_cw func67 J ntmps67 J (Sat.refl _ _) ?_
 obtain ⟨x1, e1, H0⟩ := bS H0
 refine sr (ss J (oM J (oM J (oE (uC 0 cf110 (fun w hw => c_slices_IndexFunc_Line_of_i_FrameVictim_1 fl w a0 q1_0 a1_0 J (rp hr0_0 hw) (rp hba1_0 hw) x1 e1) (yB J J)) J ?_))))
 rintro _ _ ⟨_, ⟨rfl, rfl⟩, rfl⟩
 refine oI J (sn J (cw_ret ?_))
 obtain rfl := sI H0
 exact kr results67 (rT J) [] ⟨J, J⟩

theorem c_i_FrameVictim (fl : Nat) (w : World) (a0 : Mm) (hn0_0 : n0_0 = (a0.m.t.b).length) (hr0_0 : RO w [] (RdL p0_0 c0_0 a0.m.t.b)) (hn0_1 : n0_1 = (a0.m.t.f).length) (hr0_1 : RO w [] (RdL p0_1 c0_1 a0.m.t.f)) (hn0_2 : n0_2 = (a0.m.c.l).length) (hr0_2 : RO w [] (RdL p0_2 c0_2 a0.m.c.l)) (hn0_3 : n0_3 = (a0.m.g.o).length) (hr0_3 : RO w [] (RdL p0_3 c0_3 a0.m.g.o)) (hn0_4 : n0_4 = (a0.k).length) (hr0_4 : RO w [] (RdL p0_4 c0_4 a0.k)) (hg : RO w [] (fun w' => w'.rangeAt 0 0 [.bool false, I 0, I 0, I 0, I (-1)])) (r : Mm × Int × Bool) (H0 : i_FrameVictim fl a0 = some r) :
  Ct prog 40 [.agg #[.slice p0_0 n0_0 c0_0, .slice p0_1 n0_1 c0_1, .slice p0_2 n0_2 c0_2, I a0.m.c.h, I a0.m.g.c, I a0.m.g.n, I a0.m.g.r, .slice p0_3 n0_3 c0_3, I a0.m.s, .slice p0_4 n0_4 c0_4, I a0.h]] w [] (fun rv h' => SL 3 r.1.m.t.b fun x0 y0 z0 C0 => SL 57 r.1.m.t.f fun x1 y1 z1 C1 => SL 104 r.1.m.c.l fun x2 y2 z2 C2 => SL 70 r.1.m.g.o fun x3 y3 z3 C3 => SL 4 r.1.k fun x4 y4 z4 C4 => rv = .tuple #[.agg #[.slice x0 y0 z0, .slice x1 y1 z1, .slice x2 y2 z2, I r.1.m.c.h, I r.1.m.g.c, I r.1.m.g.n, I r.1.m.g.r, .slice x3 y3 z3, I r.1.m.s, .slice x4 y4 z4, I r.1.h], I r.2.1, .bool r.2.2] ∧ h' = [(0, C0), (1, C1), (2, C2), (3, C3), (4, C4)]) := by
 subst hn0_0 hn0_1 hn0_2 hn0_3 hn0_4
 unfold i_FrameVictim at H0
 refine ct_of_cw func40 J ntmps40 J (Sat.refl _ _) ?_
 refine sr (oE (stpU_box 0 J J) J ?_)
 rintro _ _ ⟨b1, rfl, rfl⟩
 refine oE (stpU_alloc 1 tz37 J) J ?_
 rintro _ _ ⟨b2, rfl, rfl⟩
 obtain ⟨x3, e3, H0⟩ := bS H0
 refine oS J (sq J (oB11 0 ts37 J (oE (uC 2 cf14 (fun w hw => c_i_MemoryValid fl w a0 J (rp hr0_0 hw) J (rp hr0_1 hw) J (rp hr0_2 hw) J (rp hr0_3 hw) J (rp hr0_4 hw) (rp hg hw) x3 e3) (yA J)) J ?_)))
 rintro _ _ ⟨_, ⟨rfl, rfl⟩, rfl⟩
 refine oK J (nn (cH J H0 (fun H0 => ?_) (fun H0 => ?_)))
 ·refine sr (oD (stp_build (cs := #[sN, sN, sN, I 0, I 0, I 0, I 0, sN, I 0, sN, I 0]) sE bt37_19) J (oC11 1 ts37 J J (oS J (sR J (kA 2 (kA 3 (kA 4 (kA 5 (kA 6 ?_)))))))))
  obtain rfl := sI H0
  exact kr results40 (.cons (.cellN (us := [_, _, _, _, _, _, _, _, _, _, _]) ts37 J (Cells.box (id := 1) J 11 J)) (.cons (.tmp J) (rT J))) [2, 3, 4, 5, 6] (sl J oN0 (sl J oN0 (sl J oN0 (sl J oN0 (sl J oN0 ⟨J, J⟩)))))
 obtain ⟨x5, e5, H0⟩ := bS H0
 refine ks (oB11 0 ts37 J (oE (uC 7 cf25 (fun w hw => c_i_Memory_clone fl w a0 J (rp hr0_0 hw) J (rp hr0_1 hw) J (rp hr0_2 hw) J (rp hr0_3 hw) J (rp hr0_4 hw) x5 e5) (yA J)) J ?_))
 rintro _ _ ⟨_, ⟨p6, _, c8, C9, rfl, o9, p10, _, c12, C13, rfl, o13, p14, _, c16, C17, rfl, o17, p18, _, c20, C21, rfl, o21, p22, _, c24, C25, rfl, o25, rfl, rfl⟩, rfl⟩
 refine oE (stpU_alloc 12 tz37 J) J ?_
 rintro _ _ ⟨b26, rfl, rfl⟩
 obtain ⟨x27, e27, H0⟩ := bS H0
 refine oC11 12 ts37 J J (ns (oAL 9 u37 J ts35 J 12 J (oD (stp_len u35 J) J (sq J (oM J (oD (stp_mul J J e27) J (oM J (nn ?_))))))))
 obtain ⟨o0_0, eo0_0, H0⟩ := bS H0
 refine lp (fun f a b c => i_FrameVictim_L0 fl x5 x27 f a b c = some o0_0) (fun a b c => o0_0 = .out (a, b, c)) (fun R s h => ∃ v28 v29 v31 C30, R v28 v29 v31 ∧ s = [(2, .pointer (some ⟨b2, 0, none⟩)), (5, .pointer (some ⟨b26, 0, none⟩)), (6, I ((x5.k).length : Int)), (19, I x27), (20, I v31)] ∧ h = [(1, [(b2, .cells #[sN, sN, sN, I 0, I 0, I 0, I 0, sN, I 0, sN, I 0] 37 (0, 0))]), (7, C9), (8, C13), (9, C17), (10, C21), (11, C30), (12, [(b26, .cells #[.slice p6 ((x5.m.t.b).length) c8, .slice p10 ((x5.m.t.f).length) c12, .slice p14 ((x5.m.c.l).length) c16, I x5.m.c.h, I x5.m.g.c, I x5.m.g.n, I x5.m.g.r, .slice p18 ((x5.m.g.o).length) c20, I x5.m.s, .slice p22 ((x5.k).length) c24, I v28] 37 (0, 0))])] ∧ (x5.k).length = (v29).length ∧ OwnC 4 p22 c24 v29 C30) ⟨_, _, _, C25, eo0_0, J, J, J, o25⟩ ?_ ?_
 ·rintro fuel _ _ ⟨v28, v29, v31, C30, H1, rfl, rfl, hl30, o30⟩
  rcases fuel with _ | fuel
  ·rw [i_FrameVictim_L0.eq_1] at H1; cases H1
  rw [i_FrameVictim_L0.eq_2] at H1
  refine sr (oW J (nn (cq (cH J H1 (fun H1 => ?_) (fun H1 => ?_)))))
  ·refine kq (cw_block (sr (oAL 10 u37 J ts3 J 12 J (oE (stpU_alloc 13 tz3 J) J ?_))))
   rintro _ _ ⟨b33, rfl, rfl⟩
   obtain ⟨x34, e34, H1⟩ := bS H1
   obtain ⟨x35, e35, H1⟩ := bS H1
   refine oC1 13 ts3 J J (ns (oL 13 ts3 J (oP e34 J (oM J (oD (stp_rem J J e35) J (oA 10 u37 J ts3 J (oC11 12 ts3 J J (ns (oA 0 u37 J ts34 J (oA 2 u34 J ts29 J (oA 0 u29 J ts27 J ?_)))))))))))
   obtain ⟨x36, e36, H1⟩ := bS H1
   refine oL 12 ts27 J (oD (stp_makeFunc (yA J)) J (oE (uC 14 cf67 (fun w hw => c_slices_ContainsFunc_Line_of_i_FrameVictim_1 fl w x5.m.c.l b33 v28 J (owp 9 J o17 hw) (box_pass (id := 13) J hw) x36 e36) (yB J J)) J ?_))
   rintro _ _ ⟨_, ⟨rfl, rfl⟩, rfl⟩
   obtain ⟨x37, e37, H1⟩ := bS H1
   refine sn J (cw_block (sr (oA 0 u37 J ts34 J (oA 0 u34 J ts26 J (oAL 1 u26 J ts24 J 12 J (oL 13 ts3 J (oD (stp_indexAddr u24 ts57 (by decide) J J J (Rdb.own (id := 8) J o13) e37) J (oA 0 u57 J ts4 J (oD (stp_load1 ts4 J (Cells.el (Rdb.own (id := 8) J o13) (by decide) e37 0 1 J)) J (oK J (oM J ?_)))))))))))
   obtain ⟨y38, ey38, H1⟩ := bS H1
   refine ow_cutY 2 49 y38 ?_ ?_
   ·rcases Bool.eq_false_or_eq_true (!x37.u) with hy38 | hy38
    ·have ey38 := cond_t ey38 hy38
     refine oO J hy38 J (oD (stp_pick_t J hy38 J) J ?_)
     obtain rfl := sI ey38
     exact ow_nil (jy 2 0)
    have ey38 := cond_f ey38 hy38
    refine oG J hy38 (mv J) J (oD (stp_pick_f J hy38 J) J ?_)
    obtain rfl := sI ey38
    exact ow_nil (jy 2 0)
   refine sn J (cH J H1 (fun H1 => ?_) (fun H1 => ?_))
   ·obtain ⟨x40, e40, H1⟩ := bS H1
    exact cw_skip (kw_bl_normal (kb (cR (oP e40 J (oM J (ow_nil (ka ⟨_, _, _, C30, H1, J, J, (by simp [hl30]), o30⟩)))))))
   obtain ⟨x41, e41, H1⟩ := bS H1
   refine sr (oAL 9 u37 J ts35 J 12 J (oL 13 ts3 J (oD (stp_indexAddr u35 ts4 (by decide) J (by simp [hl30]) J (Rdb.own (id := 11) J o30) e41) J (oD (stp_load1 ts4 J (Cells.el (Rdb.own (id := 11) J o30) (by decide) e41 0 1 J)) J (sn J (cH J H1 (fun H1 => ?_) (fun H1 => ?_)))))))
   ·refine cR (oAL 9 u37 J ts35 J 12 J (oL 13 ts3 J (oD (stp_indexAddr u35 ts4 (by decide) J (by simp [hl30]) J (Rdb.own (id := 11) J o30) e41) J (oF (stpU_storeEl (id := 11) (i := 0) false (by decide) ts4 J J J o30 e41 J J J J) ?_))))
    rintro _ _ ⟨C43, rfl, o43⟩
    obtain ⟨x44, e44, H1⟩ := bS H1
    exact ow_nil (kw_bl_normal (kb (cR (oP e44 J (oM J (ow_nil (ka ⟨_, _, _, C43, H1, J, J, (by simp [hl30]), o43⟩)))))))
   refine cq (rdt g_mixed (rn 0 5) ⟨[[12],[13],[1]], [[],[],[1]], []⟩ (dB11 12 ts37 J (dL 13 ts3 J (dC11 1 ts37 J J J (dS J (dS J (dn (kw_nx (cw_ret (kw_bl_ret (kw_bl_ret (kR (ar ?_)))))))))))))
   refine kw_bl_ret (xr (kR ?_))
   obtain rfl := sI H1
   obtain rfl := sI H0
   exact kr results40 (.cons (.cellN (us := [_, _, _, _, _, _, _, _, _, _, _]) ts37 J (Cells.box (id := 1) J 11 J)) (.cons (.tmp J) (rT J))) [7, 8, 9, 10, 11] (sl J o9 (sl J o13 (sl J o17 (sl J o21 (sl (by simp [hl30]) o30 ⟨J, J⟩)))))
  refine cw_exit (kw_nx_exit (ax (kw_bl ?_)))
  obtain rfl := sI H1
  exact kx ⟨_, _, _, C30, J, J, J, (by simp [hl30]), o30⟩
 rintro _ _ ⟨v28, v29, v31, C30, rfl, rfl, rfl, hl30, o30⟩
 refine kw_nx (sr (oD (stp_build (cs := #[sN, sN, sN, I 0, I 0, I 0, I 0, sN, I 0, sN, I 0]) sE bt37_19) J (oC11 1 ts37 J J (oS J (sr1 J (kA 14 (kA 15 (kA 16 (kA 17 (kA 18 ?_))))))))))
 obtain rfl := sI H0
 exact kr results40 (.cons (.cellN (us := [_, _, _, _, _, _, _, _, _, _, _]) ts37 J (Cells.box (id := 1) J 11 J)) (.cons (.tmp J) (rT J))) [14, 15, 16, 17, 18] (sl J oN0 (sl J oN0 (sl J oN0 (sl J oN0 (sl J oN0 ⟨J, J⟩)))))

theorem c_i_KeyValid (fl : Nat) (w : World) (a0 : K) (r : Bool) (H0 : i_KeyValid fl a0 = some r) :
  Ct prog 34 [.agg #[I a0.s, I a0.p]] w [] (fun rv h' => rv = .bool r ∧ h' = []) := by
 unfold i_KeyValid at H0
 refine ct_of_cw func34 J ntmps34 J (Sat.refl _ _) ?_
 refine sr (oE (stpU_box 0 J J) J ?_)
 rintro _ _ ⟨b1, rfl, rfl⟩
 obtain ⟨x2, e2, H0⟩ := bS H0
 refine ss J (oAL 0 u50 J ts3 J 0 J (oE (uC 1 cf32 (fun w hw => c_i_within fl w a0.s 16 x2 e2) (yB J J)) J ?_))
 rintro _ _ ⟨_, ⟨rfl, rfl⟩, rfl⟩
 obtain ⟨y3, ey3, H0⟩ := bS H0
 refine oM J (ow_cutY 4 10 y3 ?_ ?_)
 ·rcases Bool.eq_false_or_eq_true x2 with hy3 | hy3
  ·have ey3 := cond_t ey3 hy3
   obtain ⟨x4, e4, ey3⟩ := bS ey3
   refine oG J hy3 (fA 1 u50 J ts3 J J J) J (oG J hy3 (lB 0 ts3 J J J) J (ow_eff (.some J hy3) (uC 1 cf32 (fun w hw => c_i_within fl w a0.p 256 x4 e4) (yB J J)) J ?_))
   rintro _ _ ⟨_, ⟨rfl, rfl⟩, rfl⟩
   refine oD (stp_pick_t J hy3 J) J ?_
   obtain rfl := sI ey3
   exact ow_nil (jy 4 0)
  have ey3 := cond_f ey3 hy3
  refine oO J hy3 J (oO J hy3 J (oO J hy3 J (oD (stp_pick_f J hy3 J) J ?_)))
  obtain rfl := sI ey3
  exact ow_nil (jy 4 0)
 refine sn J (cw_ret ?_)
 obtain rfl := sI H0
 exact kr results34 (rT J) [] ⟨J, J⟩

theorem c_i_hash (fl : Nat) (w : World) (a0 : K) (a1 : Int) (r : Int) (H0 : i_hash fl a0 a1 = some r) :
  Ct prog 36 [.agg #[I a0.s, I a0.p], I a1] w [] (fun rv h' => rv = I r ∧ h' = []) := by
 unfold i_hash at H0
 refine ct_of_cw func36 J ntmps36 J (Sat.refl _ _) ?_
 refine sr (oE (stpU_box 0 J J) J ?_)
 rintro _ _ ⟨b1, rfl, rfl⟩
 obtain ⟨x2, e2, H0⟩ := bS H0
 obtain ⟨x3, e3, H0⟩ := bS H0
 obtain ⟨x4, e4, H0⟩ := bS H0
 refine ss J (oAL 0 u50 J ts3 J 0 J (oD (stp_mul J J e2) J (oAL 1 u50 J ts3 J 0 J (oP e3 J (oD (stp_convU u3 u109 J e4) J (ss J (oM J ?_)))))))
 obtain ⟨x5, e5, H0⟩ := bS H0
 obtain ⟨x6, e6, H0⟩ := bS H0
 obtain ⟨x7, e7, H0⟩ := bS H0
 obtain ⟨x8, e8, H0⟩ := bS H0
 obtain ⟨x9, e9, H0⟩ := bS H0
 refine oD (stp_mulU J J e5) J (oD (stp_rem J J e6) J (ss J (oM J (oM J (oD (stp_convU u3 u109 J e7) J (oD (stp_mulU J J e8) J (oD (stp_shr (d := 4294967296) (by decide) J J) J (oD (stp_convI u109 u3 J e9) J (sn J (cw_ret ?_))))))))))
 obtain rfl := sI H0
 exact kr results36 (rT J) [] ⟨J, J⟩

theorem c_i_UnmapPage (fl : Nat) (w : World) (a0 : T) (a1 : K) (hn0_0 : n0_0 = (a0.b).length) (hr0_0 : RO w [] (RdL p0_0 c0_0 a0.b)) (hn0_1 : n0_1 = (a0.f).length) (hr0_1 : RO w [] (RdL p0_1 c0_1 a0.f)) (hg : RO w [] (fun w' => w'.rangeAt 0 0 [.bool false, I 0, I 0, I 0, I (-1)])) (r : T × Bool) (H0 : i_UnmapPage fl a0 a1 = some r) :
  Ct prog 69 [.agg #[.slice p0_0 n0_0 c0_0, .slice p0_1 n0_1 c0_1], .agg #[I a1.s, I a1.p]] w [] (fun rv h' => SL 3 r.1.b fun x0 y0 z0 C0 => SL 57 r.1.f fun x1 y1 z1 C1 => rv = .tuple #[.agg #[.slice x0 y0 z0, .slice x1 y1 z1], .bool r.2] ∧ h' = [(0, C0), (1, C1)]) := by
 subst hn0_0 hn0_1
 unfold i_UnmapPage at H0
 refine ct_of_cw func69 J ntmps69 J (Sat.refl _ _) ?_
 refine sr (oE (stpU_box 0 J J) J ?_)
 rintro _ _ ⟨b1, rfl, rfl⟩
 refine oE (stpU_box 1 J J) J ?_
 rintro _ _ ⟨b2, rfl, rfl⟩
 refine oE (stpU_alloc 2 tz26 J) J ?_
 rintro _ _ ⟨b3, rfl, rfl⟩
 obtain ⟨x4, e4, H0⟩ := bS H0
 refine sq J (oB2 0 ts26 J (oE (uC 3 cf33 (fun w hw => c_i_TableValid fl w a0 J (rp hr0_0 hw) J (rp hr0_1 hw) (rp hg hw) x4 e4) (yA J)) J ?_))
 rintro _ _ ⟨_, ⟨rfl, rfl⟩, rfl⟩
 obtain ⟨y5, ey5, H0⟩ := bS H0
 refine oK J (oM J (ow_cutY 4 18 y5 ?_ ?_))
 ·rcases Bool.eq_false_or_eq_true (!x4) with hy5 | hy5
  ·have ey5 := cond_t ey5 hy5
   refine oO J hy5 J (oO J hy5 J (oO J hy5 J (oD (stp_pick_t J hy5 J) J ?_)))
   obtain rfl := sI ey5
   exact ow_nil (jy 4 0)
  have ey5 := cond_f ey5 hy5
  obtain ⟨x6, e6, ey5⟩ := bS ey5
  refine oG J hy5 (stp_loadN (us := [_, _]) ts50 J (Cells.box (id := 1) J 2 J)) J (ow_eff (.some J hy5) (uC 3 cf34 (fun w hw => c_i_KeyValid fl w a1 x6 e6) (yA J)) J ?_)
  rintro _ _ ⟨_, ⟨rfl, rfl⟩, rfl⟩
  refine oG J hy5 (stp_not J) J (oD (stp_pick_f J hy5 J) J ?_)
  obtain rfl := sI ey5
  exact ow_nil (jy 4 0)
 obtain ⟨y7, ey7, H0⟩ := bS H0
 refine oM J (ow_cutY 5 24 y7 ?_ ?_)
 ·rcases Bool.eq_false_or_eq_true y5 with hy7 | hy7
  ·have ey7 := cond_t ey7 hy7
   refine oO J hy7 J (oO J hy7 J (oO J hy7 J (oO J hy7 J (oD (stp_pick_t J hy7 J) J ?_))))
   obtain rfl := sI ey7
   exact ow_nil (jy 5 0)
  have ey7 := cond_f ey7 hy7
  obtain ⟨x8, e8, ey7⟩ := bS ey7
  refine oG J hy7 (stp_loadN (us := [_, _]) ts26 J (Cells.box (id := 0) J 2 J)) J (oG J hy7 (stp_loadN (us := [_, _]) ts50 J (Cells.box (id := 1) J 2 J)) J (ow_eff (.some J hy7) (uC 3 cf38 (fun w hw => c_i_Table_find fl w a0 a1 J (rp hr0_0 hw) J (rp hr0_1 hw) x8 e8) (yB J J)) J ?_))
  rintro _ _ ⟨_, ⟨rfl, rfl⟩, rfl⟩
  refine oG J hy7 (stp_lss J J) J (oD (stp_pick_f J hy7 J) J ?_)
  obtain rfl := sI ey7
  exact ow_nil (jy 5 0)
 refine ow_nil (kw_nx (cH J H0 (fun H0 => ?_) (fun H0 => ?_)))
 ·refine sr (oD (stp_build (cs := #[sN, sN]) sE bt26_0) J (oC2 2 ts26 J J (sR J (kA 3 (kA 4 ?_)))))
  obtain rfl := sI H0
  exact kr results69 (.cons (.cellN (us := [_, _]) ts26 J (Cells.box (id := 2) J 2 J)) (rT J)) [3, 4] (sl J oN0 (sl J oN0 ⟨J, J⟩))
 obtain ⟨x10, e10, H0⟩ := bS H0
 refine ks (oB2 0 ts26 J (oE (uC 5 cf90 (fun w hw => c_i_Table_clone fl w a0 J (rp hr0_0 hw) J (rp hr0_1 hw) x10 e10) (yA J)) J ?_))
 rintro _ _ ⟨_, ⟨p11, _, c13, C14, rfl, o14, p15, _, c17, C18, rfl, o18, rfl, rfl⟩, rfl⟩
 refine oE (stpU_alloc 7 tz26 J) J ?_
 rintro _ _ ⟨b19, rfl, rfl⟩
 obtain ⟨x20, e20, H0⟩ := bS H0
 refine oC2 7 ts26 J J (ns (oB2 0 ts26 J (oB2 1 ts50 J (oE (uC 8 cf38 (fun w hw => c_i_Table_find fl w a0 a1 J (rp hr0_0 hw) J (rp hr0_1 hw) x20 e20) (yB J J)) J ?_))))
 rintro _ _ ⟨_, ⟨rfl, rfl⟩, rfl⟩
 obtain ⟨x21, e21, H0⟩ := bS H0
 refine ss J (oAL 1 u26 J ts24 J 0 J (oM J (oD (stp_indexAddr u24 ts57 (by decide) J J J (Rdb.ro hr0_1) e21) J (oA 4 u57 J ts3 J (oD (stp_load1 ts3 J (Cells.el (Rdb.ro hr0_1) (by decide) e21 4 1 J)) J (ss J (oB2 1 ts50 J (oA 0 u26 J ts23 J ?_))))))))
 obtain ⟨x22, e22, H0⟩ := bS H0
 refine oL 0 ts23 J (oD (stp_len u23 J) J (oE (uC 8 cf36 (fun w hw => c_i_hash fl w a1 ((a0.b).length : Int) x22 e22) (yB J J)) J ?_))
 rintro _ _ ⟨_, ⟨rfl, rfl⟩, rfl⟩
 obtain ⟨x23, e23, H0⟩ := bS H0
 refine sq J (oAL 0 u26 J ts23 J 7 J (oM J (oD (stp_indexAddr u23 ts3 (by decide) J J J (Rdb.own (id := 5) J o14) e23) J (oD (stp_load1 ts3 J (Cells.el (Rdb.own (id := 5) J o14) (by decide) e23 0 1 J)) J (oM J (oQ J (nn (cH J H0 (fun H0 => ?_) (fun H0 => ?_)))))))))
 ·refine cR (oAL 0 u26 J ts23 J 7 J (oM J (oM J (oD (stp_indexAddr u23 ts3 (by decide) J J J (Rdb.own (id := 5) J o14) e23) J (oF (stpU_storeEl (id := 5) (i := 0) x21.nx (by decide) ts3 J J J o14 e23 J J J J) ?_)))))
  rintro _ _ ⟨C25, rfl, o25⟩
  obtain ⟨x26, e26, H0⟩ := bS H0
  refine ns (oAL 1 u26 J ts24 J 7 J (oM J (oD (stp_loadN (us := [_, _, _, _, _]) ts57 J (Cells.ofRO hg 5 J)) J (oD (stp_indexAddr u24 ts57 (by decide) J J J (Rdb.own (id := 6) J o18) e26) J (oF (stpU_storeEl (id := 6) (i := 0) (⟨false, (⟨0, 0⟩ : K), 0, (-1)⟩ : F) (by decide) ts57 J J J o18 e26 J J J J) ?_)))))
  rintro _ _ ⟨C27, rfl, o27⟩
  refine ns (oB2 7 ts26 J (oC2 2 ts26 J J (sn J (cw_ret ?_))))
  obtain rfl := sI H0
  exact kr results69 (.cons (.cellN (us := [_, _]) ts26 J (Cells.box (id := 2) J 2 J)) (rT J)) [5, 6] (sl (by simp) o25 (sl (by simp) o27 ⟨J, J⟩))
 obtain ⟨o0_0, eo0_0, H0⟩ := bS H0
 refine sr (oAL 1 u26 J ts24 J 7 J (oD (stp_len u24 J) J (oM J (nn (lp (fun f a b => i_UnmapPage_L0 fl x10 x20 x21 f a b = some o0_0) (fun a b => o0_0 = .out (a, b)) (fun R s h => ∃ v28 v30 C29, R v28 v30 ∧ s = [(4, .pointer (some ⟨b3, 0, none⟩)), (6, .pointer (some ⟨b19, 0, none⟩)), (7, I x20), (8, I x21.nx), (56, I ((x10.f).length : Int)), (57, I v30)] ∧ h = [(2, [(b3, .cells #[sN, sN] 26 (0, 0))]), (5, C14), (6, C29), (7, [(b19, .cells #[.slice p11 ((x10.b).length) c13, .slice p15 ((x10.f).length) c17] 26 (0, 0))])] ∧ (x10.f).length = (v28).length ∧ OwnC 57 p15 c17 v28 C29) ⟨_, _, C18, eo0_0, J, J, J, o18⟩ ?_ ?_)))))
 ·rintro fuel _ _ ⟨v28, v30, C29, H1, rfl, rfl, hl29, o29⟩
  rcases fuel with _ | fuel
  ·rw [i_UnmapPage_L0.eq_1] at H1; cases H1
  rw [i_UnmapPage_L0.eq_2] at H1
  refine sr (oW J (nn (cq (cH J H1 (fun H1 => ?_) (fun H1 => ?_)))))
  ·obtain ⟨x32, e32, H1⟩ := bS H1
   refine kq (cw_block (sr (oM J (ss J (oAL 1 u26 J ts24 J 7 J (oM J (oD (stp_indexAddr u24 ts57 (by decide) J (by simp [hl29]) J (Rdb.own (id := 6) J o29) e32) J (oA 0 u57 J ts4 J ?_))))))))
   obtain ⟨y33, ey33, H1⟩ := bS H1
   refine oD (stp_load1 ts4 J (Cells.el (Rdb.own (id := 6) J o29) (by decide) e32 0 1 J)) J (oM J (ow_cutY 9 75 y33 ?_ ?_))
   ·rcases Bool.eq_false_or_eq_true x32.u with hy33 | hy33
    ·have ey33 := cond_t ey33 hy33
     refine oG J hy33 (fA 1 u26 J ts24 J J J) J (oG J hy33 (lB 7 ts24 J J J) J (oG J hy33 (mv J) J (oG J hy33 (stp_indexAddr u24 ts57 (by decide) J (by simp [hl29]) J (Rdb.own (id := 6) J o29) e32) J (oG J hy33 (fA 4 u57 J ts3 J J J) J (oG J hy33 (stp_load1 ts3 J (Cells.el (Rdb.own (id := 6) J o29) (by decide) e32 4 1 J)) J (oG J hy33 (mv J) J (oG J hy33 (stp_eql J J) J (oD (stp_pick_t J hy33 J) J ?_))))))))
     obtain rfl := sI ey33
     exact ow_nil (jy 9 0)
    have ey33 := cond_f ey33 hy33
    refine oO J hy33 J (oO J hy33 J (oO J hy33 J (oO J hy33 J (oO J hy33 J (oO J hy33 J (oO J hy33 J (oO J hy33 J (oD (stp_pick_f J hy33 J) J ?_))))))))
    obtain rfl := sI ey33
    exact ow_nil (jy 9 0)
   refine ow_nil (kw_nx (cH J H1 (fun H1 => ?_) (fun H1 => ?_)))
   ·refine cR (oAL 1 u26 J ts24 J 7 J (oM J (oM J (oD (stp_indexAddr u24 ts57 (by decide) J (by simp [hl29]) J (Rdb.own (id := 6) J o29) e32) J (oA 4 u57 J ts3 J (oF (stpU_storeEl (id := 6) (i := 4) (⟨x32.u, x32.k, x32.r, x21.nx⟩ : F) (by decide) ts3 J J J o29 e32 J J J J) ?_))))))
    rintro _ _ ⟨C35, rfl, o35⟩
    obtain ⟨x36, e36, H1⟩ := bS H1
    exact ow_nil (kb (cR (oP e36 J (oM J (ow_nil (ka ⟨_, _, C35, H1, J, J, (by simp [hl29]), o35⟩))))))
   obtain ⟨x37, e37, H1⟩ := bS H1
   exact cw_skip (kb (cR (oP e37 J (oM J (ow_nil (ka ⟨_, _, C29, H1, J, J, (by simp [hl29]), o29⟩))))))
  refine cw_exit (kw_nx_exit (ax (kw_bl ?_)))
  obtain rfl := sI H1
  exact kx ⟨_, _, C29, J, J, J, (by simp [hl29]), o29⟩
 rintro _ _ ⟨v28, v30, C29, rfl, rfl, rfl, hl29, o29⟩
 obtain ⟨x38, e38, H0⟩ := bS H0
 refine kw_nx (sr (oAL 1 u26 J ts24 J 7 J (oM J (oD (stp_loadN (us := [_, _, _, _, _]) ts57 J (Cells.ofRO hg 5 J)) J (oD (stp_indexAddr u24 ts57 (by decide) J (by simp [hl29]) J (Rdb.own (id := 6) J o29) e38) J (oF (stpU_storeEl (id := 6) (i := 0) (⟨false, (⟨0, 0⟩ : K), 0, (-1)⟩ : F) (by decide) ts57 J J J o29 e38 J J J J) ?_))))))
 rintro _ _ ⟨C39, rfl, o39⟩
 refine ns (oB2 7 ts26 J (oC2 2 ts26 J J (sn J (cw_ret ?_))))
 obtain rfl := sI H0
 exact kr results69 (.cons (.cellN (us := [_, _]) ts26 J (Cells.box (id := 2) J 2 J)) (rT J)) [5, 6] (sl J o14 (sl (by simp [hl29]) o39 ⟨J, J⟩))

theorem c_i_TagOf (fl : Nat) (w : World) (a0 : Tg) (a1 : Int) (hn0_0 : n0_0 = (a0.o).length) (hr0_0 : RO w [] (RdL p0_0 c0_0 a0.o)) (r : Int × Bool) (H0 : i_TagOf fl a0 a1 = some r) :
  Ct prog 112 [.agg #[I a0.c, I a0.n, I a0.r, .slice p0_0 n0_0 c0_0], I a1] w [] (fun rv h' => rv = .tuple #[I r.1, .bool r.2] ∧ h' = []) := by
 subst hn0_0
 unfold i_TagOf at H0
 refine ct_of_cw func112 J ntmps112 J (Sat.refl _ _) ?_
 refine sr (oE (stpU_box 0 J J) J ?_)
 rintro _ _ ⟨b1, rfl, rfl⟩
 obtain ⟨x2, e2, H0⟩ := bS H0
 refine oS J (sq J (oB4 0 ts32 J (oE (uC 1 cf60 (fun w hw => c_i_TagsValid fl w a0 J (rp hr0_0 hw) x2 e2) (yA J)) J ?_)))
 rintro _ _ ⟨_, ⟨rfl, rfl⟩, rfl⟩
 obtain ⟨y3, ey3, H0⟩ := bS H0
 refine oK J (oM J (ow_cutY 5 14 y3 ?_ ?_))
 ·rcases Bool.eq_false_or_eq_true (!x2) with hy3 | hy3
  ·have ey3 := cond_t ey3 hy3
   refine oO J hy3 J (oO J hy3 J (oO J hy3 J (oO J hy3 J (oD (stp_pick_t J hy3 J) J ?_))))
   obtain rfl := sI ey3
   exact ow_nil (jy 5 0)
  have ey3 := cond_f ey3 hy3
  obtain ⟨x4, e4, ey3⟩ := bS ey3
  refine oG J hy3 (stp_loadN (us := [_, _, _, _]) ts32 J (Cells.box (id := 0) J 4 J)) J (oG J hy3 (mv J) J (ow_eff (.some J hy3) (uC 1 cf61 (fun w hw => c_i_Tags_own fl w a0 a1 J (rp hr0_0 hw) x4 e4) (yB J J)) J ?_))
  rintro _ _ ⟨_, ⟨rfl, rfl⟩, rfl⟩
  refine oG J hy3 (stp_lss J J) J (oD (stp_pick_f J hy3 J) J ?_)
  obtain rfl := sI ey3
  exact ow_nil (jy 5 0)
 refine ow_nil (kw_nx (cH J H0 (fun H0 => ?_) (fun H0 => ?_)))
 ·refine sr (oS J (sr1 J (kR ?_)))
  obtain rfl := sI H0
  exact kr results112 (.cons (.tmp J) (rT J)) [] ⟨J, J⟩
 obtain ⟨x6, e6, H0⟩ := bS H0
 obtain ⟨x7, e7, H0⟩ := bS H0
 refine kq (rdt g_mixed (rn 0 10) ⟨[[],[0],[0]], [], []⟩ (dA 3 J u32 J ts30 J (dL 0 ts30 J (dB4 0 ts32 J (dM J (dV J (fun hh => uC 1 cf61 (fun w hw => c_i_Tags_own fl w a0 a1 J (rp hr0_0 hw) x6 e6) (yB J J)) J (dD J (stp_indexAddr u30 ts70 (by decide) J J J (Rdb.ro hr0_0) e7) (dA 1 J u70 J ts3 J (dD J (stp_load1 ts3 J (Cells.el (Rdb.ro hr0_0) (by decide) e7 1 1 J)) (dS J (dS J ?_)))))))))))
 refine dn (kw_nx (cw_ret ?_))
 obtain rfl := sI H0
 exact kr results112 (.cons (.tmp J) (rT J)) [] ⟨J, J⟩

theorem c_i_Machine_tagFor (fl : Nat) (w : World) (a0 : Mc) (a1 : Int) (a2 : Int) (hn0_0 : n0_0 = (a0.t.b).length) (hr0_0 : RO w [] (RdL p0_0 c0_0 a0.t.b)) (hn0_1 : n0_1 = (a0.t.f).length) (hr0_1 : RO w [] (RdL p0_1 c0_1 a0.t.f)) (hn0_2 : n0_2 = (a0.c.l).length) (hr0_2 : RO w [] (RdL p0_2 c0_2 a0.c.l)) (hn0_3 : n0_3 = (a0.g.o).length) (hr0_3 : RO w [] (RdL p0_3 c0_3 a0.g.o)) (r : Int × Bool) (H0 : i_Machine_tagFor fl a0 a1 a2 = some r) :
  Ct prog 72 [.agg #[.slice p0_0 n0_0 c0_0, .slice p0_1 n0_1 c0_1, .slice p0_2 n0_2 c0_2, I a0.c.h, I a0.g.c, I a0.g.n, I a0.g.r, .slice p0_3 n0_3 c0_3, I a0.s], I a1, I a2] w [] (fun rv h' => rv = .tuple #[I r.1, .bool r.2] ∧ h' = []) := by
 subst hn0_0 hn0_1 hn0_2 hn0_3
 unfold i_Machine_tagFor at H0
 refine ct_of_cw func72 J ntmps72 J (Sat.refl _ _) ?_
 refine sr (oE (stpU_box 0 J J) J ?_)
 rintro _ _ ⟨b1, rfl, rfl⟩
 refine oS J (sq J (oM J (oI J (nn (cH J H0 (fun H0 => ?_) (fun H0 => ?_))))))
 ·refine sr (oS J (sr1 J (kR ?_)))
  obtain rfl := sI H0
  exact kr results72 (.cons (.tmp J) (rT J)) [] ⟨J, J⟩
 obtain ⟨x3, e3, H0⟩ := bS H0
 refine ks (oA 4 u34 J ts32 J (oB4 0 ts32 J (oM J (oE (uC 1 cf112 (fun w hw => c_i_TagOf fl w a0.g a1 J (rp hr0_3 hw) x3 e3) (yB J J)) J ?_))))
 rintro _ _ ⟨_, ⟨rfl, rfl⟩, rfl⟩
 refine oT J (oT J (oS J (sn J (cw_ret ?_))))
 obtain rfl := sI H0
 exact kr results72 (.cons (.tmp J) (rT J)) [] ⟨J, J⟩

theorem c_i_Cache_place_1 (fl : Nat) (w : World) (a0 : Ln) (qc0 : Nat) (ac0 : Int) (qc1 : Nat) (ac1 : Int) (hbac0 : RO w [] (fun w' => w'.rangeAt qc0 0 [I ac0])) (hbac1 : RO w [] (fun w' => w'.rangeAt qc1 0 [I ac1])) (r : Bool) (H0 : i_Cache_place_1 fl a0 ac0 ac1 = some r) :
  Ct prog 113 [.agg #[.bool a0.va, I a0.tg, I a0.pg, I a0.fr, I a0.ri, .bool a0.wi], .pointer (some ⟨qc0, 0, none⟩), .pointer (some ⟨qc1, 0, none⟩)] w [] (fun rv h' => rv = .bool r ∧ h' = []) := by
 unfold i_Cache_place_1 at H0
 refine ct_of_cw func113 J ntmps113 J (Sat.refl _ _) ?_
 refine sr (oE (stpU_box 0 J J) J ?_)
 rintro _ _ ⟨b1, rfl, rfl⟩
 obtain ⟨y2, ey2, H0⟩ := bS H0
 refine ss J (oAL 0 u104 J ts4 J 0 J (oM J (ow_cutY 5 12 y2 ?_ ?_)))
 ·rcases Bool.eq_false_or_eq_true a0.va with hy2 | hy2
  ·have ey2 := cond_t ey2 hy2
   refine oG J hy2 (fA 2 u104 J ts3 J J J) J (oG J hy2 (lB 0 ts3 J J J) J (oG J hy2 (stp_load1 ts3 J (Cells.ofRO hbac0 1 J)) J (oG J hy2 (stp_eql J J) J (oD (stp_pick_t J hy2 J) J ?_))))
   obtain rfl := sI ey2
   exact ow_nil (jy 5 0)
  have ey2 := cond_f ey2 hy2
  refine oO J hy2 J (oO J hy2 J (oO J hy2 J (oO J hy2 J (oD (stp_pick_f J hy2 J) J ?_))))
  obtain rfl := sI ey2
  exact ow_nil (jy 5 0)
 obtain ⟨y3, ey3, H0⟩ := bS H0
 refine oM J (ow_cutY 10 23 y3 ?_ ?_)
 ·rcases Bool.eq_false_or_eq_true y2 with hy3 | hy3
  ·have ey3 := cond_t ey3 hy3
   obtain ⟨y4, ey4, ey3⟩ := bS ey3
   refine oG J hy3 (fA 1 u104 J ts3 J J J) J (oG J hy3 (lB 0 ts3 J J J) J (oG J hy3 (stp_load1 ts3 J (Cells.ofRO hbac1 1 J)) J (oG J hy3 (stp_eql J J) J (oG J hy3 (mv J) J (ow_cutY 4 22 y4 ?_ ?_)))))
   ·rcases Bool.eq_false_or_eq_true (a0.tg == ac1) with hy4 | hy4
    ·have ey4 := cond_t ey4 hy4
     refine oO J hy4 J (oO J hy4 J (oO J hy4 J (oG J hy3 (stp_pick_t J hy4 J) J ?_)))
     obtain rfl := sI ey4
     exact ow_nil (jy 4 0)
    have ey4 := cond_f ey4 hy4
    refine oG J hy4 (fA 1 u104 J ts3 J J J) J (oG J hy4 (lB 0 ts3 J J J) J (oG J hy4 (stp_eql J J) J (oG J hy3 (stp_pick_f J hy4 J) J ?_)))
    obtain rfl := sI ey4
    exact ow_nil (jy 4 0)
   refine oD (stp_pick_t J hy3 J) J ?_
   obtain rfl := sI ey3
   exact ow_nil (jy 7 0)
  have ey3 := cond_f ey3 hy3
  refine oO J hy3 J (oO J hy3 J (oO J hy3 J (oO J hy3 J (oO J hy3 J (oX J J J (oX J J J (oX J J J (oO J hy3 J (oD (stp_pick_f J hy3 J) J ?_)))))))))
  obtain rfl := sI ey3
  exact ow_nil (jy 10 0)
 refine sn J (cw_ret ?_)
 obtain rfl := sI H0
 exact kr results113 (rT J) [] ⟨J, J⟩

theorem c_slices_IndexFunc_Line_of_i_Cache_place_1 (fl : Nat) (w : World) (a0 : (List Ln)) (q1_0 : Nat) (a1_0 : Int) (q1_1 : Nat) (a1_1 : Int) (hn0_0 : n0_0 = (a0).length) (hr0_0 : RO w [] (RdL p0_0 c0_0 a0)) (hba1_0 : RO w [] (fun w' => w'.rangeAt q1_0 0 [I a1_0])) (hba1_1 : RO w [] (fun w' => w'.rangeAt q1_1 0 [I a1_1])) (r : Int) (H0 : slices_IndexFunc_Line_of_i_Cache_place_1 fl a0 a1_0 a1_1 = some r) :
  Ct prog 110 [.slice p0_0 n0_0 c0_0, .func (.func 113) #[] #[.pointer (some ⟨q1_0, 0, none⟩), .pointer (some ⟨q1_1, 0, none⟩)]] w [] (fun rv h' => rv = I r ∧ h' = []) := by
 subst hn0_0
 unfold slices_IndexFunc_Line_of_i_Cache_place_1 at H0
 refine ct_of_cw func110 J ntmps110 J (Sat.refl _ _) ?_
 obtain ⟨o0_0, eo0_0, H0⟩ := bS H0
 refine sr (sq J (oM J (oD (stp_len u27 J) J (oM J (nn (lp (fun f a => slices_IndexFunc_Line_of_i_Cache_place_1_L0 fl a0 a1_0 a1_1 f a = some o0_0) (fun a => o0_0 = .out a) (fun R s h => ∃ v1, R v1 ∧ s = [(0, .slice p0_0 ((a0).length) c0_0), (1, .func (.func 113) #[] #[.pointer (some ⟨q1_0, 0, none⟩), .pointer (some ⟨q1_1, 0, none⟩)]), (7, I ((a0).length : Int)), (8, I v1)] ∧ h = []) ⟨_, eo0_0, J, J⟩ ?_ ?_))))))
 ·rintro fuel _ _ ⟨v1, H1, rfl, rfl⟩
  rcases fuel with _ | fuel
  ·rw [slices_IndexFunc_Line_of_i_Cache_place_1_L0.eq_1] at H1; cases H1
  rw [slices_IndexFunc_Line_of_i_Cache_place_1_L0.eq_2] at H1
  refine sr (oW J (nn (cq (cH J H1 (fun H1 => ?_) (fun H1 => ?_)))))
  ·obtain ⟨x3, e3, H1⟩ := bS H1
   refine kq (cw_block (sr (oM J (ss J (oM J (oM J (oM J (oD (stp_indexAddr u27 ts104 (by decide) J J J (Rdb.ro hr0_0) e3) J (oD (stp_loadN (us := [_, _, _, _, _, _]) ts104 J (Cells.el (Rdb.ro hr0_0) (by decide) e3 0 6 J)) J ?_)))))))))
   obtain ⟨x4, e4, H1⟩ := bS H1
   refine oE (stpU_callF (vals := [_]) (ca := [_, _]) (fun i => 0 + i) cf113 (fun w hw => c_i_Cache_place_1 fl w x3 q1_0 a1_0 q1_1 a1_1 (rp hba1_0 hw) (rp hba1_1 hw) x4 e4) J (yA J)) J ?_
   rintro _ _ ⟨_, ⟨rfl, rfl⟩, rfl⟩
   refine nn (cH J H1 (fun H1 => ?_) (fun H1 => ?_))
   ·refine sr (oM J (sr1 J (kw_bl_ret (kR (ar (kw_bl_ret (xr (kR ?_))))))))
    obtain rfl := sI H1
    obtain rfl := sI H0
    exact kr results110 (rT J) [] ⟨J, J⟩
   obtain ⟨x6, e6, H1⟩ := bS H1
   exact cw_skip (kb (cR (oP e6 J (oM J (ow_nil (ka ⟨_, H1, J, J⟩))))))
  refine cw_exit (kw_nx_exit (ax (kw_bl ?_)))
  obtain rfl := sI H1
  exact kx ⟨_, J, J, J⟩
 rintro _ _ ⟨v1, rfl, rfl, rfl⟩
 refine kw_nx (sr (sn J (cw_ret ?_)))
 obtain rfl := sI H0
 exact kr results110 (rT J) [] ⟨J, J⟩

theorem c_i_Cache_place (fl : Nat) (w : World) (a0 : Ca) (a1 : Int) (a2 : Int) (hn0_0 : n0_0 = (a0.l).length) (hr0_0 : RO w [] (RdL p0_0 c0_0 a0.l)) (r : Int) (H0 : i_Cache_place fl a0 a1 a2 = some r) :
  Ct prog 73 [.agg #[.slice p0_0 n0_0 c0_0, I a0.h], I a1, I a2] w [] (fun rv h' => rv = I r ∧ h' = []) := by
 subst hn0_0
 unfold i_Cache_place at H0
 refine ct_of_cw func73 J ntmps73 J (Sat.refl _ _) ?_
 refine sr (oE (stpU_box 0 J J) J ?_)
 rintro _ _ ⟨b1, rfl, rfl⟩
 refine oE (stpU_box 1 J J) J ?_
 rintro _ _ ⟨b2, rfl, rfl⟩
 refine oE (stpU_box 2 J J) J ?_
 rintro _ _ ⟨b3, rfl, rfl⟩
 obtain ⟨x4, e4, H0⟩ := bS H0
 refine ss J (oAL 0 u29 J ts27 J 0 J (oD (stp_makeFunc (yB J J)) J (oE (uC 3 cf110 (fun w hw => c_slices_IndexFunc_Line_of_i_Cache_place_1 fl w a0.l b3 a2 b2 a1 J (rp hr0_0 hw) (box_pass (id := 2) J hw) (box_pass (id := 1) J hw) x4 e4) (yB J J)) J ?_)))
 rintro _ _ ⟨_, ⟨rfl, rfl⟩, rfl⟩
 refine sn J (cw_ret ?_)
 obtain rfl := sI H0
 exact kr results73 (rT J) [] ⟨J, J⟩

theorem c_i_Machine_dropped (fl : Nat) (w : World) (a0 : Mc) (a1 : T) (a2 : K) (hn0_0 : n0_0 = (a0.t.b).length) (hr0_0 : RO w (hkeys [(0, C1_0), (1, C1_1)]) (RdL p0_0 c0_0 a0.t.b)) (hn0_1 : n0_1 = (a0.t.f).length) (hr0_1 : RO w (hkeys [(0, C1_0), (1, C1_1)]) (RdL p0_1 c0_1 a0.t.f)) (hn0_2 : n0_2 = (a0.c.l).length) (hr0_2 : RO w (hkeys [(0, C1_0), (1, C1_1)]) (RdL p0_2 c0_2 a0.c.l)) (hn0_3 : n0_3 = (a0.g.o).length) (hr0_3 : RO w (hkeys [(0, C1_0), (1, C1_1)]) (RdL p0_3 c0_3 a0.g.o)) (hn1_0 : n1_0 = (a1.b).length) (ho1_0 : OwnC 3 p1_0 c1_0 a1.b C1_0) (hn1_1 : n1_1 = (a1.f).length) (ho1_1 : OwnC 57 p1_1 c1_1 a1.f C1_1) (hM : Sat w (hkeys [(0, C1_0), (1, C1_1)]) w [(0, C1_0), (1, C1_1)]) (r : Mc) (H0 : i_Machine_dropped fl a0 a1 a2 = some r) :
  Ct prog 70 [.agg #[.slice p0_0 n0_0 c0_0, .slice p0_1 n0_1 c0_1, .slice p0_2 n0_2 c0_2, I a0.c.h, I a0.g.c, I a0.g.n, I a0.g.r, .slice p0_3 n0_3 c0_3, I a0.s], .agg #[.slice p1_0 n1_0 c1_0, .slice p1_1 n1_1 c1_1], .agg #[I a2.s, I a2.p]] w [(0, C1_0), (1, C1_1)] (fun rv h' => SL 3 r.t.b fun x2 y2 z2 C2 => SL 57 r.t.f fun x3 y3 z3 C3 => SL 104 r.c.l fun x4 y4 z4 C4 => SL 70 r.g.o fun x5 y5 z5 C5 => rv = .agg #[.slice x2 y2 z2, .slice x3 y3 z3, .slice x4 y4 z4, I r.c.h, I r.g.c, I r.g.n, I r.g.r, .slice x5 y5 z5, I r.s] ∧ h' = [(0, []), (1, []), (2, C2), (3, C3), (4, C4), (5, C5)]) := by
 subst hn0_0 hn0_1 hn0_2 hn0_3 hn1_0 hn1_1
 unfold i_Machine_dropped at H0
 refine ct_of_cw func70 J ntmps70 J hM ?_
 refine sr (oE (stpU_box 2 J J) J ?_)
 rintro _ _ ⟨b1, rfl, rfl⟩
 refine oE (stpU_box 3 J J) J ?_
 rintro _ _ ⟨b2, rfl, rfl⟩
 refine oE (stpU_box 4 J J) J ?_
 rintro _ _ ⟨b3, rfl, rfl⟩
 refine oE (stpU_alloc 5 tz34 J) J ?_
 rintro _ _ ⟨b4, rfl, rfl⟩
 obtain ⟨x5, e5, H0⟩ := bS H0
 refine ns (oB9 2 ts34 J (oE (uC 6 cf52 (fun w hw => c_i_Machine_clone fl w a0 J (rp hr0_0 hw) J (rp hr0_1 hw) J (rp hr0_2 hw) J (rp hr0_3 hw) x5 e5) (yA J)) J ?_))
 rintro _ _ ⟨_, ⟨p6, _, c8, C9, rfl, o9, p10, _, c12, C13, rfl, o13, p14, _, c16, C17, rfl, o17, p18, _, c20, C21, rfl, o21, rfl, rfl⟩, rfl⟩
 refine oE (stpU_alloc 10 tz34 J) J ?_
 rintro _ _ ⟨b22, rfl, rfl⟩
 refine oC9 10 ts34 J J (ns (oB2 3 ts26 J (oA 0 u34 J ts26 J (oC9 10 ts26 J J (nq (oB9 2 ts34 J (oAL 0 u50 J ts3 J 4 J (oA 1 u50 J ts3 J (oL 4 ts3 J ?_)))))))))
 obtain ⟨x23, e23, H0⟩ := bS H0
 refine oE (uC 11 cf72 (fun w hw => c_i_Machine_tagFor fl w a0 a2.s a2.p J (rp hr0_0 hw) J (rp hr0_1 hw) J (rp hr0_2 hw) J (rp hr0_3 hw) x23 e23) (yC J J J)) J ?_
 rintro _ _ ⟨_, ⟨rfl, rfl⟩, rfl⟩
 refine oMTT J J J (oS J (ss J (oM J (nn (cH J H0 (fun H0 => ?_) (fun H0 => ?_))))))
 ·obtain ⟨x25, e25, H0⟩ := bS H0
  refine sr (oA 2 u34 J ts29 J (oB2 2 ts29 J (oM J (oAL 1 u50 J ts3 J 4 J (oE (uC 11 cf73 (fun w hw => c_i_Cache_place fl w a0.c x23.1 a2.p J (rp hr0_2 hw) x25 e25) (yC J J J)) J ?_)))))
  rintro _ _ ⟨_, ⟨rfl, rfl⟩, rfl⟩
  refine ss J (oM J (oI J (nn (cH J H0 (fun H0 => ?_) (fun H0 => ?_)))))
  ·obtain ⟨x27, e27, H0⟩ := bS H0
   refine cR (oA 2 u34 J ts29 J (oAL 0 u29 J ts27 J 10 J (oM J (oD (stp_build (cs := #[.bool false, I 0, I 0, I 0, I 0, .bool false]) sE bt104_11) J (oD (stp_indexAddr u27 ts104 (by decide) J J J (Rdb.own (id := 8) J o17) e27) J (oF (stpU_storeEl (id := 8) (i := 0) (⟨false, 0, 0, 0, 0, false⟩ : Ln) (by decide) ts104 J J J o17 e27 J J J J) ?_))))))
   rintro _ _ ⟨C28, rfl, o28⟩
   refine ns (oB9 10 ts34 J (oC9 5 ts34 J J (nr (kA 11 (kA 12 ?_)))))
   obtain rfl := sI H0
   exact kr results70 (rC9 5 ts34 J J) [11, 12, 0, 1, 8, 9] (sl J ho1_0 (sl J ho1_1 (sl (by simp) o28 (sl J o21 ⟨J, J⟩))))
  refine ks (oB9 10 ts34 J (oC9 5 ts34 J J (nr (kA 13 (kA 14 ?_)))))
  obtain rfl := sI H0
  exact kr results70 (rC9 5 ts34 J J) [13, 14, 0, 1, 8, 9] (sl J ho1_0 (sl J ho1_1 (sl J o17 (sl J o21 ⟨J, J⟩))))
 refine ks (oB9 10 ts34 J (oC9 5 ts34 J J (nr (kA 15 (kA 16 ?_)))))
 obtain rfl := sI H0
 exact kr results70 (rC9 5 ts34 J J) [15, 16, 0, 1, 8, 9] (sl J ho1_0 (sl J ho1_1 (sl J o17 (sl J o21 ⟨J, J⟩))))

theorem c_i_TakePage (fl : Nat) (w : World) (a0 : Mc) (a1 : K) (hn0_0 : n0_0 = (a0.t.b).length) (hr0_0 : RO w [] (RdL p0_0 c0_0 a0.t.b)) (hn0_1 : n0_1 = (a0.t.f).length) (hr0_1 : RO w [] (RdL p0_1 c0_1 a0.t.f)) (hn0_2 : n0_2 = (a0.c.l).length) (hr0_2 : RO w [] (RdL p0_2 c0_2 a0.c.l)) (hn0_3 : n0_3 = (a0.g.o).length) (hr0_3 : RO w [] (RdL p0_3 c0_3 a0.g.o)) (hg : RO w [] (fun w' => w'.rangeAt 0 0 [.bool false, I 0, I 0, I 0, I (-1)])) (r : Mc × Bool) (H0 : i_TakePage fl a0 a1 = some r) :
  Ct prog 41 [.agg #[.slice p0_0 n0_0 c0_0, .slice p0_1 n0_1 c0_1, .slice p0_2 n0_2 c0_2, I a0.c.h, I a0.g.c, I a0.g.n, I a0.g.r, .slice p0_3 n0_3 c0_3, I a0.s], .agg #[I a1.s, I a1.p]] w [] (fun rv h' => SL 3 r.1.t.b fun x0 y0 z0 C0 => SL 57 r.1.t.f fun x1 y1 z1 C1 => SL 104 r.1.c.l fun x2 y2 z2 C2 => SL 70 r.1.g.o fun x3 y3 z3 C3 => rv = .tuple #[.agg #[.slice x0 y0 z0, .slice x1 y1 z1, .slice x2 y2 z2, I r.1.c.h, I r.1.g.c, I r.1.g.n, I r.1.g.r, .slice x3 y3 z3, I r.1.s], .bool r.2] ∧ h' = [(0, C0), (1, C1), (2, C2), (3, C3)]) := by
 subst hn0_0 hn0_1 hn0_2 hn0_3
 unfold i_TakePage at H0
 refine ct_of_cw func41 J ntmps41 J (Sat.refl _ _) ?_
 refine sr (oE (stpU_box 0 J J) J ?_)
 rintro _ _ ⟨b1, rfl, rfl⟩
 refine oE (stpU_box 1 J J) J ?_
 rintro _ _ ⟨b2, rfl, rfl⟩
 refine oE (stpU_alloc 2 tz34 J) J ?_
 rintro _ _ ⟨b3, rfl, rfl⟩
 obtain ⟨x4, e4, H0⟩ := bS H0
 refine sq J (oB9 0 ts34 J (oE (uC 3 cf31 (fun w hw => c_i_MachineValid fl w a0 J (rp hr0_0 hw) J (rp hr0_1 hw) J (rp hr0_2 hw) J (rp hr0_3 hw) (rp hg hw) x4 e4) (yA J)) J ?_))
 rintro _ _ ⟨_, ⟨rfl, rfl⟩, rfl⟩
 refine oK J (nn (cH J H0 (fun H0 => ?_) (fun H0 => ?_)))
 ·refine sr (oD (stp_build (cs := #[sN, sN, sN, I 0, I 0, I 0, I 0, sN, I 0]) sE bt34_6) J (oC9 2 ts34 J J (sR J (kA 3 (kA 4 (kA 5 (kA 6 ?_)))))))
  obtain rfl := sI H0
  exact kr results41 (.cons (.cellN (us := [_, _, _, _, _, _, _, _, _]) ts34 J (Cells.box (id := 2) J 9 J)) (rT J)) [3, 4, 5, 6] (sl J oN0 (sl J oN0 (sl J oN0 (sl J oN0 ⟨J, J⟩))))
 obtain ⟨x6, e6, H0⟩ := bS H0
 refine ks (oA 0 u34 J ts26 J (oB2 0 ts26 J (oB2 1 ts50 J (oE (uC 7 cf69 (fun w hw => c_i_UnmapPage fl w a0.t a1 J (rp hr0_0 hw) J (rp hr0_1 hw) (rp hg hw) x6 e6) (yB J J)) J ?_))))
 rintro _ _ ⟨_, ⟨p7, _, c9, C10, rfl, o10, p11, _, c13, C14, rfl, o14, rfl, rfl⟩, rfl⟩
 refine oMTT J J J (oE (stpU_alloc 9 tz26 J) J ?_)
 rintro _ _ ⟨b15, rfl, rfl⟩
 refine oC2 9 ts26 J J (sq J (oM J (oK J (nn (cH J H0 (fun H0 => ?_) (fun H0 => ?_))))))
 ·refine sr (oD (stp_build (cs := #[sN, sN, sN, I 0, I 0, I 0, I 0, sN, I 0]) sE bt34_6) J (oC9 2 ts34 J J (sR J (kA 10 (kA 11 (kA 12 (kA 13 ?_)))))))
  obtain rfl := sI H0
  exact kr results41 (.cons (.cellN (us := [_, _, _, _, _, _, _, _, _]) ts34 J (Cells.box (id := 2) J 9 J)) (rT J)) [10, 11, 12, 13] (sl J oN0 (sl J oN0 (sl J oN0 (sl J oN0 ⟨J, J⟩))))
 obtain ⟨x17, e17, H0⟩ := bS H0
 refine ks (oB9 0 ts34 J (oB2 9 ts26 J (oB2 1 ts50 J (oE (uM (fun i => bif Nat.beq i 0 then 7 else bif Nat.beq i 1 then 8 else 14 + i) cf70 (fun w hw hb => c_i_Machine_dropped fl w a0 x6.1 a1 J (RO.passM hr0_0 hw hb) J (RO.passM hr0_1 hw hb) J (RO.passM hr0_2 hw hb) J (RO.passM hr0_3 hw hb) J o10 J o14 (hw.pass (js := [7, 8]) ⟨7, [8], J, J, 8, [], J, J, trivial⟩ (by decide)) x17 e17) (yC J J J) ⟨J, (fun _ _ hp => by obtain ⟨_, _, _, _, _, _, _, _, _, _, _, _, _, _, _, _, _, _, _, _, _, _, _, _, _, rfl⟩ := hp; exact ⟨_, J⟩), J, (fun _ _ hp => by obtain ⟨_, _, _, _, _, _, _, _, _, _, _, _, _, _, _, _, _, _, _, _, _, _, _, _, _, rfl⟩ := hp; exact ⟨_, J⟩), trivial⟩) J ?_))))
 rintro _ _ ⟨_, ⟨p18, _, c20, C21, rfl, o21, p22, _, c24, C25, rfl, o25, p26, _, c28, C29, rfl, o29, p30, _, c32, C33, rfl, o33, rfl, rfl⟩, rfl⟩
 refine oC9 2 ts34 J J (sn J (cw_ret ?_))
 obtain rfl := sI H0
 exact kr results41 (.cons (.cellN (us := [_, _, _, _, _, _, _, _, _]) ts34 J (Cells.box (id := 2) J 9 J)) (rT J)) [16, 17, 18, 19] (sl J o21 (sl J o25 (sl J o29 (sl J o33 ⟨J, J⟩))))

theorem c_i_Table_link (fl : Nat) (w : World) (a0 : T) (a1 : K) (a2 : Int) (a3 : Int) (hn0_0 : n0_0 = (a0.b).length) (ho0_0 : OwnC 3 p0_0 c0_0 a0.b C0_0) (hn0_1 : n0_1 = (a0.f).length) (ho0_1 : OwnC 57 p0_1 c0_1 a0.f C0_1) (hM : Sat w (hkeys [(0, C0_0), (1, C0_1)]) w [(0, C0_0), (1, C0_1)]) (r : (List Int) × (List F)) (H0 : i_Table_link fl a0 a1 a2 a3 = some r) :
  Ct prog 111 [.agg #[.slice p0_0 n0_0 c0_0, .slice p0_1 n0_1 c0_1], .agg #[I a1.s, I a1.p], I a2, I a3] w [(0, C0_0), (1, C0_1)] (fun rv h' => DL 3 p0_0 n0_0 c0_0 r.1 fun D0 => DL 57 p0_1 n0_1 c0_1 r.2 fun D1 => rv = .tuple #[] ∧ h' = [(0, D0), (1, D1)]) := by
 subst hn0_0 hn0_1
 unfold i_Table_link at H0
 refine ct_of_cw func111 J ntmps111 J hM ?_
 refine sr (oE (stpU_box 2 J J) J ?_)
 rintro _ _ ⟨b1, rfl, rfl⟩
 refine oE (stpU_box 3 J J) J ?_
 rintro _ _ ⟨b2, rfl, rfl⟩
 obtain ⟨x3, e3, H0⟩ := bS H0
 refine ns (oB2 3 ts50 J (oAL 0 u26 J ts23 J 2 J (oD (stp_len u23 J) J (oE (uC 4 cf36 (fun w hw => c_i_hash fl w a1 ((a0.b).length : Int) x3 e3) (yB J J)) J ?_))))
 rintro _ _ ⟨_, ⟨rfl, rfl⟩, rfl⟩
 obtain ⟨x4, e4, H0⟩ := bS H0
 refine sn J (cq (rdt g_mixed (rn 0 13) ⟨[[],[2],[],[3],[],[],[2],[],[0],[0],[],[1],[1]], [[],[],[],[],[],[],[],[],[],[],[],[],[1]], [12]⟩ (dA 1 J u26 J ts24 J (dL 2 ts24 J (dM J (dB2 3 ts50 J (dM J (dA 0 J u26 J ts23 J (dL 2 ts23 J (dM J (dD J (stp_indexAddr u23 ts3 (by decide) J J J (Rdb.own (id := 0) J ho0_0) e4) (dD J (stp_load1 ts3 J (Cells.el (Rdb.own (id := 0) J ho0_0) (by decide) e4 0 1 J)) ?_))))))))))))
 obtain ⟨x5, e5, H0⟩ := bS H0
 refine dD J (stp_build (cs := #[.bool true, I a1.s, I a1.p, I a3, I x4]) (sP J (sP J (sP J (sP J sE)))) bt57_17) (dD J (stp_indexAddr u24 ts57 (by decide) J J J (Rdb.own (id := 1) J ho0_1) e5) (dF J (fun hh => stpU_storeEl (id := 1) (i := 0) (⟨true, a1, a3, x4⟩ : F) (by decide) ts57 J J (hh _ _ J) ho0_1 e5 J J J J) ?_))
 rintro _ _ ⟨C6, rfl, o6⟩
 refine dk J (dn (kw_nx (cR (oAL 0 u26 J ts23 J 2 J (oM J (oM J (oD (stp_indexAddr u23 ts3 (by decide) J J J (Rdb.own (id := 0) J ho0_0) e4) J (oF (stpU_storeEl (id := 0) (i := 0) a2 (by decide) ts3 J J J ho0_0 e4 J J J J) ?_))))))))
 rintro _ _ ⟨C7, rfl, o7⟩
 refine ow_nil ?_
 obtain rfl := sI H0
 exact ke results111 .nil [0, 1] (dl (by simp) o7 (dl (by simp) o6 ⟨J, J⟩))

theorem c_i_MapPage (fl : Nat) (w : World) (a0 : T) (a1 : K) (a2 : Int) (a3 : Int) (hn0_0 : n0_0 = (a0.b).length) (hr0_0 : RO w [] (RdL p0_0 c0_0 a0.b)) (hn0_1 : n0_1 = (a0.f).length) (hr0_1 : RO w [] (RdL p0_1 c0_1 a0.f)) (hg : RO w [] (fun w' => w'.rangeAt 0 0 [.bool false, I 0, I 0, I 0, I (-1)])) (r : T × Bool) (H0 : i_MapPage fl a0 a1 a2 a3 = some r) :
  Ct prog 71 [.agg #[.slice p0_0 n0_0 c0_0, .slice p0_1 n0_1 c0_1], .agg #[I a1.s, I a1.p], I a2, I a3] w [] (fun rv h' => SL 3 r.1.b fun x0 y0 z0 C0 => SL 57 r.1.f fun x1 y1 z1 C1 => rv = .tuple #[.agg #[.slice x0 y0 z0, .slice x1 y1 z1], .bool r.2] ∧ h' = [(0, C0), (1, C1)]) := by
 subst hn0_0 hn0_1
 unfold i_MapPage at H0
 refine ct_of_cw func71 J ntmps71 J (Sat.refl _ _) ?_
 refine sr (oE (stpU_box 0 J J) J ?_)
 rintro _ _ ⟨b1, rfl, rfl⟩
 refine oE (stpU_box 1 J J) J ?_
 rintro _ _ ⟨b2, rfl, rfl⟩
 refine oE (stpU_alloc 2 tz26 J) J ?_
 rintro _ _ ⟨b3, rfl, rfl⟩
 obtain ⟨x4, e4, H0⟩ := bS H0
 refine sq J (oB2 0 ts26 J (oE (uC 3 cf33 (fun w hw => c_i_TableValid fl w a0 J (rp hr0_0 hw) J (rp hr0_1 hw) (rp hg hw) x4 e4) (yA J)) J ?_))
 rintro _ _ ⟨_, ⟨rfl, rfl⟩, rfl⟩
 obtain ⟨y5, ey5, H0⟩ := bS H0
 refine oK J (oM J (ow_cutY 4 18 y5 ?_ ?_))
 ·rcases Bool.eq_false_or_eq_true (!x4) with hy5 | hy5
  ·have ey5 := cond_t ey5 hy5
   refine oO J hy5 J (oO J hy5 J (oO J hy5 J (oD (stp_pick_t J hy5 J) J ?_)))
   obtain rfl := sI ey5
   exact ow_nil (jy 4 0)
  have ey5 := cond_f ey5 hy5
  obtain ⟨x6, e6, ey5⟩ := bS ey5
  refine oG J hy5 (stp_loadN (us := [_, _]) ts50 J (Cells.box (id := 1) J 2 J)) J (ow_eff (.some J hy5) (uC 3 cf34 (fun w hw => c_i_KeyValid fl w a1 x6 e6) (yA J)) J ?_)
  rintro _ _ ⟨_, ⟨rfl, rfl⟩, rfl⟩
  refine oG J hy5 (stp_not J) J (oD (stp_pick_f J hy5 J) J ?_)
  obtain rfl := sI ey5
  exact ow_nil (jy 4 0)
 obtain ⟨y7, ey7, H0⟩ := bS H0
 refine oM J (ow_cutY 5 24 y7 ?_ ?_)
 ·rcases Bool.eq_false_or_eq_true y5 with hy7 | hy7
  ·have ey7 := cond_t ey7 hy7
   refine oO J hy7 J (oO J hy7 J (oO J hy7 J (oO J hy7 J (oD (stp_pick_t J hy7 J) J ?_))))
   obtain rfl := sI ey7
   exact ow_nil (jy 5 0)
  have ey7 := cond_f ey7 hy7
  obtain ⟨x8, e8, ey7⟩ := bS ey7
  refine oG J hy7 (stp_loadN (us := [_, _]) ts26 J (Cells.box (id := 0) J 2 J)) J (oG J hy7 (stp_loadN (us := [_, _]) ts50 J (Cells.box (id := 1) J 2 J)) J (ow_eff (.some J hy7) (uC 3 cf38 (fun w hw => c_i_Table_find fl w a0 a1 J (rp hr0_0 hw) J (rp hr0_1 hw) x8 e8) (yB J J)) J ?_))
  rintro _ _ ⟨_, ⟨rfl, rfl⟩, rfl⟩
  refine oG J hy7 (stp_geq J J) J (oD (stp_pick_f J hy7 J) J ?_)
  obtain rfl := sI ey7
  exact ow_nil (jy 5 0)
 obtain ⟨y9, ey9, H0⟩ := bS H0
 refine oM J (ow_cutY 7 32 y9 ?_ ?_)
 ·rcases Bool.eq_false_or_eq_true y7 with hy9 | hy9
  ·have ey9 := cond_t ey9 hy9
   refine oO J hy9 J (oO J hy9 J (oO J hy9 J (oO J hy9 J (oO J hy9 J (oO J hy9 J (oD (stp_pick_t J hy9 J) J ?_))))))
   obtain rfl := sI ey9
   exact ow_nil (jy 7 0)
  have ey9 := cond_f ey9 hy9
  obtain ⟨x10, e10, ey9⟩ := bS ey9
  refine oG J hy9 (mv J) J (oG J hy9 (fA 1 u26 J ts24 J J J) J (oG J hy9 (lB 0 ts24 J J J) J (oG J hy9 (stp_len u24 J) J (ow_eff (.some J hy9) (uC 3 cf32 (fun w hw => c_i_within fl w a2 ((a0.f).length : Int) x10 e10) (yB J J)) J ?_))))
  rintro _ _ ⟨_, ⟨rfl, rfl⟩, rfl⟩
  refine oG J hy9 (stp_not J) J (oD (stp_pick_f J hy9 J) J ?_)
  obtain rfl := sI ey9
  exact ow_nil (jy 7 0)
 obtain ⟨y11, ey11, H0⟩ := bS H0
 refine oM J (ow_cutY 7 40 y11 ?_ ?_)
 ·rcases Bool.eq_false_or_eq_true y9 with hy11 | hy11
  ·have ey11 := cond_t ey11 hy11
   refine oO J hy11 J (oO J hy11 J (oO J hy11 J (oO J hy11 J (oO J hy11 J (oO J hy11 J (oD (stp_pick_t J hy11 J) J ?_))))))
   obtain rfl := sI ey11
   exact ow_nil (jy 7 0)
  have ey11 := cond_f ey11 hy11
  obtain ⟨x12, e12, ey11⟩ := bS ey11
  refine oG J hy11 (fA 1 u26 J ts24 J J J) J (oG J hy11 (lB 0 ts24 J J J) J (oG J hy11 (mv J) J (oG J hy11 (stp_indexAddr u24 ts57 (by decide) J J J (Rdb.ro hr0_1) e12) J (oG J hy11 (fA 0 u57 J ts4 J J J) J (oG J hy11 (stp_load1 ts4 J (Cells.el (Rdb.ro hr0_1) (by decide) e12 0 1 J)) J (oD (stp_pick_f J hy11 J) J ?_))))))
  obtain rfl := sI ey11
  exact ow_nil (jy 7 0)
 obtain ⟨y13, ey13, H0⟩ := bS H0
 refine oM J (ow_cutY 4 45 y13 ?_ ?_)
 ·rcases Bool.eq_false_or_eq_true y11 with hy13 | hy13
  ·have ey13 := cond_t ey13 hy13
   refine oO J hy13 J (oO J hy13 J (oO J hy13 J (oD (stp_pick_t J hy13 J) J ?_)))
   obtain rfl := sI ey13
   exact ow_nil (jy 4 0)
  have ey13 := cond_f ey13 hy13
  obtain ⟨x14, e14, ey13⟩ := bS ey13
  refine oG J hy13 (mv J) J (ow_eff (.some J hy13) (uC 3 cf37 (fun w hw => c_i_RightsValid fl w a3 x14 e14) (yA J)) J ?_)
  rintro _ _ ⟨_, ⟨rfl, rfl⟩, rfl⟩
  refine oG J hy13 (stp_not J) J (oD (stp_pick_f J hy13 J) J ?_)
  obtain rfl := sI ey13
  exact ow_nil (jy 4 0)
 refine ow_nil (kw_nx (cH J H0 (fun H0 => ?_) (fun H0 => ?_)))
 ·refine sr (oD (stp_build (cs := #[sN, sN]) sE bt26_0) J (oC2 2 ts26 J J (sR J (kA 3 (kA 4 ?_)))))
  obtain rfl := sI H0
  exact kr results71 (.cons (.cellN (us := [_, _]) ts26 J (Cells.box (id := 2) J 2 J)) (rT J)) [3, 4] (sl J oN0 (sl J oN0 ⟨J, J⟩))
 obtain ⟨x16, e16, H0⟩ := bS H0
 refine ks (oB2 0 ts26 J (oE (uC 5 cf90 (fun w hw => c_i_Table_clone fl w a0 J (rp hr0_0 hw) J (rp hr0_1 hw) x16 e16) (yA J)) J ?_))
 rintro _ _ ⟨_, ⟨p17, _, c19, C20, rfl, o20, p21, _, c23, C24, rfl, o24, rfl, rfl⟩, rfl⟩
 refine oE (stpU_alloc 7 tz26 J) J ?_
 rintro _ _ ⟨b25, rfl, rfl⟩
 obtain ⟨x26, e26, H0⟩ := bS H0
 refine oC2 7 ts26 J J (ns (oB2 7 ts26 J (oB2 1 ts50 J (oM J (oM J (oE (uM (fun i => bif Nat.beq i 0 then 5 else bif Nat.beq i 1 then 6 else 8 + i) cf111 (fun w hw hb => c_i_Table_link fl w x16 a1 a2 a3 J o20 J o24 (hw.pass (js := [5, 6]) ⟨5, [6], J, J, 6, [], J, J, trivial⟩ (by decide)) x26 e26) (yD J J J J) ⟨J, (fun _ _ hp => by obtain ⟨_, _, _, _, _, _, _, rfl⟩ := hp; exact ⟨_, J⟩), J, (fun _ _ hp => by obtain ⟨_, _, _, _, _, _, _, rfl⟩ := hp; exact ⟨_, J⟩), trivial⟩) J ?_))))))
 rintro _ _ ⟨_, ⟨C27, hl27, o27, C28, hl28, o28, rfl, rfl⟩, rfl⟩
 refine ns (oB2 7 ts26 J (oC2 2 ts26 J J (sn J (cw_ret ?_))))
 obtain rfl := sI H0
 exact kr results71 (.cons (.cellN (us := [_, _]) ts26 J (Cells.box (id := 2) J 2 J)) (rT J)) [5, 6] (sl (by simp [hl27]) o27 (sl (by simp [hl28]) o28 ⟨J, J⟩))

theorem c_i_PutPage (fl : Nat) (w : World) (a0 : Mc) (a1 : K) (a2 : Int) (a3 : Int) (hn0_0 : n0_0 = (a0.t.b).length) (hr0_0 : RO w [] (RdL p0_0 c0_0 a0.t.b)) (hn0_1 : n0_1 = (a0.t.f).length) (hr0_1 : RO w [] (RdL p0_1 c0_1 a0.t.f)) (hn0_2 : n0_2 = (a0.c.l).length) (hr0_2 : RO w [] (RdL p0_2 c0_2 a0.c.l)) (hn0_3 : n0_3 = (a0.g.o).length) (hr0_3 : RO w [] (RdL p0_3 c0_3 a0.g.o)) (hg : RO w [] (fun w' => w'.rangeAt 0 0 [.bool false, I 0, I 0, I 0, I (-1)])) (r : Mc × Bool) (H0 : i_PutPage fl a0 a1 a2 a3 = some r) :
  Ct prog 42 [.agg #[.slice p0_0 n0_0 c0_0, .slice p0_1 n0_1 c0_1, .slice p0_2 n0_2 c0_2, I a0.c.h, I a0.g.c, I a0.g.n, I a0.g.r, .slice p0_3 n0_3 c0_3, I a0.s], .agg #[I a1.s, I a1.p], I a2, I a3] w [] (fun rv h' => SL 3 r.1.t.b fun x0 y0 z0 C0 => SL 57 r.1.t.f fun x1 y1 z1 C1 => SL 104 r.1.c.l fun x2 y2 z2 C2 => SL 70 r.1.g.o fun x3 y3 z3 C3 => rv = .tuple #[.agg #[.slice x0 y0 z0, .slice x1 y1 z1, .slice x2 y2 z2, I r.1.c.h, I r.1.g.c, I r.1.g.n, I r.1.g.r, .slice x3 y3 z3, I r.1.s], .bool r.2] ∧ h' = [(0, C0), (1, C1), (2, C2), (3, C3)]) := by
 subst hn0_0 hn0_1 hn0_2 hn0_3
 unfold i_PutPage at H0
 refine ct_of_cw func42 J ntmps42 J (Sat.refl _ _) ?_
 refine sr (oE (stpU_box 0 J J) J ?_)
 rintro _ _ ⟨b1, rfl, rfl⟩
 refine oE (stpU_box 1 J J) J ?_
 rintro _ _ ⟨b2, rfl, rfl⟩
 refine oE (stpU_alloc 2 tz34 J) J ?_
 rintro _ _ ⟨b3, rfl, rfl⟩
 obtain ⟨x4, e4, H0⟩ := bS H0
 obtain ⟨y5, ey5, H0⟩ := bS H0
 refine sn J (cq (cq (rdt g_mixed (rn 0 12) ⟨[[0],[],[],[],[1],[],[1],[],[1]], [], []⟩ (dB9 0 ts34 J (dV J (fun hh => uC 3 cf31 (fun w hw => c_i_MachineValid fl w a0 J (rp hr0_0 hw) J (rp hr0_1 hw) J (rp hr0_2 hw) J (rp hr0_3 hw) (rp hg hw) x4 e4) (yA J)) J (dK J (dM J (dcY 8 24 y5 ?_ ?_))))))))
 ·rcases Bool.eq_false_or_eq_true (!x4) with hy5 | hy5
  ·have ey5 := cond_t ey5 hy5
   refine dO J hy5 (dO J hy5 (dO J hy5 (dO J hy5 (dO J hy5 (dO J hy5 (dO J hy5 (dD J (stp_pick_t J hy5 J) ?_)))))))
   obtain rfl := sI ey5
   exact dy 8 0
  have ey5 := cond_f ey5 hy5
  obtain ⟨x6, e6, ey5⟩ := bS ey5
  refine dG J hy5 (stp_loadN (us := [_, _]) ts50 J (Cells.box (id := 1) J 2 J)) (dG J hy5 (fA 0 u50 J ts3 J J J) (dG J hy5 (lB 1 ts3 J J J) (dG J hy5 (fA 1 u50 J ts3 J J J) (dG J hy5 (lB 1 ts3 J J J) (dVg J hy5 (fun hh => uC 3 cf16 (fun w hw => c_i_KeyFor fl w a1.s a1.p x6 e6) (yB J J)) J (dG J hy5 (stp_neqS te50 a1 x6 J J) (dD J (stp_pick_f J hy5 J) ?_)))))))
  obtain rfl := sI ey5
  exact dy 8 0
 refine dn (kw_nx (cH J H0 (fun H0 => ?_) (fun H0 => ?_)))
 ·refine sr (oD (stp_build (cs := #[sN, sN, sN, I 0, I 0, I 0, I 0, sN, I 0]) sE bt34_6) J (oC9 2 ts34 J J (sR J (kA 3 (kA 4 (kA 5 (kA 6 ?_)))))))
  obtain rfl := sI H0
  exact kr results42 (.cons (.cellN (us := [_, _, _, _, _, _, _, _, _]) ts34 J (Cells.box (id := 2) J 9 J)) (rT J)) [3, 4, 5, 6] (sl J oN0 (sl J oN0 (sl J oN0 (sl J oN0 ⟨J, J⟩))))
 obtain ⟨x8, e8, H0⟩ := bS H0
 refine ks (oA 0 u34 J ts26 J (oB2 0 ts26 J (oB2 1 ts50 J (oM J (oM J (oE (uC 7 cf71 (fun w hw => c_i_MapPage fl w a0.t a1 a2 a3 J (rp hr0_0 hw) J (rp hr0_1 hw) (rp hg hw) x8 e8) (yD J J J J)) J ?_))))))
 rintro _ _ ⟨_, ⟨p9, _, c11, C12, rfl, o12, p13, _, c15, C16, rfl, o16, rfl, rfl⟩, rfl⟩
 refine oMTT J J J (oE (stpU_alloc 9 tz26 J) J ?_)
 rintro _ _ ⟨b17, rfl, rfl⟩
 refine oC2 9 ts26 J J (sq J (oM J (oK J (nn (cH J H0 (fun H0 => ?_) (fun H0 => ?_))))))
 ·refine sr (oD (stp_build (cs := #[sN, sN, sN, I 0, I 0, I 0, I 0, sN, I 0]) sE bt34_6) J (oC9 2 ts34 J J (sR J (kA 10 (kA 11 (kA 12 (kA 13 ?_)))))))
  obtain rfl := sI H0
  exact kr results42 (.cons (.cellN (us := [_, _, _, _, _, _, _, _, _]) ts34 J (Cells.box (id := 2) J 9 J)) (rT J)) [10, 11, 12, 13] (sl J oN0 (sl J oN0 (sl J oN0 (sl J oN0 ⟨J, J⟩))))
 obtain ⟨x19, e19, H0⟩ := bS H0
 refine ks (oB9 0 ts34 J (oE (uC 14 cf52 (fun w hw => c_i_Machine_clone fl w a0 J (rp hr0_0 hw) J (rp hr0_1 hw) J (rp hr0_2 hw) J (rp hr0_3 hw) x19 e19) (yA J)) J ?_))
 rintro _ _ ⟨_, ⟨p20, _, c22, C23, rfl, o23, p24, _, c26, C27, rfl, o27, p28, _, c30, C31, rfl, o31, p32, _, c34, C35, rfl, o35, rfl, rfl⟩, rfl⟩
 refine oE (stpU_alloc 18 tz34 J) J ?_
 rintro _ _ ⟨b36, rfl, rfl⟩
 refine oC9 18 ts34 J J (ns (oB2 9 ts26 J (oA 0 u34 J ts26 J (oC9 18 ts26 J J (ns (oB9 18 ts34 J (oC9 2 ts34 J J (sn J (cw_ret ?_)))))))))
 obtain rfl := sI H0
 exact kr results42 (.cons (.cellN (us := [_, _, _, _, _, _, _, _, _]) ts34 J (Cells.box (id := 2) J 9 J)) (rT J)) [7, 8, 16, 17] (sl J o12 (sl J o16 (sl J o31 (sl J o35 ⟨J, J⟩))))

theorem c_i_Allows (fl : Nat) (w : World) (a0 : Int) (a1 : Int) (r : Bool) (H0 : i_Allows fl a0 a1 = some r) :
  Ct prog 75 [I a0, I a1] w [] (fun rv h' => rv = .bool r ∧ h' = []) := by
 unfold i_Allows at H0
 refine ct_of_cw func75 J ntmps75 J (Sat.refl _ _) ?_
 obtain ⟨x1, e1, H0⟩ := bS H0
 refine sr (ss J (oM J (oE (uC 0 cf37 (fun w hw => c_i_RightsValid fl w a0 x1 e1) (yA J)) J ?_)))
 rintro _ _ ⟨_, ⟨rfl, rfl⟩, rfl⟩
 obtain ⟨y2, ey2, H0⟩ := bS H0
 refine oM J (ow_cutY 3 10 y2 ?_ ?_)
 ·rcases Bool.eq_false_or_eq_true x1 with hy2 | hy2
  ·have ey2 := cond_t ey2 hy2
   obtain ⟨x3, e3, ey2⟩ := bS ey2
   refine oG J hy2 (mv J) J (ow_eff (.some J hy2) (uC 0 cf37 (fun w hw => c_i_RightsValid fl w a1 x3 e3) (yA J)) J ?_)
   rintro _ _ ⟨_, ⟨rfl, rfl⟩, rfl⟩
   refine oD (stp_pick_t J hy2 J) J ?_
   obtain rfl := sI ey2
   exact ow_nil (jy 3 0)
  have ey2 := cond_f ey2 hy2
  refine oO J hy2 J (oO J hy2 J (oD (stp_pick_f J hy2 J) J ?_))
  obtain rfl := sI ey2
  exact ow_nil (jy 3 0)
 obtain ⟨y4, ey4, H0⟩ := bS H0
 refine oM J (ow_cutY 5 16 y4 ?_ ?_)
 ·rcases Bool.eq_false_or_eq_true y2 with hy4 | hy4
  ·have ey4 := cond_t ey4 hy4
   refine oG J hy4 (mv J) J (oG J hy4 (mv J) J (oG J hy4 (stp_andNot J J) J (oG J hy4 (stp_eql J J) J (oD (stp_pick_t J hy4 J) J ?_))))
   obtain rfl := sI ey4
   exact ow_nil (jy 5 0)
  have ey4 := cond_f ey4 hy4
  refine oO J hy4 J (oO J hy4 J (oO J hy4 J (oO J hy4 J (oD (stp_pick_f J hy4 J) J ?_))))
  obtain rfl := sI ey4
  exact ow_nil (jy 5 0)
 refine sn J (cw_ret ?_)
 obtain rfl := sI H0
 exact kr results75 (rT J) [] ⟨J, J⟩

theorem c_i_VictimOf (fl : Nat) (w : World) (a0 : Ca) (hn0_0 : n0_0 = (a0.l).length) (hr0_0 : RO w [] (RdL p0_0 c0_0 a0.l)) (r : Int × Bool) (H0 : i_VictimOf fl a0 = some r) :
  Ct prog 114 [.agg #[.slice p0_0 n0_0 c0_0, I a0.h]] w [] (fun rv h' => rv = .tuple #[I r.1, .bool r.2] ∧ h' = []) := by
 subst hn0_0
 unfold i_VictimOf at H0
 refine ct_of_cw func114 J ntmps114 J (Sat.refl _ _) ?_
 refine sr (oE (stpU_box 0 J J) J ?_)
 rintro _ _ ⟨b1, rfl, rfl⟩
 obtain ⟨x2, e2, H0⟩ := bS H0
 refine oS J (sq J (oB2 0 ts29 J (oE (uC 1 cf59 (fun w hw => c_i_CacheValid fl w a0 J (rp hr0_0 hw) x2 e2) (yA J)) J ?_)))
 rintro _ _ ⟨_, ⟨rfl, rfl⟩, rfl⟩
 refine oK J (nn (cH J H0 (fun H0 => ?_) (fun H0 => ?_)))
 ·refine sr (oS J (sr1 J (kR ?_)))
  obtain rfl := sI H0
  exact kr results114 (.cons (.tmp J) (rT J)) [] ⟨J, J⟩
 obtain ⟨o0_0, eo0_0, H0⟩ := bS H0
 refine kq (sr (oAL 0 u29 J ts27 J 0 J (oD (stp_len u27 J) J (oM J (nn (lp (fun f a => i_VictimOf_L0 fl a0 f a = some o0_0) (fun a => o0_0 = .out a) (fun R s h => ∃ v4, R v4 ∧ s = [(1, .pointer (some ⟨b1, 0, none⟩)), (11, .slice p0_0 ((a0.l).length) c0_0), (12, I ((a0.l).length : Int)), (13, I v4)] ∧ h = [(0, [(b1, .cells #[.slice p0_0 ((a0.l).length) c0_0, I a0.h] 29 (0, 0))])]) ⟨_, eo0_0, J, J⟩ ?_ ?_))))))
 ·rintro fuel _ _ ⟨v4, H1, rfl, rfl⟩
  rcases fuel with _ | fuel
  ·rw [i_VictimOf_L0.eq_1] at H1; cases H1
  rw [i_VictimOf_L0.eq_2] at H1
  refine sr (oW J (nn (cq (cH J H1 (fun H1 => ?_) (fun H1 => ?_)))))
  ·obtain ⟨x6, e6, H1⟩ := bS H1
   refine kq (cw_block (sr (oM J (oD (stp_indexAddr u27 ts104 (by decide) J J J (Rdb.ro hr0_0) e6) J (oD (stp_loadN (us := [_, _, _, _, _, _]) ts104 J (Cells.el (Rdb.ro hr0_0) (by decide) e6 0 6 J)) J (oE (stpU_alloc 1 tz104 J) J ?_))))))
   rintro _ _ ⟨b7, rfl, rfl⟩
   refine oS J (oC6 1 ts104 J J (ns (oAL 0 u104 J ts4 J 1 J (oK J (nn (cH J H1 (fun H1 => ?_) (fun H1 => ?_)))))))
   ·refine sr (oM J (oS J (sr1 J (kw_bl_ret (kR (ar (kw_bl_ret (xr (kR ?_)))))))))
    obtain rfl := sI H1
    obtain rfl := sI H0
    exact kr results114 (.cons (.tmp J) (rT J)) [] ⟨J, J⟩
   obtain ⟨x9, e9, H1⟩ := bS H1
   exact cw_skip (kb (cR (oP e9 J (oM J (ow_nil (ka ⟨_, H1, J, J⟩))))))
  refine cw_exit (kw_nx_exit (ax (kw_bl ?_)))
  obtain rfl := sI H1
  exact kx ⟨_, J, J, J⟩
 rintro _ _ ⟨v4, rfl, rfl, rfl⟩
 obtain ⟨o0_1, eo0_1, H0⟩ := bS H0
 refine kw_nx (sr (oAL 1 u29 J ts3 J 0 J (sn J (cq (lp (fun f a => i_VictimOf_L1 fl a0 f a = some o0_1) (fun a => o0_1 = .out a) (fun R s h => ∃ v10, R v10 ∧ s = [(1, .pointer (some ⟨b1, 0, none⟩)), (6, I v10)] ∧ h = [(0, [(b1, .cells #[.slice p0_0 ((a0.l).length) c0_0, I a0.h] 29 (0, 0))])]) ⟨_, eo0_1, J, J⟩ ?_ ?_)))))
 ·rintro fuel _ _ ⟨v10, H1, rfl, rfl⟩
  rcases fuel with _ | fuel
  ·rw [i_VictimOf_L1.eq_1] at H1; cases H1
  rw [i_VictimOf_L1.eq_2] at H1
  obtain ⟨x11, e11, H1⟩ := bS H1
  refine csr (oAL 0 u29 J ts27 J 0 J (oM J (oD (stp_indexAddr u27 ts104 (by decide) J J J (Rdb.ro hr0_0) e11) J (oA 5 u104 J ts4 J (oD (stp_load1 ts4 J (Cells.el (Rdb.ro hr0_0) (by decide) e11 5 1 J)) J (nn (cH J H1 (fun H1 => ?_) (fun H1 => ?_))))))))
  ·obtain ⟨x13, e13, H1⟩ := bS H1
   obtain ⟨x14, e14, H1⟩ := bS H1
   exact kz (cw_block (cR (oM J (oP e13 J (oAL 0 u29 J ts27 J 0 J (oD (stp_len u27 J) J (oD (stp_rem J J e14) J (oS J (ow_nil (kw_bl_normal (ka ⟨_, H1, J, J⟩)))))))))))
  refine cw_exit (kw_nx_exit (ax (kw_bl ?_)))
  obtain rfl := sI H1
  exact kx ⟨_, J, J, J⟩
 rintro _ _ ⟨v10, rfl, rfl, rfl⟩
 refine kw_nx (sr (oM J (oS J (sn J (cw_ret ?_)))))
 obtain rfl := sI H0
 exact kr results114 (.cons (.tmp J) (rT J)) [] ⟨J, J⟩

theorem c_i_Cache_with (fl : Nat) (w : World) (a0 : Ca) (a1 : Int) (a2 : Ln) (hn0_0 : n0_0 = (a0.l).length) (hr0_0 : RO w [] (RdL p0_0 c0_0 a0.l)) (r : Ca) (H0 : i_Cache_with fl a0 a1 a2 = some r) :
  Ct prog 115 [.agg #[.slice p0_0 n0_0 c0_0, I a0.h], I a1, .agg #[.bool a2.va, I a2.tg, I a2.pg, I a2.fr, I a2.ri, .bool a2.wi]] w [] (fun rv h' => SL 104 r.l fun x0 y0 z0 C0 => rv = .agg #[.slice x0 y0 z0, I r.h] ∧ h' = [(0, C0)]) := by
 subst hn0_0
 unfold i_Cache_with at H0
 refine ct_of_cw func115 J ntmps115 J (Sat.refl _ _) ?_
 refine sr (oE (stpU_box 0 J J) J ?_)
 rintro _ _ ⟨b1, rfl, rfl⟩
 refine oE (stpU_box 1 J J) J ?_
 rintro _ _ ⟨b2, rfl, rfl⟩
 refine oE (stpU_alloc 2 tz29 J) J ?_
 rintro _ _ ⟨b3, rfl, rfl⟩
 obtain ⟨x4, e4, H0⟩ := bS H0
 refine nn (cq (rdt g_mixed [.n 0, .n 1, .n 4, .n 5, .d 2, .d 7, .o 2, .n 3, .n 6, .o 7, .n 8] ⟨[[],[0],[],[],[],[0],[],[],[4]], [[],[],[3],[],[],[],[],[4],[4]], [2,7]⟩ (dA 0 J u29 J ts27 J (dL 0 ts27 J (dA 1 J u29 J ts3 J (dL 0 ts3 J (dq J (fun hh => uC 3 cf92 (fun w hw => c_slices_Clone_Line fl w a0.l J (rp hr0_0 hw) x4 e4) (yA J)) (by rintro _ _ ⟨_, ⟨_, _, _, _, _, _, rfl, rfl⟩, rfl⟩; rfl) (dq J (fun hh => stpU_alloc 4 tz29 J) (by rintro _ _ ⟨_, rfl, rfl⟩; rfl) (dp J ?_)))))))))
 rintro _ _ ⟨_, ⟨p5, _, c7, C8, rfl, o8, rfl, rfl⟩, rfl⟩
 refine dV J (fun hh => stpU_call (fun i => i) cf91 (fun w hw => c_clip91 w p5 ((x4).length) c7 (OwnC.len o8).1) (yA J)) J (dD J (stp_build (cs := #[.slice p5 ((x4).length) ((x4).length), I a0.h]) (sP J (sP J sE)) bt29_15) (dp J ?_))
 rintro _ _ ⟨b9, rfl, rfl⟩
 obtain ⟨x10, e10, H0⟩ := bS H0
 refine dC2 4 ts29 J J J (dn (kw_nx (sr (oAL 0 u29 J ts27 J 4 J (oM J (oB6 1 ts104 J (oD (stp_indexAddr u27 ts104 (by decide) J J J (Rdb.own (id := 3) J (OwnC.clip o8)) e10) J (oF (stpU_storeEl (id := 3) (i := 0) a2 (by decide) ts104 J J J (OwnC.clip o8) e10 J J J J) ?_))))))))
 rintro _ _ ⟨C11, rfl, o11⟩
 refine ns (oB2 4 ts29 J (oC2 2 ts29 J J (nn (cw_ret ?_))))
 obtain rfl := sI H0
 exact kr results115 (rC2 2 ts29 J J) [3] (sl (by simp) o11 ⟨J, J⟩)

theorem c_i_FillLine (fl : Nat) (w : World) (a0 : Ca) (a1 : Ln) (hn0_0 : n0_0 = (a0.l).length) (hr0_0 : RO w [] (RdL p0_0 c0_0 a0.l)) (r : Ca × Int × Bool) (H0 : i_FillLine fl a0 a1 = some r) :
  Ct prog 74 [.agg #[.slice p0_0 n0_0 c0_0, I a0.h], .agg #[.bool a1.va, I a1.tg, I a1.pg, I a1.fr, I a1.ri, .bool a1.wi]] w [] (fun rv h' => SL 104 r.1.l fun x0 y0 z0 C0 => rv = .tuple #[.agg #[.slice x0 y0 z0, I r.1.h], I r.2.1, .bool r.2.2] ∧ h' = [(0, C0)]) := by
 subst hn0_0
 unfold i_FillLine at H0
 refine ct_of_cw func74 J ntmps74 J (Sat.refl _ _) ?_
 refine sr (oE (stpU_box 0 J J) J ?_)
 rintro _ _ ⟨b1, rfl, rfl⟩
 refine oE (stpU_box 1 J J) J ?_
 rintro _ _ ⟨b2, rfl, rfl⟩
 refine oE (stpU_alloc 2 tz29 J) J ?_
 rintro _ _ ⟨b3, rfl, rfl⟩
 obtain ⟨x4, e4, H0⟩ := bS H0
 refine oS J (ss J (oB2 0 ts29 J (oE (uC 3 cf114 (fun w hw => c_i_VictimOf fl w a0 J (rp hr0_0 hw) x4 e4) (yA J)) J ?_)))
 rintro _ _ ⟨_, ⟨rfl, rfl⟩, rfl⟩
 obtain ⟨y5, ey5, H0⟩ := bS H0
 refine oMTT J J J (oS J (sq J (oM J (oK J (oM J (ow_cutY 4 21 y5 ?_ ?_))))))
 ·rcases Bool.eq_false_or_eq_true (!x4.2) with hy5 | hy5
  ·have ey5 := cond_t ey5 hy5
   refine oO J hy5 J (oO J hy5 J (oO J hy5 J (oD (stp_pick_t J hy5 J) J ?_)))
   obtain rfl := sI ey5
   exact ow_nil (jy 4 0)
  have ey5 := cond_f ey5 hy5
  refine oG J hy5 (fA 0 u104 J ts4 J J J) J (oG J hy5 (lB 1 ts4 J J J) J (oG J hy5 (stp_not J) J (oD (stp_pick_f J hy5 J) J ?_)))
  obtain rfl := sI ey5
  exact ow_nil (jy 4 0)
 obtain ⟨y6, ey6, H0⟩ := bS H0
 refine oM J (ow_cutY 4 26 y6 ?_ ?_)
 ·rcases Bool.eq_false_or_eq_true y5 with hy6 | hy6
  ·have ey6 := cond_t ey6 hy6
   refine oO J hy6 J (oO J hy6 J (oO J hy6 J (oD (stp_pick_t J hy6 J) J ?_)))
   obtain rfl := sI ey6
   exact ow_nil (jy 4 0)
  have ey6 := cond_f ey6 hy6
  obtain ⟨x7, e7, ey6⟩ := bS ey6
  refine oG J hy6 (stp_loadN (us := [_, _, _, _, _, _]) ts104 J (Cells.box (id := 1) J 6 J)) J (ow_eff (.some J hy6) (uC 3 cf106 (fun w hw => c_i_lineValid fl w a1 x7 e7) (yA J)) J ?_)
  rintro _ _ ⟨_, ⟨rfl, rfl⟩, rfl⟩
  refine oG J hy6 (stp_not J) J (oD (stp_pick_f J hy6 J) J ?_)
  obtain rfl := sI ey6
  exact ow_nil (jy 4 0)
 obtain ⟨y8, ey8, H0⟩ := bS H0
 refine oM J (ow_cutY 8 35 y8 ?_ ?_)
 ·rcases Bool.eq_false_or_eq_true y6 with hy8 | hy8
  ·have ey8 := cond_t ey8 hy8
   refine oO J hy8 J (oO J hy8 J (oO J hy8 J (oO J hy8 J (oO J hy8 J (oO J hy8 J (oO J hy8 J (oD (stp_pick_t J hy8 J) J ?_)))))))
   obtain rfl := sI ey8
   exact ow_nil (jy 8 0)
  have ey8 := cond_f ey8 hy8
  obtain ⟨x9, e9, ey8⟩ := bS ey8
  refine oG J hy8 (stp_loadN (us := [_, _]) ts29 J (Cells.box (id := 0) J 2 J)) J (oG J hy8 (fA 1 u104 J ts3 J J J) J (oG J hy8 (lB 1 ts3 J J J) J (oG J hy8 (fA 2 u104 J ts3 J J J) J (oG J hy8 (lB 1 ts3 J J J) J (ow_eff (.some J hy8) (uC 3 cf73 (fun w hw => c_i_Cache_place fl w a0 a1.tg a1.pg J (rp hr0_0 hw) x9 e9) (yC J J J)) J ?_)))))
  rintro _ _ ⟨_, ⟨rfl, rfl⟩, rfl⟩
  refine oG J hy8 (stp_geq J J) J (oD (stp_pick_f J hy8 J) J ?_)
  obtain rfl := sI ey8
  exact ow_nil (jy 8 0)
 refine ow_nil (kw_nx (cH J H0 (fun H0 => ?_) (fun H0 => ?_)))
 ·refine sr (oD (stp_build (cs := #[sN, I 0]) sE bt29_2) J (oC2 2 ts29 J J (oS J (sR J (kA 3 ?_)))))
  obtain rfl := sI H0
  exact kr results74 (.cons (.cellN (us := [_, _]) ts29 J (Cells.box (id := 2) J 2 J)) (.cons (.tmp J) (rT J))) [3] (sl J oN0 ⟨J, J⟩)
 obtain ⟨x11, e11, H0⟩ := bS H0
 refine ks (oB2 0 ts29 J (oM J (oB6 1 ts104 J (oE (uC 4 cf115 (fun w hw => c_i_Cache_with fl w a0 x4.1 a1 J (rp hr0_0 hw) x11 e11) (yC J J J)) J ?_))))
 rintro _ _ ⟨_, ⟨p12, _, c14, C15, rfl, o15, rfl, rfl⟩, rfl⟩
 refine oE (stpU_alloc 5 tz29 J) J ?_
 rintro _ _ ⟨b16, rfl, rfl⟩
 obtain ⟨x17, e17, H0⟩ := bS H0
 refine oC2 5 ts29 J J (nq (oAL 0 u29 J ts27 J 0 J (oM J (oD (stp_indexAddr u27 ts104 (by decide) J J J (Rdb.ro hr0_0) e17) J (oA 0 u104 J ts4 J (oD (stp_load1 ts4 J (Cells.el (Rdb.ro hr0_0) (by decide) e17 0 1 J)) J (nn (cH J H0 (fun H0 => ?_) (fun H0 => ?_)))))))))
 ·obtain ⟨x19, e19, H0⟩ := bS H0
  obtain ⟨x20, e20, H0⟩ := bS H0
  obtain ⟨x21, e21, H0⟩ := bS H0
  refine cR (oM J (oP e19 J (oAL 0 u29 J ts27 J 0 J (oD (stp_len u27 J) J (oD (stp_rem J J e20) J (oA 1 u29 J ts3 J (oC2 5 ts3 J J (nq (oB2 5 ts29 J (oE (uC 6 cf59 (fun w hw => c_i_CacheValid fl w (⟨x11.l, x20⟩ : Ca) J (owp 4 J o15 hw) x21 e21) (yA J)) J ?_))))))))))
  rintro _ _ ⟨_, ⟨rfl, rfl⟩, rfl⟩
  refine oK J (nn (cH J H0 (fun H0 => ?_) (fun H0 => ?_)))
  ·refine sr (oD (stp_build (cs := #[sN, I 0]) sE bt29_2) J (oC2 2 ts29 J J (oS J (sR J (kA 6 ?_)))))
   obtain rfl := sI H0
   exact kr results74 (.cons (.cellN (us := [_, _]) ts29 J (Cells.box (id := 2) J 2 J)) (.cons (.tmp J) (rT J))) [6] (sl J oN0 ⟨J, J⟩)
  refine ks (oB2 5 ts29 J (oM J (oC2 2 ts29 J J (oS J (sn J (cw_ret ?_))))))
  obtain rfl := sI H0
  exact kr results74 (.cons (.cellN (us := [_, _]) ts29 J (Cells.box (id := 2) J 2 J)) (.cons (.tmp J) (rT J))) [4] (sl J o15 ⟨J, J⟩)
 obtain ⟨x23, e23, H0⟩ := bS H0
 refine kq (sr (oB2 5 ts29 J (oE (uC 7 cf59 (fun w hw => c_i_CacheValid fl w x11 J (owp 4 J o15 hw) x23 e23) (yA J)) J ?_)))
 rintro _ _ ⟨_, ⟨rfl, rfl⟩, rfl⟩
 refine oK J (nn (cH J H0 (fun H0 => ?_) (fun H0 => ?_)))
 ·refine sr (oD (stp_build (cs := #[sN, I 0]) sE bt29_2) J (oC2 2 ts29 J J (oS J (sR J (kA 7 ?_)))))
  obtain rfl := sI H0
  exact kr results74 (.cons (.cellN (us := [_, _]) ts29 J (Cells.box (id := 2) J 2 J)) (.cons (.tmp J) (rT J))) [7] (sl J oN0 ⟨J, J⟩)
 refine ks (oB2 5 ts29 J (oM J (oC2 2 ts29 J J (oS J (sn J (cw_ret ?_))))))
 obtain rfl := sI H0
 exact kr results74 (.cons (.cellN (us := [_, _]) ts29 J (Cells.box (id := 2) J 2 J)) (.cons (.tmp J) (rT J))) [4] (sl J o15 ⟨J, J⟩)

theorem c_i_TouchPage (fl : Nat) (w : World) (a0 : Mc) (a1 : Int) (a2 : Int) (hn0_0 : n0_0 = (a0.t.b).length) (hr0_0 : RO w [] (RdL p0_0 c0_0 a0.t.b)) (hn0_1 : n0_1 = (a0.t.f).length) (hr0_1 : RO w [] (RdL p0_1 c0_1 a0.t.f)) (hn0_2 : n0_2 = (a0.c.l).length) (hr0_2 : RO w [] (RdL p0_2 c0_2 a0.c.l)) (hn0_3 : n0_3 = (a0.g.o).length) (hr0_3 : RO w [] (RdL p0_3 c0_3 a0.g.o)) (hg : RO w [] (fun w' => w'.rangeAt 0 0 [.bool false, I 0, I 0, I 0, I (-1)])) (r : Mc × Int × Int × Bool) (H0 : i_TouchPage fl a0 a1 a2 = some r) :
  Ct prog 43 [.agg #[.slice p0_0 n0_0 c0_0, .slice p0_1 n0_1 c0_1, .slice p0_2 n0_2 c0_2, I a0.c.h, I a0.g.c, I a0.g.n, I a0.g.r, .slice p0_3 n0_3 c0_3, I a0.s], I a1, I a2] w [] (fun rv h' => SL 3 r.1.t.b fun x0 y0 z0 C0 => SL 57 r.1.t.f fun x1 y1 z1 C1 => SL 104 r.1.c.l fun x2 y2 z2 C2 => SL 70 r.1.g.o fun x3 y3 z3 C3 => rv = .tuple #[.agg #[.slice x0 y0 z0, .slice x1 y1 z1, .slice x2 y2 z2, I r.1.c.h, I r.1.g.c, I r.1.g.n, I r.1.g.r, .slice x3 y3 z3, I r.1.s], I r.2.1, I r.2.2.1, .bool r.2.2.2] ∧ h' = [(0, C0), (1, C1), (2, C2), (3, C3)]) := by
 subst hn0_0 hn0_1 hn0_2 hn0_3
 unfold i_TouchPage at H0
 refine ct_of_cw func43 J ntmps43 J (Sat.refl _ _) ?_
 refine sr (oE (stpU_box 0 J J) J ?_)
 rintro _ _ ⟨b1, rfl, rfl⟩
 refine oE (stpU_alloc 1 tz34 J) J ?_
 rintro _ _ ⟨b2, rfl, rfl⟩
 obtain ⟨x3, e3, H0⟩ := bS H0
 refine oS J (oS J (sq J (oB9 0 ts34 J (oE (uC 2 cf31 (fun w hw => c_i_MachineValid fl w a0 J (rp hr0_0 hw) J (rp hr0_1 hw) J (rp hr0_2 hw) J (rp hr0_3 hw) (rp hg hw) x3 e3) (yA J)) J ?_))))
 rintro _ _ ⟨_, ⟨rfl, rfl⟩, rfl⟩
 obtain ⟨y4, ey4, H0⟩ := bS H0
 refine oK J (oM J (ow_cutY 4 27 y4 ?_ ?_))
 ·rcases Bool.eq_false_or_eq_true (!x3) with hy4 | hy4
  ·have ey4 := cond_t ey4 hy4
   refine oO J hy4 J (oO J hy4 J (oO J hy4 J (oD (stp_pick_t J hy4 J) J ?_)))
   obtain rfl := sI ey4
   exact ow_nil (jy 4 0)
  have ey4 := cond_f ey4 hy4
  obtain ⟨x5, e5, ey4⟩ := bS ey4
  refine oG J hy4 (mv J) J (ow_eff (.some J hy4) (uC 2 cf32 (fun w hw => c_i_within fl w a1 256 x5 e5) (yB J J)) J ?_)
  rintro _ _ ⟨_, ⟨rfl, rfl⟩, rfl⟩
  refine oG J hy4 (stp_not J) J (oD (stp_pick_f J hy4 J) J ?_)
  obtain rfl := sI ey4
  exact ow_nil (jy 4 0)
 obtain ⟨y6, ey6, H0⟩ := bS H0
 refine oM J (ow_cutY 4 32 y6 ?_ ?_)
 ·rcases Bool.eq_false_or_eq_true y4 with hy6 | hy6
  ·have ey6 := cond_t ey6 hy6
   refine oO J hy6 J (oO J hy6 J (oO J hy6 J (oD (stp_pick_t J hy6 J) J ?_)))
   obtain rfl := sI ey6
   exact ow_nil (jy 4 0)
  have ey6 := cond_f ey6 hy6
  obtain ⟨x7, e7, ey6⟩ := bS ey6
  refine oG J hy6 (mv J) J (ow_eff (.some J hy6) (uC 2 cf37 (fun w hw => c_i_RightsValid fl w a2 x7 e7) (yA J)) J ?_)
  rintro _ _ ⟨_, ⟨rfl, rfl⟩, rfl⟩
  refine oG J hy6 (stp_not J) J (oD (stp_pick_f J hy6 J) J ?_)
  obtain rfl := sI ey6
  exact ow_nil (jy 4 0)
 refine ow_nil (kw_nx (cH J H0 (fun H0 => ?_) (fun H0 => ?_)))
 ·refine sr (oD (stp_build (cs := #[sN, sN, sN, I 0, I 0, I 0, I 0, sN, I 0]) sE bt34_6) J (oC9 1 ts34 J J (oS J (oS J (sR J (kA 2 (kA 3 (kA 4 (kA 5 ?_)))))))))
  obtain rfl := sI H0
  exact kr results43 (.cons (.cellN (us := [_, _, _, _, _, _, _, _, _]) ts34 J (Cells.box (id := 1) J 9 J)) (.cons (.tmp J) (.cons (.tmp J) (rT J)))) [2, 3, 4, 5] (sl J oN0 (sl J oN0 (sl J oN0 (sl J oN0 ⟨J, J⟩))))
 obtain ⟨x9, e9, H0⟩ := bS H0
 refine ks (oB9 0 ts34 J (oE (uC 6 cf52 (fun w hw => c_i_Machine_clone fl w a0 J (rp hr0_0 hw) J (rp hr0_1 hw) J (rp hr0_2 hw) J (rp hr0_3 hw) x9 e9) (yA J)) J ?_))
 rintro _ _ ⟨_, ⟨p10, _, c12, C13, rfl, o13, p14, _, c16, C17, rfl, o17, p18, _, c20, C21, rfl, o21, p22, _, c24, C25, rfl, o25, rfl, rfl⟩, rfl⟩
 refine oE (stpU_alloc 10 tz34 J) J ?_
 rintro _ _ ⟨b26, rfl, rfl⟩
 obtain ⟨x27, e27, H0⟩ := bS H0
 refine oC9 10 ts34 J J (ns (oB9 0 ts34 J (oAL 8 u34 J ts3 J 0 J (oM J (oE (uC 11 cf72 (fun w hw => c_i_Machine_tagFor fl w a0 a0.s a1 J (rp hr0_0 hw) J (rp hr0_1 hw) J (rp hr0_2 hw) J (rp hr0_3 hw) x27 e27) (yC J J J)) J ?_)))))
 rintro _ _ ⟨_, ⟨rfl, rfl⟩, rfl⟩
 refine oMTT J J J (oS J (ss J (oS J (oS J (sq J (oA 2 u34 J ts29 J ?_))))))
 obtain ⟨x28, e28, H0⟩ := bS H0
 refine oB2 0 ts29 J (oM J (oM J (oE (uC 11 cf73 (fun w hw => c_i_Cache_place fl w a0.c x27.1 a1 J (rp hr0_2 hw) x28 e28) (yC J J J)) J ?_)))
 rintro _ _ ⟨_, ⟨rfl, rfl⟩, rfl⟩
 refine ss J (oM J (oI J (nn (cH J H0 (fun H0 => ?_) (fun H0 => ?_)))))
 ·obtain ⟨x30, e30, H0⟩ := bS H0
  refine rdt g_mixed (rn 0 16) ⟨[[],[],[0],[],[],[],[],[],[],[0]], [], []⟩ (dA 2 J u34 J ts29 J (dA 0 J u29 J ts27 J (dL 0 ts27 J (dM J (dD J (stp_indexAddr u27 ts104 (by decide) J J J (Rdb.ro hr0_2) e30) (dA 3 J u104 J ts3 J (dD J (stp_load1 ts3 J (Cells.el (Rdb.ro hr0_2) (by decide) e30 3 1 J)) (dA 2 J u34 J ts29 J (dA 0 J u29 J ts27 J (dL 0 ts27 J (dM J (dD J (stp_indexAddr u27 ts104 (by decide) J J J (Rdb.ro hr0_2) e30) (dA 4 J u104 J ts3 J ?_)))))))))))))
  obtain ⟨x31, e31, H0⟩ := bS H0
  refine dD J (stp_load1 ts3 J (Cells.el (Rdb.ro hr0_2) (by decide) e30 4 1 J)) (dS J (dS J (dn (kw_nx (csr (oM J (oM J (oE (uC 11 cf75 (fun w hw => c_i_Allows fl w x30.ri a2 x31 e31) (yB J J)) J ?_))))))))
  rintro _ _ ⟨_, ⟨rfl, rfl⟩, rfl⟩
  refine oK J (nn (cH J H0 (fun H0 => ?_) (fun H0 => ?_)))
  ·refine cR (ss J (oB9 10 ts34 J (oM J (oM J (oC9 1 ts34 J J (oS J (oS J (sn J (cw_ret ?_)))))))))
   obtain rfl := sI H0
   exact kr results43 (.cons (.cellN (us := [_, _, _, _, _, _, _, _, _]) ts34 J (Cells.box (id := 1) J 9 J)) (.cons (.tmp J) (.cons (.tmp J) (rT J)))) [6, 7, 8, 9] (sl J o13 (sl J o17 (sl J o21 (sl J o25 ⟨J, J⟩))))
  refine ks (oB9 10 ts34 J (oM J (oM J (oC9 1 ts34 J J (oS J (oS J (sn J (cw_ret ?_))))))))
  obtain rfl := sI H0
  exact kr results43 (.cons (.cellN (us := [_, _, _, _, _, _, _, _, _]) ts34 J (Cells.box (id := 1) J 9 J)) (.cons (.tmp J) (.cons (.tmp J) (rT J)))) [6, 7, 8, 9] (sl J o13 (sl J o17 (sl J o21 (sl J o25 ⟨J, J⟩))))
 obtain ⟨x33, e33, H0⟩ := bS H0
 obtain ⟨x34, e34, H0⟩ := bS H0
 refine cq (rdt g_mixed (rn 0 8) ⟨[[],[0],[],[0]], [], []⟩ (dA 0 J u34 J ts26 J (dB2 0 ts26 J (dA 8 J u34 J ts3 J (dL 0 ts3 J (dM J (dV J (fun hh => uC 11 cf16 (fun w hw => c_i_KeyFor fl w a0.s a1 x33 e33) (yB J J)) J (dV J (fun hh => uC 11 cf38 (fun w hw => c_i_Table_find fl w a0.t x33 J (rp hr0_0 hw) J (rp hr0_1 hw) x34 e34) (yB J J)) J (dS J (dn (kw_nx (cq (sr ?_)))))))))))))
 refine oM J (oW J (nn (cH J H0 (fun H0 => ?_) (fun H0 => ?_))))
 ·refine sr (oB9 10 ts34 J (oC9 1 ts34 J J (oS J (oS J (sR J (kR ?_))))))
  obtain rfl := sI H0
  exact kr results43 (.cons (.cellN (us := [_, _, _, _, _, _, _, _, _]) ts34 J (Cells.box (id := 1) J 9 J)) (.cons (.tmp J) (.cons (.tmp J) (rT J)))) [6, 7, 8, 9] (sl J o13 (sl J o17 (sl J o21 (sl J o25 ⟨J, J⟩))))
 obtain ⟨x36, e36, H0⟩ := bS H0
 refine kq (rdt g_mixed (rn 0 9) ⟨[[],[],[0]], [], []⟩ (dA 0 J u34 J ts26 J (dA 1 J u26 J ts24 J (dL 0 ts24 J (dM J (dD J (stp_indexAddr u24 ts57 (by decide) J J J (Rdb.ro hr0_1) e36) (dA 3 J u57 J ts3 J (dD J (stp_load1 ts3 J (Cells.el (Rdb.ro hr0_1) (by decide) e36 3 1 J)) (dS J (dS J (dn ?_)))))))))))
 obtain ⟨x37, e37, H0⟩ := bS H0
 refine kw_nx (sr (oA 2 u34 J ts29 J (oB2 10 ts29 J (oM J (oM J (oM J (oM J (oD (stp_build (cs := #[.bool true, I x27.1, I a1, I x34, I x36.r, .bool false]) (sP J (sP J (sP J (sP J (sP J (sP J sE)))))) bt104_22) J (oE (uC 11 cf74 (fun w hw => c_i_FillLine fl w x9.c (⟨true, x27.1, a1, x34, x36.r, false⟩ : Ln) J (owp 8 J o21 hw) x37 e37) (yB J J)) J ?_)))))))))
 rintro _ _ ⟨_, ⟨p38, _, c40, C41, rfl, o41, rfl, rfl⟩, rfl⟩
 refine oMTT J J J (oT J (oE (stpU_alloc 12 tz29 J) J ?_))
 rintro _ _ ⟨b42, rfl, rfl⟩
 refine oC2 12 ts29 J J (oS J (sq J (oM J (oK J (nn (cH J H0 (fun H0 => ?_) (fun H0 => ?_)))))))
 ·refine sr (oD (stp_build (cs := #[sN, sN, sN, I 0, I 0, I 0, I 0, sN, I 0]) sE bt34_6) J (oC9 1 ts34 J J (oS J (oS J (sR J (kR (kA 13 (kA 14 (kA 15 (kA 16 ?_))))))))))
  obtain rfl := sI H0
  exact kr results43 (.cons (.cellN (us := [_, _, _, _, _, _, _, _, _]) ts34 J (Cells.box (id := 1) J 9 J)) (.cons (.tmp J) (.cons (.tmp J) (rT J)))) [13, 14, 15, 16] (sl J oN0 (sl J oN0 (sl J oN0 (sl J oN0 ⟨J, J⟩))))
 obtain ⟨x44, e44, H0⟩ := bS H0
 refine kz (cR (oB2 12 ts29 J (oA 2 u34 J ts29 J (oC9 10 ts29 J J (nq (oM J (oM J (oE (uC 17 cf75 (fun w hw => c_i_Allows fl w x36.r a2 x44 e44) (yB J J)) J ?_))))))))
 rintro _ _ ⟨_, ⟨rfl, rfl⟩, rfl⟩
 refine oK J (nn (cH J H0 (fun H0 => ?_) (fun H0 => ?_)))
 ·refine cR (ss J (oB9 10 ts34 J (oM J (oM J (oC9 1 ts34 J J (oS J (oS J (sn J (cw_ret ?_)))))))))
  obtain rfl := sI H0
  exact kr results43 (.cons (.cellN (us := [_, _, _, _, _, _, _, _, _]) ts34 J (Cells.box (id := 1) J 9 J)) (.cons (.tmp J) (.cons (.tmp J) (rT J)))) [6, 7, 11, 9] (sl J o13 (sl J o17 (sl J o41 (sl J o25 ⟨J, J⟩))))
 refine ks (oB9 10 ts34 J (oM J (oM J (oC9 1 ts34 J J (oS J (oS J (sn J (cw_ret ?_))))))))
 obtain rfl := sI H0
 exact kr results43 (.cons (.cellN (us := [_, _, _, _, _, _, _, _, _]) ts34 J (Cells.box (id := 1) J 9 J)) (.cons (.tmp J) (.cons (.tmp J) (rT J)))) [6, 7, 11, 9] (sl J o13 (sl J o17 (sl J o41 (sl J o25 ⟨J, J⟩))))

theorem c_i_UsePage (fl : Nat) (w : World) (a0 : Mm) (a1 : Int) (a2 : Int) (a3 : Int) (hn0_0 : n0_0 = (a0.m.t.b).length) (hr0_0 : RO w [] (RdL p0_0 c0_0 a0.m.t.b)) (hn0_1 : n0_1 = (a0.m.t.f).length) (hr0_1 : RO w [] (RdL p0_1 c0_1 a0.m.t.f)) (hn0_2 : n0_2 = (a0.m.c.l).length) (hr0_2 : RO w [] (RdL p0_2 c0_2 a0.m.c.l)) (hn0_3 : n0_3 = (a0.m.g.o).length) (hr0_3 : RO w [] (RdL p0_3 c0_3 a0.m.g.o)) (hn0_4 : n0_4 = (a0.k).length) (hr0_4 : RO w [] (RdL p0_4 c0_4 a0.k)) (hg : RO w [] (fun w' => w'.rangeAt 0 0 [.bool false, I 0, I 0, I 0, I (-1)])) (r : Mm × Int × Int × Bool) (H0 : i_UsePage fl a0 a1 a2 a3 = some r) :
  Ct prog 18 [.agg #[.slice p0_0 n0_0 c0_0, .slice p0_1 n0_1 c0_1, .slice p0_2 n0_2 c0_2, I a0.m.c.h, I a0.m.g.c, I a0.m.g.n, I a0.m.g.r, .slice p0_3 n0_3 c0_3, I a0.m.s, .slice p0_4 n0_4 c0_4, I a0.h], I a1, I a2, I a3] w [] (fun rv h' => SL 3 r.1.m.t.b fun x0 y0 z0 C0 => SL 57 r.1.m.t.f fun x1 y1 z1 C1 => SL 104 r.1.m.c.l fun x2 y2 z2 C2 => SL 70 r.1.m.g.o fun x3 y3 z3 C3 => SL 4 r.1.k fun x4 y4 z4 C4 => rv = .tuple #[.agg #[.slice x0 y0 z0, .slice x1 y1 z1, .slice x2 y2 z2, I r.1.m.c.h, I r.1.m.g.c, I r.1.m.g.n, I r.1.m.g.r, .slice x3 y3 z3, I r.1.m.s, .slice x4 y4 z4, I r.1.h], I r.2.1, I r.2.2.1, .bool r.2.2.2] ∧ h' = [(0, C0), (1, C1), (2, C2), (3, C3), (4, C4)]) := by
 subst hn0_0 hn0_1 hn0_2 hn0_3 hn0_4
 unfold i_UsePage at H0
 refine ct_of_cw func18 J ntmps18 J (Sat.refl _ _) ?_
 refine sr (oE (stpU_box 0 J J) J ?_)
 rintro _ _ ⟨b1, rfl, rfl⟩
 refine oE (stpU_alloc 1 tz37 J) J ?_
 rintro _ _ ⟨b2, rfl, rfl⟩
 obtain ⟨x3, e3, H0⟩ := bS H0
 refine oS J (oS J (sq J (oB11 0 ts37 J (oE (uC 2 cf14 (fun w hw => c_i_MemoryValid fl w a0 J (rp hr0_0 hw) J (rp hr0_1 hw) J (rp hr0_2 hw) J (rp hr0_3 hw) J (rp hr0_4 hw) (rp hg hw) x3 e3) (yA J)) J ?_))))
 rintro _ _ ⟨_, ⟨rfl, rfl⟩, rfl⟩
 obtain ⟨y4, ey4, H0⟩ := bS H0
 refine oK J (oM J (ow_cutY 4 35 y4 ?_ ?_))
 ·rcases Bool.eq_false_or_eq_true (!x3) with hy4 | hy4
  ·have ey4 := cond_t ey4 hy4
   refine oO J hy4 J (oO J hy4 J (oO J hy4 J (oD (stp_pick_t J hy4 J) J ?_)))
   obtain rfl := sI ey4
   exact ow_nil (jy 4 0)
  have ey4 := cond_f ey4 hy4
  obtain ⟨x5, e5, ey4⟩ := bS ey4
  refine oG J hy4 (mv J) J (ow_eff (.some J hy4) (uC 2 cf32 (fun w hw => c_i_within fl w a1 256 x5 e5) (yB J J)) J ?_)
  rintro _ _ ⟨_, ⟨rfl, rfl⟩, rfl⟩
  refine oG J hy4 (stp_not J) J (oD (stp_pick_f J hy4 J) J ?_)
  obtain rfl := sI ey4
  exact ow_nil (jy 4 0)
 obtain ⟨y6, ey6, H0⟩ := bS H0
 refine oM J (ow_cutY 4 40 y6 ?_ ?_)
 ·rcases Bool.eq_false_or_eq_true y4 with hy6 | hy6
  ·have ey6 := cond_t ey6 hy6
   refine oO J hy6 J (oO J hy6 J (oO J hy6 J (oD (stp_pick_t J hy6 J) J ?_)))
   obtain rfl := sI ey6
   exact ow_nil (jy 4 0)
  have ey6 := cond_f ey6 hy6
  obtain ⟨x7, e7, ey6⟩ := bS ey6
  refine oG J hy6 (mv J) J (ow_eff (.some J hy6) (uC 2 cf37 (fun w hw => c_i_RightsValid fl w a2 x7 e7) (yA J)) J ?_)
  rintro _ _ ⟨_, ⟨rfl, rfl⟩, rfl⟩
  refine oG J hy6 (stp_not J) J (oD (stp_pick_f J hy6 J) J ?_)
  obtain rfl := sI ey6
  exact ow_nil (jy 4 0)
 obtain ⟨y8, ey8, H0⟩ := bS H0
 refine oM J (ow_cutY 4 45 y8 ?_ ?_)
 ·rcases Bool.eq_false_or_eq_true y6 with hy8 | hy8
  ·have ey8 := cond_t ey8 hy8
   refine oO J hy8 J (oO J hy8 J (oO J hy8 J (oD (stp_pick_t J hy8 J) J ?_)))
   obtain rfl := sI ey8
   exact ow_nil (jy 4 0)
  have ey8 := cond_f ey8 hy8
  obtain ⟨x9, e9, ey8⟩ := bS ey8
  refine oG J hy8 (mv J) J (ow_eff (.some J hy8) (uC 2 cf37 (fun w hw => c_i_RightsValid fl w a3 x9 e9) (yA J)) J ?_)
  rintro _ _ ⟨_, ⟨rfl, rfl⟩, rfl⟩
  refine oG J hy8 (stp_not J) J (oD (stp_pick_f J hy8 J) J ?_)
  obtain rfl := sI ey8
  exact ow_nil (jy 4 0)
 refine ow_nil (kw_nx (cH J H0 (fun H0 => ?_) (fun H0 => ?_)))
 ·refine sr (oD (stp_build (cs := #[sN, sN, sN, I 0, I 0, I 0, I 0, sN, I 0, sN, I 0]) sE bt37_19) J (oC11 1 ts37 J J (oS J (oS J (sR J (kA 2 (kA 3 (kA 4 (kA 5 (kA 6 ?_))))))))))
  obtain rfl := sI H0
  exact kr results18 (.cons (.cellN (us := [_, _, _, _, _, _, _, _, _, _, _]) ts37 J (Cells.box (id := 1) J 11 J)) (.cons (.tmp J) (.cons (.tmp J) (rT J)))) [2, 3, 4, 5, 6] (sl J oN0 (sl J oN0 (sl J oN0 (sl J oN0 (sl J oN0 ⟨J, J⟩)))))
 obtain ⟨x11, e11, H0⟩ := bS H0
 refine ks (oB11 0 ts37 J (oE (uC 7 cf25 (fun w hw => c_i_Memory_clone fl w a0 J (rp hr0_0 hw) J (rp hr0_1 hw) J (rp hr0_2 hw) J (rp hr0_3 hw) J (rp hr0_4 hw) x11 e11) (yA J)) J ?_))
 rintro _ _ ⟨_, ⟨p12, _, c14, C15, rfl, o15, p16, _, c18, C19, rfl, o19, p20, _, c22, C23, rfl, o23, p24, _, c26, C27, rfl, o27, p28, _, c30, C31, rfl, o31, rfl, rfl⟩, rfl⟩
 refine oE (stpU_alloc 12 tz37 J) J ?_
 rintro _ _ ⟨b32, rfl, rfl⟩
 obtain ⟨x33, e33, H0⟩ := bS H0
 refine oC11 12 ts37 J J (ns (oA 0 u37 J ts34 J (oAL 8 u34 J ts3 J 0 J (oM J (oE (uC 13 cf16 (fun w hw => c_i_KeyFor fl w a0.m.s a1 x33 e33) (yB J J)) J ?_)))))
 rintro _ _ ⟨_, ⟨rfl, rfl⟩, rfl⟩
 refine oE (stpU_alloc 13 tz50 J) J ?_
 rintro _ _ ⟨b34, rfl, rfl⟩
 obtain ⟨x35, e35, H0⟩ := bS H0
 refine oC2 13 ts50 J J (ns (oA 0 u37 J ts34 J (oA 0 u34 J ts26 J (oB2 0 ts26 J (oB2 13 ts50 J (oE (uC 14 cf38 (fun w hw => c_i_Table_find fl w a0.m.t x33 J (rp hr0_0 hw) J (rp hr0_1 hw) x35 e35) (yB J J)) J ?_))))))
 rintro _ _ ⟨_, ⟨rfl, rfl⟩, rfl⟩
 refine oW J (sq J (oM J (nn (cH J H0 (fun H0 => ?_) (fun H0 => ?_)))))
 ·obtain ⟨x37, e37, H0⟩ := bS H0
  refine sr (oB11 12 ts37 J (oE (uC 14 cf39 (fun w hw => c_i_FreeFrame fl w x11 J (owp 7 J o15 hw) J (owp 8 J o19 hw) J (owp 9 J o23 hw) J (owp 10 J o27 hw) J (owp 11 J o31 hw) (rp hg hw) x37 e37) (yA J)) J ?_))
  rintro _ _ ⟨_, ⟨rfl, rfl⟩, rfl⟩
  refine oMTT J J J (oS J (sq J (oM J (oK J (nn (cH J H0 (fun H0 => ?_) (fun H0 => ?_)))))))
  ·obtain ⟨x39, e39, H0⟩ := bS H0
   refine sr (oB11 12 ts37 J (oE (uC 14 cf40 (fun w hw => c_i_FrameVictim fl w x11 J (owp 7 J o15 hw) J (owp 8 J o19 hw) J (owp 9 J o23 hw) J (owp 10 J o27 hw) J (owp 11 J o31 hw) (rp hg hw) x39 e39) (yA J)) J ?_))
   rintro _ _ ⟨_, ⟨p40, _, c42, C43, rfl, o43, p44, _, c46, C47, rfl, o47, p48, _, c50, C51, rfl, o51, p52, _, c54, C55, rfl, o55, p56, _, c58, C59, rfl, o59, rfl, rfl⟩, rfl⟩
   refine oMTT J J J (oT J (oE (stpU_alloc 19 tz37 J) J ?_))
   rintro _ _ ⟨b60, rfl, rfl⟩
   refine oC11 19 ts37 J J (oS J (sq J (oM J (oK J (nn (cH J H0 (fun H0 => ?_) (fun H0 => ?_)))))))
   ·refine sr (oD (stp_build (cs := #[sN, sN, sN, I 0, I 0, I 0, I 0, sN, I 0, sN, I 0]) sE bt37_19) J (oC11 1 ts37 J J (oS J (oS J (sR J (kR (kR (kA 20 (kA 21 (kA 22 ?_))))))))))
    refine kA 23 (kA 24 ?_)
    obtain rfl := sI H0
    exact kr results18 (.cons (.cellN (us := [_, _, _, _, _, _, _, _, _, _, _]) ts37 J (Cells.box (id := 1) J 11 J)) (.cons (.tmp J) (.cons (.tmp J) (rT J)))) [20, 21, 22, 23, 24] (sl J oN0 (sl J oN0 (sl J oN0 (sl J oN0 (sl J oN0 ⟨J, J⟩)))))
   refine ks (oB11 19 ts37 J (oM J (oC11 12 ts37 J J (sn J (cq (rdt g_mixed [.n 0, .n 1, .n 2, .n 3, .n 4, .n 5, .n 6, .n 7, .n 8, .n 9, .d 10, .d 14, .o 10, .n 11, .n 12, .n 13, .o 14, .n 15, .n 16] ⟨[[],[12],[],[],[],[12],[],[15],[],[15],[14,15,16,17],[],[],[],[],[29]], [[],[],[],[],[],[],[],[],[],[],[25,26,27,28],[],[],[],[29],[29]], [10,14]⟩ (dA 0 J u37 J ts34 J (dB9 12 ts34 J (dA 0 J u37 J ts34 J (dA 0 J u34 J ts26 J ?_))))))))))
   obtain ⟨x62, e62, H0⟩ := bS H0
   obtain ⟨x63, e63, H0⟩ := bS H0
   refine dA 1 J u26 J ts24 J (dL 12 ts24 J (dM J (dD J (stp_indexAddr u24 ts57 (by decide) J J J (Rdb.own (id := 15) J o47) e62) (dA 1 J u57 J ts50 J (dD J (stp_loadN (us := [_, _]) ts50 J (Cells.el (Rdb.own (id := 15) J o47) (by decide) e62 1 2 J)) (dq J (fun hh => uC 25 cf41 (fun w hw => c_i_TakePage fl w x39.1.m x62.k J (owp 14 (hh _ _ J) o43 hw) J (owp 15 (hh _ _ J) o47 hw) J (owp 16 (hh _ _ J) o51 hw) J (owp 17 (hh _ _ J) o55 hw) (rp hg hw) x63 e63) (yB J J)) (by rintro _ _ ⟨_, ⟨_, _, _, _, _, _, _, _, _, _, _, _, _, _, _, _, _, _, _, _, _, _, _, _, rfl, rfl⟩, rfl⟩; rfl) (dq J (fun hh => stpU_alloc 29 tz34 J) (by rintro _ _ ⟨_, rfl, rfl⟩; rfl) (dp J ?_))))))))
   rintro _ _ ⟨_, ⟨p64, _, c66, C67, rfl, o67, p68, _, c70, C71, rfl, o71, p72, _, c74, C75, rfl, o75, p76, _, c78, C79, rfl, o79, rfl, rfl⟩, rfl⟩
   refine dM J (dT J (dT J (dp J ?_)))
   rintro _ _ ⟨b80, rfl, rfl⟩
   refine dC9 29 ts34 J J J (dS J (dn (kw_nx (csr (oM J (oK J (nn (cH J H0 (fun H0 => ?_) (fun H0 => ?_)))))))))
   ·refine sr (oD (stp_build (cs := #[sN, sN, sN, I 0, I 0, I 0, I 0, sN, I 0, sN, I 0]) sE bt37_19) J (oC11 1 ts37 J J (oS J (oS J (sR J (kR (kR (kA 30 (kA 31 (kA 32 ?_))))))))))
    refine kA 33 (kA 34 ?_)
    obtain rfl := sI H0
    exact kr results18 (.cons (.cellN (us := [_, _, _, _, _, _, _, _, _, _, _]) ts37 J (Cells.box (id := 1) J 11 J)) (.cons (.tmp J) (.cons (.tmp J) (rT J)))) [30, 31, 32, 33, 34] (sl J oN0 (sl J oN0 (sl J oN0 (sl J oN0 (sl J oN0 ⟨J, J⟩)))))
   obtain ⟨x82, e82, H0⟩ := bS H0
   refine kz (cR (oB9 29 ts34 J (oA 0 u37 J ts34 J (oC11 12 ts34 J J (ns (oA 0 u37 J ts34 J (oB9 12 ts34 J (oB2 13 ts50 J (oM J (oM J (oE (uC 35 cf42 (fun w hw => c_i_PutPage fl w x63.1 x33 x39.2.1 a3 J (owp 25 J o67 hw) J (owp 26 J o71 hw) J (owp 27 J o75 hw) J (owp 28 J o79 hw) (rp hg hw) x82 e82) (yD J J J J)) J ?_)))))))))))
   rintro _ _ ⟨_, ⟨p83, _, c85, C86, rfl, o86, p87, _, c89, C90, rfl, o90, p91, _, c93, C94, rfl, o94, p95, _, c97, C98, rfl, o98, rfl, rfl⟩, rfl⟩
   refine oMTT J J J (oE (stpU_alloc 39 tz34 J) J ?_)
   rintro _ _ ⟨b99, rfl, rfl⟩
   refine oC9 39 ts34 J J (sq J (oM J (oK J (nn (cH J H0 (fun H0 => ?_) (fun H0 => ?_))))))
   ·refine sr (oD (stp_build (cs := #[sN, sN, sN, I 0, I 0, I 0, I 0, sN, I 0, sN, I 0]) sE bt37_19) J (oC11 1 ts37 J J (oS J (oS J (sR J (kR (kA 40 (kA 41 (kA 42 (kA 43 ?_))))))))))
    refine kA 44 ?_
    obtain rfl := sI H0
    exact kr results18 (.cons (.cellN (us := [_, _, _, _, _, _, _, _, _, _, _]) ts37 J (Cells.box (id := 1) J 11 J)) (.cons (.tmp J) (.cons (.tmp J) (rT J)))) [40, 41, 42, 43, 44] (sl J oN0 (sl J oN0 (sl J oN0 (sl J oN0 (sl J oN0 ⟨J, J⟩)))))
   obtain ⟨x101, e101, H0⟩ := bS H0
   refine kz (cR (oB9 39 ts34 J (oA 0 u37 J ts34 J (oC11 12 ts34 J J (ns (oA 0 u37 J ts34 J (oB9 12 ts34 J (oM J (oM J (oE (uC 45 cf43 (fun w hw => c_i_TouchPage fl w x82.1 a1 a2 J (owp 35 J o86 hw) J (owp 36 J o90 hw) J (owp 37 J o94 hw) J (owp 38 J o98 hw) (rp hg hw) x101 e101) (yC J J J)) J ?_))))))))))
   rintro _ _ ⟨_, ⟨p102, _, c104, C105, rfl, o105, p106, _, c108, C109, rfl, o109, p110, _, c112, C113, rfl, o113, p114, _, c116, C117, rfl, o117, rfl, rfl⟩, rfl⟩
   refine oMTT J J J (oT J (oT J (oE (stpU_alloc 49 tz34 J) J ?_)))
   rintro _ _ ⟨b118, rfl, rfl⟩
   refine oC9 49 ts34 J J (oS J (oS J (sq J (oM J (oK J (nn (cH J H0 (fun H0 => ?_) (fun H0 => ?_))))))))
   ·refine sr (oD (stp_build (cs := #[sN, sN, sN, I 0, I 0, I 0, I 0, sN, I 0, sN, I 0]) sE bt37_19) J (oC11 1 ts37 J J (oS J (oS J (sR J (kA 50 (kA 51 (kA 52 (kA 53 (kA 54 ?_))))))))))
    obtain rfl := sI H0
    exact kr results18 (.cons (.cellN (us := [_, _, _, _, _, _, _, _, _, _, _]) ts37 J (Cells.box (id := 1) J 11 J)) (.cons (.tmp J) (.cons (.tmp J) (rT J)))) [50, 51, 52, 53, 54] (sl J oN0 (sl J oN0 (sl J oN0 (sl J oN0 (sl J oN0 ⟨J, J⟩)))))
   obtain ⟨x120, e120, H0⟩ := bS H0
   refine ks (oB9 49 ts34 J (oA 0 u37 J ts34 J (oC11 12 ts34 J J (ns (oAL 9 u37 J ts35 J 12 J (oM J (oD (stp_indexAddr u35 ts4 (by decide) J J J (Rdb.own (id := 18) J o59) e120) J (oF (stpU_storeEl (id := 18) (i := 0) true (by decide) ts4 J J J o59 e120 J J J J) ?_))))))))
   rintro _ _ ⟨C121, rfl, o121⟩
   obtain ⟨y122, ey122, H0⟩ := bS H0
   refine nq (oM J (oM J (ow_cutY 3 135 y122 ?_ ?_)))
   ·rcases Bool.eq_false_or_eq_true (decide (x35 < 0)) with hy122 | hy122
    ·have ey122 := cond_t ey122 hy122
     refine oG J hy122 (mv J) J (oG J hy122 (stp_eql J J) J (oD (stp_pick_t J hy122 J) J ?_))
     obtain rfl := sI ey122
     exact ow_nil (jy 3 0)
    have ey122 := cond_f ey122 hy122
    refine oO J hy122 J (oO J hy122 J (oD (stp_pick_f J hy122 J) J ?_))
    obtain rfl := sI ey122
    exact ow_nil (jy 3 0)
   refine ow_nil (kw_nx (cH J H0 (fun H0 => ?_) (fun H0 => ?_)))
   ·refine cR (ss J (oB11 12 ts37 J (oM J (oM J (oC11 1 ts37 J J (oS J (oS J (sn J (cw_ret ?_)))))))))
    obtain rfl := sI H0
    exact kr results18 (.cons (.cellN (us := [_, _, _, _, _, _, _, _, _, _, _]) ts37 J (Cells.box (id := 1) J 11 J)) (.cons (.tmp J) (.cons (.tmp J) (rT J)))) [45, 46, 47, 48, 18] (sl J o105 (sl J o109 (sl J o113 (sl J o117 (sl (by simp) o121 ⟨J, J⟩)))))
   refine ks (oB11 12 ts37 J (oM J (oM J (oC11 1 ts37 J J (oS J (oS J (sn J (cw_ret ?_))))))))
   obtain rfl := sI H0
   exact kr results18 (.cons (.cellN (us := [_, _, _, _, _, _, _, _, _, _, _]) ts37 J (Cells.box (id := 1) J 11 J)) (.cons (.tmp J) (.cons (.tmp J) (rT J)))) [45, 46, 47, 48, 18] (sl J o105 (sl J o109 (sl J o113 (sl J o117 (sl (by simp) o121 ⟨J, J⟩)))))
  obtain ⟨x124, e124, H0⟩ := bS H0
  refine ks (oA 0 u37 J ts34 J (oB9 12 ts34 J (oB2 13 ts50 J (oM J (oM J (oE (uC 55 cf42 (fun w hw => c_i_PutPage fl w x11.m x33 x37.1 a3 J (owp 7 J o15 hw) J (owp 8 J o19 hw) J (owp 9 J o23 hw) J (owp 10 J o27 hw) (rp hg hw) x124 e124) (yD J J J J)) J ?_))))))
  rintro _ _ ⟨_, ⟨p125, _, c127, C128, rfl, o128, p129, _, c131, C132, rfl, o132, p133, _, c135, C136, rfl, o136, p137, _, c139, C140, rfl, o140, rfl, rfl⟩, rfl⟩
  refine oMTT J J J (oE (stpU_alloc 59 tz34 J) J ?_)
  rintro _ _ ⟨b141, rfl, rfl⟩
  refine oC9 59 ts34 J J (sq J (oM J (oK J (nn (cH J H0 (fun H0 => ?_) (fun H0 => ?_))))))
  ·refine sr (oD (stp_build (cs := #[sN, sN, sN, I 0, I 0, I 0, I 0, sN, I 0, sN, I 0]) sE bt37_19) J (oC11 1 ts37 J J (oS J (oS J (sR J (kR (kA 60 (kA 61 (kA 62 (kA 63 ?_))))))))))
   refine kA 64 ?_
   obtain rfl := sI H0
   exact kr results18 (.cons (.cellN (us := [_, _, _, _, _, _, _, _, _, _, _]) ts37 J (Cells.box (id := 1) J 11 J)) (.cons (.tmp J) (.cons (.tmp J) (rT J)))) [60, 61, 62, 63, 64] (sl J oN0 (sl J oN0 (sl J oN0 (sl J oN0 (sl J oN0 ⟨J, J⟩)))))
  obtain ⟨x143, e143, H0⟩ := bS H0
  refine kz (cR (oB9 59 ts34 J (oA 0 u37 J ts34 J (oC11 12 ts34 J J (ns (oA 0 u37 J ts34 J (oB9 12 ts34 J (oM J (oM J (oE (uC 65 cf43 (fun w hw => c_i_TouchPage fl w x124.1 a1 a2 J (owp 55 J o128 hw) J (owp 56 J o132 hw) J (owp 57 J o136 hw) J (owp 58 J o140 hw) (rp hg hw) x143 e143) (yC J J J)) J ?_))))))))))
  rintro _ _ ⟨_, ⟨p144, _, c146, C147, rfl, o147, p148, _, c150, C151, rfl, o151, p152, _, c154, C155, rfl, o155, p156, _, c158, C159, rfl, o159, rfl, rfl⟩, rfl⟩
  refine oMTT J J J (oT J (oT J (oE (stpU_alloc 69 tz34 J) J ?_)))
  rintro _ _ ⟨b160, rfl, rfl⟩
  refine oC9 69 ts34 J J (oS J (oS J (sq J (oM J (oK J (nn (cH J H0 (fun H0 => ?_) (fun H0 => ?_))))))))
  ·refine sr (oD (stp_build (cs := #[sN, sN, sN, I 0, I 0, I 0, I 0, sN, I 0, sN, I 0]) sE bt37_19) J (oC11 1 ts37 J J (oS J (oS J (sR J (kA 70 (kA 71 (kA 72 (kA 73 (kA 74 ?_))))))))))
   obtain rfl := sI H0
   exact kr results18 (.cons (.cellN (us := [_, _, _, _, _, _, _, _, _, _, _]) ts37 J (Cells.box (id := 1) J 11 J)) (.cons (.tmp J) (.cons (.tmp J) (rT J)))) [70, 71, 72, 73, 74] (sl J oN0 (sl J oN0 (sl J oN0 (sl J oN0 (sl J oN0 ⟨J, J⟩)))))
  obtain ⟨x162, e162, H0⟩ := bS H0
  refine ks (oB9 69 ts34 J (oA 0 u37 J ts34 J (oC11 12 ts34 J J (ns (oAL 9 u37 J ts35 J 12 J (oM J (oD (stp_indexAddr u35 ts4 (by decide) J J J (Rdb.own (id := 11) J o31) e162) J (oF (stpU_storeEl (id := 11) (i := 0) true (by decide) ts4 J J J o31 e162 J J J J) ?_))))))))
  rintro _ _ ⟨C163, rfl, o163⟩
  obtain ⟨y164, ey164, H0⟩ := bS H0
  refine nq (oM J (oM J (ow_cutY 3 135 y164 ?_ ?_)))
  ·rcases Bool.eq_false_or_eq_true (decide (x35 < 0)) with hy164 | hy164
   ·have ey164 := cond_t ey164 hy164
    refine oG J hy164 (mv J) J (oG J hy164 (stp_eql J J) J (oD (stp_pick_t J hy164 J) J ?_))
    obtain rfl := sI ey164
    exact ow_nil (jy 3 0)
   have ey164 := cond_f ey164 hy164
   refine oO J hy164 J (oO J hy164 J (oD (stp_pick_f J hy164 J) J ?_))
   obtain rfl := sI ey164
   exact ow_nil (jy 3 0)
  refine ow_nil (kw_nx (cH J H0 (fun H0 => ?_) (fun H0 => ?_)))
  ·refine cR (ss J (oB11 12 ts37 J (oM J (oM J (oC11 1 ts37 J J (oS J (oS J (sn J (cw_ret ?_)))))))))
   obtain rfl := sI H0
   exact kr results18 (.cons (.cellN (us := [_, _, _, _, _, _, _, _, _, _, _]) ts37 J (Cells.box (id := 1) J 11 J)) (.cons (.tmp J) (.cons (.tmp J) (rT J)))) [65, 66, 67, 68, 11] (sl J o147 (sl J o151 (sl J o155 (sl J o159 (sl (by simp) o163 ⟨J, J⟩)))))
  refine ks (oB11 12 ts37 J (oM J (oM J (oC11 1 ts37 J J (oS J (oS J (sn J (cw_ret ?_))))))))
  obtain rfl := sI H0
  exact kr results18 (.cons (.cellN (us := [_, _, _, _, _, _, _, _, _, _, _]) ts37 J (Cells.box (id := 1) J 11 J)) (.cons (.tmp J) (.cons (.tmp J) (rT J)))) [65, 66, 67, 68, 11] (sl J o147 (sl J o151 (sl J o155 (sl J o159 (sl (by simp) o163 ⟨J, J⟩)))))
 obtain ⟨x166, e166, H0⟩ := bS H0
 refine ks (oA 0 u37 J ts34 J (oB9 12 ts34 J (oM J (oM J (oE (uC 75 cf43 (fun w hw => c_i_TouchPage fl w x11.m a1 a2 J (owp 7 J o15 hw) J (owp 8 J o19 hw) J (owp 9 J o23 hw) J (owp 10 J o27 hw) (rp hg hw) x166 e166) (yC J J J)) J ?_)))))
 rintro _ _ ⟨_, ⟨p167, _, c169, C170, rfl, o170, p171, _, c173, C174, rfl, o174, p175, _, c177, C178, rfl, o178, p179, _, c181, C182, rfl, o182, rfl, rfl⟩, rfl⟩
 refine oMTT J J J (oT J (oT J (oE (stpU_alloc 79 tz34 J) J ?_)))
 rintro _ _ ⟨b183, rfl, rfl⟩
 refine oC9 79 ts34 J J (oS J (oS J (sq J (oM J (oK J (nn (cH J H0 (fun H0 => ?_) (fun H0 => ?_))))))))
 ·refine sr (oD (stp_build (cs := #[sN, sN, sN, I 0, I 0, I 0, I 0, sN, I 0, sN, I 0]) sE bt37_19) J (oC11 1 ts37 J J (oS J (oS J (sR J (kA 80 (kA 81 (kA 82 (kA 83 (kA 84 ?_))))))))))
  obtain rfl := sI H0
  exact kr results18 (.cons (.cellN (us := [_, _, _, _, _, _, _, _, _, _, _]) ts37 J (Cells.box (id := 1) J 11 J)) (.cons (.tmp J) (.cons (.tmp J) (rT J)))) [80, 81, 82, 83, 84] (sl J oN0 (sl J oN0 (sl J oN0 (sl J oN0 (sl J oN0 ⟨J, J⟩)))))
 obtain ⟨x185, e185, H0⟩ := bS H0
 refine ks (oB9 79 ts34 J (oA 0 u37 J ts34 J (oC11 12 ts34 J J (ns (oAL 9 u37 J ts35 J 12 J (oM J (oD (stp_indexAddr u35 ts4 (by decide) J J J (Rdb.own (id := 11) J o31) e185) J (oF (stpU_storeEl (id := 11) (i := 0) true (by decide) ts4 J J J o31 e185 J J J J) ?_))))))))
 rintro _ _ ⟨C186, rfl, o186⟩
 obtain ⟨y187, ey187, H0⟩ := bS H0
 refine nq (oM J (oM J (ow_cutY 3 135 y187 ?_ ?_)))
 ·rcases Bool.eq_false_or_eq_true (decide (x35 < 0)) with hy187 | hy187
  ·have ey187 := cond_t ey187 hy187
   refine oG J hy187 (mv J) J (oG J hy187 (stp_eql J J) J (oD (stp_pick_t J hy187 J) J ?_))
   obtain rfl := sI ey187
   exact ow_nil (jy 3 0)
  have ey187 := cond_f ey187 hy187
  refine oO J hy187 J (oO J hy187 J (oD (stp_pick_f J hy187 J) J ?_))
  obtain rfl := sI ey187
  exact ow_nil (jy 3 0)
 refine ow_nil (kw_nx (cH J H0 (fun H0 => ?_) (fun H0 => ?_)))
 ·refine cR (ss J (oB11 12 ts37 J (oM J (oM J (oC11 1 ts37 J J (oS J (oS J (sn J (cw_ret ?_)))))))))
  obtain rfl := sI H0
  exact kr results18 (.cons (.cellN (us := [_, _, _, _, _, _, _, _, _, _, _]) ts37 J (Cells.box (id := 1) J 11 J)) (.cons (.tmp J) (.cons (.tmp J) (rT J)))) [75, 76, 77, 78, 11] (sl J o170 (sl J o174 (sl J o178 (sl J o182 (sl (by simp) o186 ⟨J, J⟩)))))
 refine ks (oB11 12 ts37 J (oM J (oM J (oC11 1 ts37 J J (oS J (oS J (sn J (cw_ret ?_))))))))
 obtain rfl := sI H0
 exact kr results18 (.cons (.cellN (us := [_, _, _, _, _, _, _, _, _, _, _]) ts37 J (Cells.box (id := 1) J 11 J)) (.cons (.tmp J) (.cons (.tmp J) (rT J)))) [75, 76, 77, 78, 11] (sl J o170 (sl J o174 (sl J o178 (sl J o182 (sl (by simp) o186 ⟨J, J⟩)))))
end Go.Proofs.YtbfbfkpcabkchaaGreatDoor
