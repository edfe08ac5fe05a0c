/- The walks: functions of the program return what their pure functions say. Printed by a program (gen.py). -/
import Derived.Test.YtbfbfkpcabkchaaGreatDoorVp
import Derived.Test.YtbfbfkpcabkchaaGreatDoorVt
import Derived.Test.YtbfbfkpcabkchaaGreatDoorMan
import Derived.Test.YtbfbfkpcabkchaaGreatDoorMap
import Derived.Test.YtbfbfkpcabkchaaGreatDoorCpy
import Derived.Test.YtbfbfkpcabkchaaGreatDoorVe
set_option linter.unusedSimpArgs false
set_option linter.unusedVariables false
set_option linter.unusedSectionVars false
namespace Go.Proofs.YtbfbfkpcabkchaaGreatDoor
open Go.RowKit
open Tryz
set_option maxHeartbeats 4000000
set_option maxRecDepth 20000
variable {p0_0 p0_1 p0_2 p0_3 p0_4 p1_0 p1_1 p1_2 p1_3 p1_4 : Option Addr} {n0_0 n0_1 n0_2 n0_3 n0_4 n1_0 n1_1 n1_2 n1_3 n1_4 : Nat} {c0_0 c0_1 c0_2 c0_3 c0_4 c1_0 c1_1 c1_2 c1_3 c1_4 : Nat}
theorem c_slices_Equal_Int (fl : Nat) (w : World) (a0 : (List Int)) (a1 : (List Int)) (hn0_0 : n0_0 = (a0).length) (hr0_0 : RO w [] (RdL p0_0 c0_0 a0)) (hn1_0 : n1_0 = (a1).length) (hr1_0 : RO w [] (RdL p1_0 c1_0 a1)) (r : Bool) (H0 : slices_Equal_Int fl a0 a1 = some r) :
  Ct prog 103 [.slice p0_0 n0_0 c0_0, .slice p1_0 n1_0 c1_0] w [] (fun rv h' => rv = .bool r ∧ h' = []) := by
 subst hn0_0 hn1_0
 unfold slices_Equal_Int at H0
 refine ct_of_cw func103 J ntmps103 J (Sat.refl _ _) ?_
 refine sr (sq J (oM J (oD (stp_len u23 J) J (oM J (oD (stp_len u23 J) J (oU J (nn (cH J H0 (fun H0 => ?_) (fun H0 => ?_)))))))))
 ·refine sr (sr1 J (kR ?_))
  obtain rfl := sI H0
  exact kr results103 (rT J) [] ⟨J, J⟩
 obtain ⟨o0_0, eo0_0, H0⟩ := bS H0
 refine kq (sr (oM J (oD (stp_len u23 J) J (oM J (nn (lp (fun f a => slices_Equal_Int_L0 fl a0 a1 f a = some o0_0) (fun a => o0_0 = .out a) (fun R s h => ∃ v2, R v2 ∧ s = [(0, .slice p0_0 ((a0).length) c0_0), (1, .slice p1_0 ((a1).length) c1_0), (12, I ((a0).length : Int)), (13, I v2)] ∧ h = []) ⟨_, eo0_0, J, J⟩ ?_ ?_))))))
 ·rintro fuel _ _ ⟨v2, H1, rfl, rfl⟩
  rcases fuel with _ | fuel
  ·rw [slices_Equal_Int_L0.eq_1] at H1; cases H1
  rw [slices_Equal_Int_L0.eq_2] at H1
  refine sr (oW J (nn (cq (cH J H1 (fun H1 => ?_) (fun H1 => ?_)))))
  ·obtain ⟨x4, e4, H1⟩ := bS H1
   refine kq (cw_block (sr (oM J (sn J (cq (rdt g_mixed (rn 0 9) ⟨[], [], []⟩ (dM J (dM J (dD J (stp_indexAddr u23 ts3 (by decide) J J J (Rdb.ro hr0_0) e4) (dD J (stp_load1 ts3 J (Cells.el (Rdb.ro hr0_0) (by decide) e4 0 1 J)) ?_))))))))))
   obtain ⟨x5, e5, H1⟩ := bS H1
   refine dM J (dM J (dD J (stp_indexAddr u23 ts3 (by decide) J J J (Rdb.ro hr1_0) e5) (dD J (stp_load1 ts3 J (Cells.el (Rdb.ro hr1_0) (by decide) e5 0 1 J)) (dNe J (dn (kw_nx (cH J H1 (fun H1 => ?_) (fun H1 => ?_))))))))
   ·refine sr (sr1 J (kw_bl_ret (kR (ar (kw_bl_ret (xr (kR ?_)))))))
    obtain rfl := sI H1
    obtain rfl := sI H0
    exact kr results103 (rT J) [] ⟨J, J⟩
   obtain ⟨x7, e7, H1⟩ := bS H1
   exact cw_skip (kb (cR (oP e7 J (oM J (ow_nil (ka ⟨_, H1, J, J⟩))))))
  refine cw_exit (kw_nx_exit (ax (kw_bl ?_)))
  obtain rfl := sI H1
  exact kx ⟨_, J, J, J⟩
 rintro _ _ ⟨v2, rfl, rfl, rfl⟩
 refine kw_nx (sr (sn J (cw_ret ?_)))
 obtain rfl := sI H0
 exact kr results103 (rT J) [] ⟨J, J⟩

theorem c_slices_Equal_Frame (fl : Nat) (w : World) (a0 : (List F)) (a1 : (List F)) (hn0_0 : n0_0 = (a0).length) (hr0_0 : RO w [] (RdL p0_0 c0_0 a0)) (hn1_0 : n1_0 = (a1).length) (hr1_0 : RO w [] (RdL p1_0 c1_0 a1)) (r : Bool) (H0 : slices_Equal_Frame fl a0 a1 = some r) :
  Ct prog 104 [.slice p0_0 n0_0 c0_0, .slice p1_0 n1_0 c1_0] w [] (fun rv h' => rv = .bool r ∧ h' = []) := by
 subst hn0_0 hn1_0
 unfold slices_Equal_Frame at H0
 refine ct_of_cw func104 J ntmps104 J (Sat.refl _ _) ?_
 refine sr (sq J (oM J (oD (stp_len u24 J) J (oM J (oD (stp_len u24 J) J (oU J (nn (cH J H0 (fun H0 => ?_) (fun H0 => ?_)))))))))
 ·refine sr (sr1 J (kR ?_))
  obtain rfl := sI H0
  exact kr results104 (rT J) [] ⟨J, J⟩
 obtain ⟨o0_0, eo0_0, H0⟩ := bS H0
 refine kq (sr (oM J (oD (stp_len u24 J) J (oM J (nn (lp (fun f a => slices_Equal_Frame_L0 fl a0 a1 f a = some o0_0) (fun a => o0_0 = .out a) (fun R s h => ∃ v2, R v2 ∧ s = [(0, .slice p0_0 ((a0).length) c0_0), (1, .slice p1_0 ((a1).length) c1_0), (12, I ((a0).length : Int)), (13, I v2)] ∧ h = []) ⟨_, eo0_0, J, J⟩ ?_ ?_))))))
 ·rintro fuel _ _ ⟨v2, H1, rfl, rfl⟩
  rcases fuel with _ | fuel
  ·rw [slices_Equal_Frame_L0.eq_1] at H1; cases H1
  rw [slices_Equal_Frame_L0.eq_2] at H1
  refine sr (oW J (nn (cq (cH J H1 (fun H1 => ?_) (fun H1 => ?_)))))
  ·obtain ⟨x4, e4, H1⟩ := bS H1
   refine kq (cw_block (sr (oM J (sn J (cq (rdt g_mixed (rn 0 9) ⟨[], [], []⟩ (dM J (dM J (dD J (stp_indexAddr u24 ts57 (by decide) J J J (Rdb.ro hr0_0) e4) (dD J (stp_loadN (us := [_, _, _, _, _]) ts57 J (Cells.el (Rdb.ro hr0_0) (by decide) e4 0 5 J)) ?_))))))))))
   obtain ⟨x5, e5, H1⟩ := bS H1
   refine dM J (dM J (dD J (stp_indexAddr u24 ts57 (by decide) J J J (Rdb.ro hr1_0) e5) (dD J (stp_loadN (us := [_, _, _, _, _]) ts57 J (Cells.el (Rdb.ro hr1_0) (by decide) e5 0 5 J)) (dD J (stp_neqS te57 x4 x5 J J) (dn (kw_nx (cH J H1 (fun H1 => ?_) (fun H1 => ?_))))))))
   ·refine sr (sr1 J (kw_bl_ret (kR (ar (kw_bl_ret (xr (kR ?_)))))))
    obtain rfl := sI H1
    obtain rfl := sI H0
    exact kr results104 (rT J) [] ⟨J, J⟩
   obtain ⟨x7, e7, H1⟩ := bS H1
   exact cw_skip (kb (cR (oP e7 J (oM J (ow_nil (ka ⟨_, H1, J, J⟩))))))
  refine cw_exit (kw_nx_exit (ax (kw_bl ?_)))
  obtain rfl := sI H1
  exact kx ⟨_, J, J, J⟩
 rintro _ _ ⟨v2, rfl, rfl, rfl⟩
 refine kw_nx (sr (sn J (cw_ret ?_)))
 obtain rfl := sI H0
 exact kr results104 (rT J) [] ⟨J, J⟩

theorem c_i_TableSame (fl : Nat) (w : World) (a0 : T) (a1 : T) (hn0_0 : n0_0 = (a0.b).length) (hr0_0 : RO w [] (RdL p0_0 c0_0 a0.b)) (hn0_1 : n0_1 = (a0.f).length) (hr0_1 : RO w [] (RdL p0_1 c0_1 a0.f)) (hn1_0 : n1_0 = (a1.b).length) (hr1_0 : RO w [] (RdL p1_0 c1_0 a1.b)) (hn1_1 : n1_1 = (a1.f).length) (hr1_1 : RO w [] (RdL p1_1 c1_1 a1.f)) (r : Bool) (H0 : i_TableSame fl a0 a1 = some r) :
  Ct prog 57 [.agg #[.slice p0_0 n0_0 c0_0, .slice p0_1 n0_1 c0_1], .agg #[.slice p1_0 n1_0 c1_0, .slice p1_1 n1_1 c1_1]] w [] (fun rv h' => rv = .bool r ∧ h' = []) := by
 subst hn0_0 hn0_1 hn1_0 hn1_1
 unfold i_TableSame at H0
 refine ct_of_cw func57 J ntmps57 J (Sat.refl _ _) ?_
 refine sr (oE (stpU_box 0 J J) J ?_)
 rintro _ _ ⟨b1, rfl, rfl⟩
 refine oE (stpU_box 1 J J) J ?_
 rintro _ _ ⟨b2, rfl, rfl⟩
 obtain ⟨x3, e3, H0⟩ := bS H0
 refine ss J (oAL 0 u26 J ts23 J 0 J (oAL 0 u26 J ts23 J 1 J (oE (uC 2 cf103 (fun w hw => c_slices_Equal_Int fl w a0.b a1.b J (rp hr0_0 hw) J (rp hr1_0 hw) x3 e3) (yB J J)) J ?_)))
 rintro _ _ ⟨_, ⟨rfl, rfl⟩, rfl⟩
 obtain ⟨y4, ey4, H0⟩ := bS H0
 refine oM J (ow_cutY 6 16 y4 ?_ ?_)
 ·rcases Bool.eq_false_or_eq_true x3 with hy4 | hy4
  ·have ey4 := cond_t ey4 hy4
   obtain ⟨x5, e5, ey4⟩ := bS ey4
   refine oG J hy4 (fA 1 u26 J ts24 J J J) J (oG J hy4 (lB 0 ts24 J J J) J (oG J hy4 (fA 1 u26 J ts24 J J J) J (oG J hy4 (lB 1 ts24 J J J) J (ow_eff (.some J hy4) (uC 2 cf104 (fun w hw => c_slices_Equal_Frame fl w a0.f a1.f J (rp hr0_1 hw) J (rp hr1_1 hw) x5 e5) (yB J J)) J ?_))))
   rintro _ _ ⟨_, ⟨rfl, rfl⟩, rfl⟩
   refine oD (stp_pick_t J hy4 J) J ?_
   obtain rfl := sI ey4
   exact ow_nil (jy 6 0)
  have ey4 := cond_f ey4 hy4
  refine oO J hy4 J (oO J hy4 J (oO J hy4 J (oO J hy4 J (oO J hy4 J (oD (stp_pick_f J hy4 J) J ?_)))))
  obtain rfl := sI ey4
  exact ow_nil (jy 6 0)
 refine sn J (cw_ret ?_)
 obtain rfl := sI H0
 exact kr results57 (rT J) [] ⟨J, J⟩

theorem c_slices_Equal_Line (fl : Nat) (w : World) (a0 : (List Ln)) (a1 : (List Ln)) (hn0_0 : n0_0 = (a0).length) (hr0_0 : RO w [] (RdL p0_0 c0_0 a0)) (hn1_0 : n1_0 = (a1).length) (hr1_0 : RO w [] (RdL p1_0 c1_0 a1)) (r : Bool) (H0 : slices_Equal_Line fl a0 a1 = some r) :
  Ct prog 105 [.slice p0_0 n0_0 c0_0, .slice p1_0 n1_0 c1_0] w [] (fun rv h' => rv = .bool r ∧ h' = []) := by
 subst hn0_0 hn1_0
 unfold slices_Equal_Line at H0
 refine ct_of_cw func105 J ntmps105 J (Sat.refl _ _) ?_
 refine sr (sq J (oM J (oD (stp_len u27 J) J (oM J (oD (stp_len u27 J) J (oU J (nn (cH J H0 (fun H0 => ?_) (fun H0 => ?_)))))))))
 ·refine sr (sr1 J (kR ?_))
  obtain rfl := sI H0
  exact kr results105 (rT J) [] ⟨J, J⟩
 obtain ⟨o0_0, eo0_0, H0⟩ := bS H0
 refine kq (sr (oM J (oD (stp_len u27 J) J (oM J (nn (lp (fun f a => slices_Equal_Line_L0 fl a0 a1 f a = some o0_0) (fun a => o0_0 = .out a) (fun R s h => ∃ v2, R v2 ∧ s = [(0, .slice p0_0 ((a0).length) c0_0), (1, .slice p1_0 ((a1).length) c1_0), (12, I ((a0).length : Int)), (13, I v2)] ∧ h = []) ⟨_, eo0_0, J, J⟩ ?_ ?_))))))
 ·rintro fuel _ _ ⟨v2, H1, rfl, rfl⟩
  rcases fuel with _ | fuel
  ·rw [slices_Equal_Line_L0.eq_1] at H1; cases H1
  rw [slices_Equal_Line_L0.eq_2] at H1
  refine sr (oW J (nn (cq (cH J H1 (fun H1 => ?_) (fun H1 => ?_)))))
  ·obtain ⟨x4, e4, H1⟩ := bS H1
   refine kq (cw_block (sr (oM J (sn J (cq (rdt g_mixed (rn 0 9) ⟨[], [], []⟩ (dM J (dM J (dD J (stp_indexAddr u27 ts104 (by decide) J J J (Rdb.ro hr0_0) e4) (dD J (stp_loadN (us := [_, _, _, _, _, _]) ts104 J (Cells.el (Rdb.ro hr0_0) (by decide) e4 0 6 J)) ?_))))))))))
   obtain ⟨x5, e5, H1⟩ := bS H1
   refine dM J (dM J (dD J (stp_indexAddr u27 ts104 (by decide) J J J (Rdb.ro hr1_0) e5) (dD J (stp_loadN (us := [_, _, _, _, _, _]) ts104 J (Cells.el (Rdb.ro hr1_0) (by decide) e5 0 6 J)) (dD J (stp_neqS te104 x4 x5 J J) (dn (kw_nx (cH J H1 (fun H1 => ?_) (fun H1 => ?_))))))))
   ·refine sr (sr1 J (kw_bl_ret (kR (ar (kw_bl_ret (xr (kR ?_)))))))
    obtain rfl := sI H1
    obtain rfl := sI H0
    exact kr results105 (rT J) [] ⟨J, J⟩
   obtain ⟨x7, e7, H1⟩ := bS H1
   exact cw_skip (kb (cR (oP e7 J (oM J (ow_nil (ka ⟨_, H1, J, J⟩))))))
  refine cw_exit (kw_nx_exit (ax (kw_bl ?_)))
  obtain rfl := sI H1
  exact kx ⟨_, J, J, J⟩
 rintro _ _ ⟨v2, rfl, rfl, rfl⟩
 refine kw_nx (sr (sn J (cw_ret ?_)))
 obtain rfl := sI H0
 exact kr results105 (rT J) [] ⟨J, J⟩

theorem c_i_CacheSame (fl : Nat) (w : World) (a0 : Ca) (a1 : Ca) (hn0_0 : n0_0 = (a0.l).length) (hr0_0 : RO w [] (RdL p0_0 c0_0 a0.l)) (hn1_0 : n1_0 = (a1.l).length) (hr1_0 : RO w [] (RdL p1_0 c1_0 a1.l)) (r : Bool) (H0 : i_CacheSame fl a0 a1 = some r) :
  Ct prog 58 [.agg #[.slice p0_0 n0_0 c0_0, I a0.h], .agg #[.slice p1_0 n1_0 c1_0, I a1.h]] w [] (fun rv h' => rv = .bool r ∧ h' = []) := by
 subst hn0_0 hn1_0
 unfold i_CacheSame at H0
 refine ct_of_cw func58 J ntmps58 J (Sat.refl _ _) ?_
 refine sr (oE (stpU_box 0 J J) J ?_)
 rintro _ _ ⟨b1, rfl, rfl⟩
 refine oE (stpU_box 1 J J) J ?_
 rintro _ _ ⟨b2, rfl, rfl⟩
 obtain ⟨y3, ey3, H0⟩ := bS H0
 refine ss J (oAL 1 u29 J ts3 J 0 J (oAL 1 u29 J ts3 J 1 J (oQ J (oM J (ow_cutY 6 16 y3 ?_ ?_)))))
 ·rcases Bool.eq_false_or_eq_true (a0.h == a1.h) with hy3 | hy3
  ·have ey3 := cond_t ey3 hy3
   obtain ⟨x4, e4, ey3⟩ := bS ey3
   refine oG J hy3 (fA 0 u29 J ts27 J J J) J (oG J hy3 (lB 0 ts27 J J J) J (oG J hy3 (fA 0 u29 J ts27 J J J) J (oG J hy3 (lB 1 ts27 J J J) J (ow_eff (.some J hy3) (uC 2 cf105 (fun w hw => c_slices_Equal_Line fl w a0.l a1.l J (rp hr0_0 hw) J (rp hr1_0 hw) x4 e4) (yB J J)) J ?_))))
   rintro _ _ ⟨_, ⟨rfl, rfl⟩, rfl⟩
   refine oD (stp_pick_t J hy3 J) J ?_
   obtain rfl := sI ey3
   exact ow_nil (jy 6 0)
  have ey3 := cond_f ey3 hy3
  refine oO J hy3 J (oO J hy3 J (oO J hy3 J (oO J hy3 J (oO J hy3 J (oD (stp_pick_f J hy3 J) J ?_)))))
  obtain rfl := sI ey3
  exact ow_nil (jy 6 0)
 refine sn J (cw_ret ?_)
 obtain rfl := sI H0
 exact kr results58 (rT J) [] ⟨J, J⟩

theorem c_slices_Equal_Own (fl : Nat) (w : World) (a0 : (List Ow)) (a1 : (List Ow)) (hn0_0 : n0_0 = (a0).length) (hr0_0 : RO w [] (RdL p0_0 c0_0 a0)) (hn1_0 : n1_0 = (a1).length) (hr1_0 : RO w [] (RdL p1_0 c1_0 a1)) (r : Bool) (H0 : slices_Equal_Own fl a0 a1 = some r) :
  Ct prog 30 [.slice p0_0 n0_0 c0_0, .slice p1_0 n1_0 c1_0] w [] (fun rv h' => rv = .bool r ∧ h' = []) := by
 subst hn0_0 hn1_0
 unfold slices_Equal_Own at H0
 refine ct_of_cw func30 J ntmps30 J (Sat.refl _ _) ?_
 refine sr (sq J (oM J (oD (stp_len u30 J) J (oM J (oD (stp_len u30 J) J (oU J (nn (cH J H0 (fun H0 => ?_) (fun H0 => ?_)))))))))
 ·refine sr (sr1 J (kR ?_))
  obtain rfl := sI H0
  exact kr results30 (rT J) [] ⟨J, J⟩
 obtain ⟨o0_0, eo0_0, H0⟩ := bS H0
 refine kq (sr (oM J (oD (stp_len u30 J) J (oM J (nn (lp (fun f a => slices_Equal_Own_L0 fl a0 a1 f a = some o0_0) (fun a => o0_0 = .out a) (fun R s h => ∃ v2, R v2 ∧ s = [(0, .slice p0_0 ((a0).length) c0_0), (1, .slice p1_0 ((a1).length) c1_0), (12, I ((a0).length : Int)), (13, I v2)] ∧ h = []) ⟨_, eo0_0, J, J⟩ ?_ ?_))))))
 ·rintro fuel _ _ ⟨v2, H1, rfl, rfl⟩
  rcases fuel with _ | fuel
  ·rw [slices_Equal_Own_L0.eq_1] at H1; cases H1
  rw [slices_Equal_Own_L0.eq_2] at H1
  refine sr (oW J (nn (cq (cH J H1 (fun H1 => ?_) (fun H1 => ?_)))))
  ·obtain ⟨x4, e4, H1⟩ := bS H1
   refine kq (cw_block (sr (oM J (sn J (cq (rdt g_mixed (rn 0 9) ⟨[], [], []⟩ (dM J (dM J (dD J (stp_indexAddr u30 ts70 (by decide) J J J (Rdb.ro hr0_0) e4) (dD J (stp_loadN (us := [_, _]) ts70 J (Cells.el (Rdb.ro hr0_0) (by decide) e4 0 2 J)) ?_))))))))))
   obtain ⟨x5, e5, H1⟩ := bS H1
   refine dM J (dM J (dD J (stp_indexAddr u30 ts70 (by decide) J J J (Rdb.ro hr1_0) e5) (dD J (stp_loadN (us := [_, _]) ts70 J (Cells.el (Rdb.ro hr1_0) (by decide) e5 0 2 J)) (dD J (stp_neqS te70 x4 x5 J J) (dn (kw_nx (cH J H1 (fun H1 => ?_) (fun H1 => ?_))))))))
   ·refine sr (sr1 J (kw_bl_ret (kR (ar (kw_bl_ret (xr (kR ?_)))))))
    obtain rfl := sI H1
    obtain rfl := sI H0
    exact kr results30 (rT J) [] ⟨J, J⟩
   obtain ⟨x7, e7, H1⟩ := bS H1
   exact cw_skip (kb (cR (oP e7 J (oM J (ow_nil (ka ⟨_, H1, J, J⟩))))))
  refine cw_exit (kw_nx_exit (ax (kw_bl ?_)))
  obtain rfl := sI H1
  exact kx ⟨_, J, J, J⟩
 rintro _ _ ⟨v2, rfl, rfl, rfl⟩
 refine kw_nx (sr (sn J (cw_ret ?_)))
 obtain rfl := sI H0
 exact kr results30 (rT J) [] ⟨J, J⟩

theorem c_i_TagsSame (fl : Nat) (w : World) (a0 : Tg) (a1 : Tg) (hn0_0 : n0_0 = (a0.o).length) (hr0_0 : RO w [] (RdL p0_0 c0_0 a0.o)) (hn1_0 : n1_0 = (a1.o).length) (hr1_0 : RO w [] (RdL p1_0 c1_0 a1.o)) (r : Bool) (H0 : i_TagsSame fl a0 a1 = some r) :
  Ct prog 13 [.agg #[I a0.c, I a0.n, I a0.r, .slice p0_0 n0_0 c0_0], .agg #[I a1.c, I a1.n, I a1.r, .slice p1_0 n1_0 c1_0]] w [] (fun rv h' => rv = .bool r ∧ h' = []) := by
 subst hn0_0 hn1_0
 unfold i_TagsSame at H0
 refine ct_of_cw func13 J ntmps13 J (Sat.refl _ _) ?_
 refine sr (oE (stpU_box 0 J J) J ?_)
 rintro _ _ ⟨b1, rfl, rfl⟩
 refine oE (stpU_box 1 J J) J ?_
 rintro _ _ ⟨b2, rfl, rfl⟩
 obtain ⟨y3, ey3, H0⟩ := bS H0
 refine ss J (oAL 0 u32 J ts3 J 0 J (oAL 0 u32 J ts3 J 1 J (oQ J (oM J (ow_cutY 6 16 y3 ?_ ?_)))))
 ·rcases Bool.eq_false_or_eq_true (a0.c == a1.c) with hy3 | hy3
  ·have ey3 := cond_t ey3 hy3
   refine oG J hy3 (fA 1 u32 J ts3 J J J) J (oG J hy3 (lB 0 ts3 J J J) J (oG J hy3 (fA 1 u32 J ts3 J J J) J (oG J hy3 (lB 1 ts3 J J J) J (oG J hy3 (stp_eql J J) J (oD (stp_pick_t J hy3 J) J ?_)))))
   obtain rfl := sI ey3
   exact ow_nil (jy 6 0)
  have ey3 := cond_f ey3 hy3
  refine oO J hy3 J (oO J hy3 J (oO J hy3 J (oO J hy3 J (oO J hy3 J (oD (stp_pick_f J hy3 J) J ?_)))))
  obtain rfl := sI ey3
  exact ow_nil (jy 6 0)
 obtain ⟨y4, ey4, H0⟩ := bS H0
 refine oM J (ow_cutY 6 23 y4 ?_ ?_)
 ·rcases Bool.eq_false_or_eq_true y3 with hy4 | hy4
  ·have ey4 := cond_t ey4 hy4
   refine oG J hy4 (fA 2 u32 J ts3 J J J) J (oG J hy4 (lB 0 ts3 J J J) J (oG J hy4 (fA 2 u32 J ts3 J J J) J (oG J hy4 (lB 1 ts3 J J J) J (oG J hy4 (stp_eql J J) J (oD (stp_pick_t J hy4 J) J ?_)))))
   obtain rfl := sI ey4
   exact ow_nil (jy 6 0)
  have ey4 := cond_f ey4 hy4
  refine oO J hy4 J (oO J hy4 J (oO J hy4 J (oO J hy4 J (oO J hy4 J (oD (stp_pick_f J hy4 J) J ?_)))))
  obtain rfl := sI ey4
  exact ow_nil (jy 6 0)
 obtain ⟨y5, ey5, H0⟩ := bS H0
 refine oM J (ow_cutY 6 30 y5 ?_ ?_)
 ·rcases Bool.eq_false_or_eq_true y4 with hy5 | hy5
  ·have ey5 := cond_t ey5 hy5
   obtain ⟨x6, e6, ey5⟩ := bS ey5
   refine oG J hy5 (fA 3 u32 J ts30 J J J) J (oG J hy5 (lB 0 ts30 J J J) J (oG J hy5 (fA 3 u32 J ts30 J J J) J (oG J hy5 (lB 1 ts30 J J J) J (ow_eff (.some J hy5) (uC 2 cf30 (fun w hw => c_slices_Equal_Own fl w a0.o a1.o J (rp hr0_0 hw) J (rp hr1_0 hw) x6 e6) (yB J J)) J ?_))))
   rintro _ _ ⟨_, ⟨rfl, rfl⟩, rfl⟩
   refine oD (stp_pick_t J hy5 J) J ?_
   obtain rfl := sI ey5
   exact ow_nil (jy 6 0)
  have ey5 := cond_f ey5 hy5
  refine oO J hy5 J (oO J hy5 J (oO J hy5 J (oO J hy5 J (oO J hy5 J (oD (stp_pick_f J hy5 J) J ?_)))))
  obtain rfl := sI ey5
  exact ow_nil (jy 6 0)
 refine sn J (cw_ret ?_)
 obtain rfl := sI H0
 exact kr results13 (rT J) [] ⟨J, J⟩

theorem c_i_MachineSame (fl : Nat) (w : World) (a0 : Mc) (a1 : Mc) (hn0_0 : n0_0 = (a0.t.b).length) (hr0_0 : RO w [] (RdL p0_0 c0_0 a0.t.b)) (hn0_1 : n0_1 = (a0.t.f).length) (hr0_1 : RO w [] (RdL p0_1 c0_1 a0.t.f)) (hn0_2 : n0_2 = (a0.c.l).length) (hr0_2 : RO w [] (RdL p0_2 c0_2 a0.c.l)) (hn0_3 : n0_3 = (a0.g.o).length) (hr0_3 : RO w [] (RdL p0_3 c0_3 a0.g.o)) (hn1_0 : n1_0 = (a1.t.b).length) (hr1_0 : RO w [] (RdL p1_0 c1_0 a1.t.b)) (hn1_1 : n1_1 = (a1.t.f).length) (hr1_1 : RO w [] (RdL p1_1 c1_1 a1.t.f)) (hn1_2 : n1_2 = (a1.c.l).length) (hr1_2 : RO w [] (RdL p1_2 c1_2 a1.c.l)) (hn1_3 : n1_3 = (a1.g.o).length) (hr1_3 : RO w [] (RdL p1_3 c1_3 a1.g.o)) (r : Bool) (H0 : i_MachineSame fl a0 a1 = some r) :
  Ct prog 28 [.agg #[.slice p0_0 n0_0 c0_0, .slice p0_1 n0_1 c0_1, .slice p0_2 n0_2 c0_2, I a0.c.h, I a0.g.c, I a0.g.n, I a0.g.r, .slice p0_3 n0_3 c0_3, I a0.s], .agg #[.slice p1_0 n1_0 c1_0, .slice p1_1 n1_1 c1_1, .slice p1_2 n1_2 c1_2, I a1.c.h, I a1.g.c, I a1.g.n, I a1.g.r, .slice p1_3 n1_3 c1_3, I a1.s]] w [] (fun rv h' => rv = .bool r ∧ h' = []) := by
 subst hn0_0 hn0_1 hn0_2 hn0_3 hn1_0 hn1_1 hn1_2 hn1_3
 unfold i_MachineSame at H0
 refine ct_of_cw func28 J ntmps28 J (Sat.refl _ _) ?_
 refine sr (oE (stpU_box 0 J J) J ?_)
 rintro _ _ ⟨b1, rfl, rfl⟩
 refine oE (stpU_box 1 J J) J ?_
 rintro _ _ ⟨b2, rfl, rfl⟩
 obtain ⟨x3, e3, H0⟩ := bS H0
 refine ss J (oA 0 u34 J ts26 J (oB2 0 ts26 J (oA 0 u34 J ts26 J (oB2 1 ts26 J (oE (uC 2 cf57 (fun w hw => c_i_TableSame fl w a0.t a1.t J (rp hr0_0 hw) J (rp hr0_1 hw) J (rp hr1_0 hw) J (rp hr1_1 hw) x3 e3) (yB J J)) J ?_)))))
 rintro _ _ ⟨_, ⟨rfl, rfl⟩, rfl⟩
 obtain ⟨y4, ey4, H0⟩ := bS H0
 refine oM J (ow_cutY 6 16 y4 ?_ ?_)
 ·rcases Bool.eq_false_or_eq_true x3 with hy4 | hy4
  ·have ey4 := cond_t ey4 hy4
   obtain ⟨x5, e5, ey4⟩ := bS ey4
   refine oG J hy4 (fA 2 u34 J ts29 J J J) J (oG J hy4 (stp_loadN (us := [_, _]) ts29 J (Cells.box (id := 0) J 2 J)) J (oG J hy4 (fA 2 u34 J ts29 J J J) J (oG J hy4 (stp_loadN (us := [_, _]) ts29 J (Cells.box (id := 1) J 2 J)) J (ow_eff (.some J hy4) (uC 2 cf58 (fun w hw => c_i_CacheSame fl w a0.c a1.c J (rp hr0_2 hw) J (rp hr1_2 hw) x5 e5) (yB J J)) J ?_))))
   rintro _ _ ⟨_, ⟨rfl, rfl⟩, rfl⟩
   refine oD (stp_pick_t J hy4 J) J ?_
   obtain rfl := sI ey4
   exact ow_nil (jy 6 0)
  have ey4 := cond_f ey4 hy4
  refine oO J hy4 J (oO J hy4 J (oO J hy4 J (oO J hy4 J (oO J hy4 J (oD (stp_pick_f J hy4 J) J ?_)))))
  obtain rfl := sI ey4
  exact ow_nil (jy 6 0)
 obtain ⟨y6, ey6, H0⟩ := bS H0
 refine oM J (ow_cutY 6 23 y6 ?_ ?_)
 ·rcases Bool.eq_false_or_eq_true y4 with hy6 | hy6
  ·have ey6 := cond_t ey6 hy6
   obtain ⟨x7, e7, ey6⟩ := bS ey6
   refine oG J hy6 (fA 4 u34 J ts32 J J J) J (oG J hy6 (stp_loadN (us := [_, _, _, _]) ts32 J (Cells.box (id := 0) J 4 J)) J (oG J hy6 (fA 4 u34 J ts32 J J J) J (oG J hy6 (stp_loadN (us := [_, _, _, _]) ts32 J (Cells.box (id := 1) J 4 J)) J (ow_eff (.some J hy6) (uC 2 cf13 (fun w hw => c_i_TagsSame fl w a0.g a1.g J (rp hr0_3 hw) J (rp hr1_3 hw) x7 e7) (yB J J)) J ?_))))
   rintro _ _ ⟨_, ⟨rfl, rfl⟩, rfl⟩
   refine oD (stp_pick_t J hy6 J) J ?_
   obtain rfl := sI ey6
   exact ow_nil (jy 6 0)
  have ey6 := cond_f ey6 hy6
  refine oO J hy6 J (oO J hy6 J (oO J hy6 J (oO J hy6 J (oO J hy6 J (oD (stp_pick_f J hy6 J) J ?_)))))
  obtain rfl := sI ey6
  exact ow_nil (jy 6 0)
 obtain ⟨y8, ey8, H0⟩ := bS H0
 refine oM J (ow_cutY 6 30 y8 ?_ ?_)
 ·rcases Bool.eq_false_or_eq_true y6 with hy8 | hy8
  ·have ey8 := cond_t ey8 hy8
   refine oG J hy8 (fA 8 u34 J ts3 J J J) J (oG J hy8 (lB 0 ts3 J J J) J (oG J hy8 (fA 8 u34 J ts3 J J J) J (oG J hy8 (lB 1 ts3 J J J) J (oG J hy8 (stp_eql J J) J (oD (stp_pick_t J hy8 J) J ?_)))))
   obtain rfl := sI ey8
   exact ow_nil (jy 6 0)
  have ey8 := cond_f ey8 hy8
  refine oO J hy8 J (oO J hy8 J (oO J hy8 J (oO J hy8 J (oO J hy8 J (oD (stp_pick_f J hy8 J) J ?_)))))
  obtain rfl := sI ey8
  exact ow_nil (jy 6 0)
 refine sn J (cw_ret ?_)
 obtain rfl := sI H0
 exact kr results28 (rT J) [] ⟨J, J⟩

theorem c_slices_Equal_Bool (fl : Nat) (w : World) (a0 : (List Bool)) (a1 : (List Bool)) (hn0_0 : n0_0 = (a0).length) (hr0_0 : RO w [] (RdL p0_0 c0_0 a0)) (hn1_0 : n1_0 = (a1).length) (hr1_0 : RO w [] (RdL p1_0 c1_0 a1)) (r : Bool) (H0 : slices_Equal_Bool fl a0 a1 = some r) :
  Ct prog 29 [.slice p0_0 n0_0 c0_0, .slice p1_0 n1_0 c1_0] w [] (fun rv h' => rv = .bool r ∧ h' = []) := by
 subst hn0_0 hn1_0
 unfold slices_Equal_Bool at H0
 refine ct_of_cw func29 J ntmps29 J (Sat.refl _ _) ?_
 refine sr (sq J (oM J (oD (stp_len u35 J) J (oM J (oD (stp_len u35 J) J (oU J (nn (cH J H0 (fun H0 => ?_) (fun H0 => ?_)))))))))
 ·refine sr (sr1 J (kR ?_))
  obtain rfl := sI H0
  exact kr results29 (rT J) [] ⟨J, J⟩
 obtain ⟨o0_0, eo0_0, H0⟩ := bS H0
 refine kq (sr (oM J (oD (stp_len u35 J) J (oM J (nn (lp (fun f a => slices_Equal_Bool_L0 fl a0 a1 f a = some o0_0) (fun a => o0_0 = .out a) (fun R s h => ∃ v2, R v2 ∧ s = [(0, .slice p0_0 ((a0).length) c0_0), (1, .slice p1_0 ((a1).length) c1_0), (12, I ((a0).length : Int)), (13, I v2)] ∧ h = []) ⟨_, eo0_0, J, J⟩ ?_ ?_))))))
 ·rintro fuel _ _ ⟨v2, H1, rfl, rfl⟩
  rcases fuel with _ | fuel
  ·rw [slices_Equal_Bool_L0.eq_1] at H1; cases H1
  rw [slices_Equal_Bool_L0.eq_2] at H1
  refine sr (oW J (nn (cq (cH J H1 (fun H1 => ?_) (fun H1 => ?_)))))
  ·obtain ⟨x4, e4, H1⟩ := bS H1
   refine kq (cw_block (sr (oM J (sn J (cq (rdt g_mixed (rn 0 9) ⟨[], [], []⟩ (dM J (dM J (dD J (stp_indexAddr u35 ts4 (by decide) J J J (Rdb.ro hr0_0) e4) (dD J (stp_load1 ts4 J (Cells.el (Rdb.ro hr0_0) (by decide) e4 0 1 J)) ?_))))))))))
   obtain ⟨x5, e5, H1⟩ := bS H1
   refine dM J (dM J (dD J (stp_indexAddr u35 ts4 (by decide) J J J (Rdb.ro hr1_0) e5) (dD J (stp_load1 ts4 J (Cells.el (Rdb.ro hr1_0) (by decide) e5 0 1 J)) (dD J (stp_neqB u4 J J) (dn (kw_nx (cH J H1 (fun H1 => ?_) (fun H1 => ?_))))))))
   ·refine sr (sr1 J (kw_bl_ret (kR (ar (kw_bl_ret (xr (kR ?_)))))))
    obtain rfl := sI H1
    obtain rfl := sI H0
    exact kr results29 (rT J) [] ⟨J, J⟩
   obtain ⟨x7, e7, H1⟩ := bS H1
   exact cw_skip (kb (cR (oP e7 J (oM J (ow_nil (ka ⟨_, H1, J, J⟩))))))
  refine cw_exit (kw_nx_exit (ax (kw_bl ?_)))
  obtain rfl := sI H1
  exact kx ⟨_, J, J, J⟩
 rintro _ _ ⟨v2, rfl, rfl, rfl⟩
 refine kw_nx (sr (sn J (cw_ret ?_)))
 obtain rfl := sI H0
 exact kr results29 (rT J) [] ⟨J, J⟩

theorem c_i_MemorySame (fl : Nat) (w : World) (a0 : Mm) (a1 : Mm) (hn0_0 : n0_0 = (a0.m.t.b).length) (hr0_0 : RO w [] (RdL p0_0 c0_0 a0.m.t.b)) (hn0_1 : n0_1 = (a0.m.t.f).length) (hr0_1 : RO w [] (RdL p0_1 c0_1 a0.m.t.f)) (hn0_2 : n0_2 = (a0.m.c.l).length) (hr0_2 : RO w [] (RdL p0_2 c0_2 a0.m.c.l)) (hn0_3 : n0_3 = (a0.m.g.o).length) (hr0_3 : RO w [] (RdL p0_3 c0_3 a0.m.g.o)) (hn0_4 : n0_4 = (a0.k).length) (hr0_4 : RO w [] (RdL p0_4 c0_4 a0.k)) (hn1_0 : n1_0 = (a1.m.t.b).length) (hr1_0 : RO w [] (RdL p1_0 c1_0 a1.m.t.b)) (hn1_1 : n1_1 = (a1.m.t.f).length) (hr1_1 : RO w [] (RdL p1_1 c1_1 a1.m.t.f)) (hn1_2 : n1_2 = (a1.m.c.l).length) (hr1_2 : RO w [] (RdL p1_2 c1_2 a1.m.c.l)) (hn1_3 : n1_3 = (a1.m.g.o).length) (hr1_3 : RO w [] (RdL p1_3 c1_3 a1.m.g.o)) (hn1_4 : n1_4 = (a1.k).length) (hr1_4 : RO w [] (RdL p1_4 c1_4 a1.k)) (r : Bool) (H0 : i_MemorySame fl a0 a1 = some r) :
  Ct prog 11 [.agg #[.slice p0_0 n0_0 c0_0, .slice p0_1 n0_1 c0_1, .slice p0_2 n0_2 c0_2, I a0.m.c.h, I a0.m.g.c, I a0.m.g.n, I a0.m.g.r, .slice p0_3 n0_3 c0_3, I a0.m.s, .slice p0_4 n0_4 c0_4, I a0.h], .agg #[.slice p1_0 n1_0 c1_0, .slice p1_1 n1_1 c1_1, .slice p1_2 n1_2 c1_2, I a1.m.c.h, I a1.m.g.c, I a1.m.g.n, I a1.m.g.r, .slice p1_3 n1_3 c1_3, I a1.m.s, .slice p1_4 n1_4 c1_4, I a1.h]] w [] (fun rv h' => rv = .bool r ∧ h' = []) := by
 subst hn0_0 hn0_1 hn0_2 hn0_3 hn0_4 hn1_0 hn1_1 hn1_2 hn1_3 hn1_4
 unfold i_MemorySame at H0
 refine ct_of_cw func11 J ntmps11 J (Sat.refl _ _) ?_
 refine sr (oE (stpU_box 0 J J) J ?_)
 rintro _ _ ⟨b1, rfl, rfl⟩
 refine oE (stpU_box 1 J J) J ?_
 rintro _ _ ⟨b2, rfl, rfl⟩
 obtain ⟨x3, e3, H0⟩ := bS H0
 refine ss J (oA 0 u37 J ts34 J (oB9 0 ts34 J (oA 0 u37 J ts34 J (oB9 1 ts34 J (oE (uC 2 cf28 (fun w hw => c_i_MachineSame fl w a0.m a1.m J (rp hr0_0 hw) J (rp hr0_1 hw) J (rp hr0_2 hw) J (rp hr0_3 hw) J (rp hr1_0 hw) J (rp hr1_1 hw) J (rp hr1_2 hw) J (rp hr1_3 hw) x3 e3) (yB J J)) J ?_)))))
 rintro _ _ ⟨_, ⟨rfl, rfl⟩, rfl⟩
 obtain ⟨y4, ey4, H0⟩ := bS H0
 refine oM J (ow_cutY 6 16 y4 ?_ ?_)
 ·rcases Bool.eq_false_or_eq_true x3 with hy4 | hy4
  ·have ey4 := cond_t ey4 hy4
   obtain ⟨x5, e5, ey4⟩ := bS ey4
   refine oG J hy4 (fA 9 u37 J ts35 J J J) J (oG J hy4 (lB 0 ts35 J J J) J (oG J hy4 (fA 9 u37 J ts35 J J J) J (oG J hy4 (lB 1 ts35 J J J) J (ow_eff (.some J hy4) (uC 2 cf29 (fun w hw => c_slices_Equal_Bool fl w a0.k a1.k J (rp hr0_4 hw) J (rp hr1_4 hw) x5 e5) (yB J J)) J ?_))))
   rintro _ _ ⟨_, ⟨rfl, rfl⟩, rfl⟩
   refine oD (stp_pick_t J hy4 J) J ?_
   obtain rfl := sI ey4
   exact ow_nil (jy 6 0)
  have ey4 := cond_f ey4 hy4
  refine oO J hy4 J (oO J hy4 J (oO J hy4 J (oO J hy4 J (oO J hy4 J (oD (stp_pick_f J hy4 J) J ?_)))))
  obtain rfl := sI ey4
  exact ow_nil (jy 6 0)
 obtain ⟨y6, ey6, H0⟩ := bS H0
 refine oM J (ow_cutY 6 23 y6 ?_ ?_)
 ·rcases Bool.eq_false_or_eq_true y4 with hy6 | hy6
  ·have ey6 := cond_t ey6 hy6
   refine oG J hy6 (fA 10 u37 J ts3 J J J) J (oG J hy6 (lB 0 ts3 J J J) J (oG J hy6 (fA 10 u37 J ts3 J J J) J (oG J hy6 (lB 1 ts3 J J J) J (oG J hy6 (stp_eql J J) J (oD (stp_pick_t J hy6 J) J ?_)))))
   obtain rfl := sI ey6
   exact ow_nil (jy 6 0)
  have ey6 := cond_f ey6 hy6
  refine oO J hy6 J (oO J hy6 J (oO J hy6 J (oO J hy6 J (oO J hy6 J (oD (stp_pick_f J hy6 J) J ?_)))))
  obtain rfl := sI ey6
  exact ow_nil (jy 6 0)
 refine sn J (cw_ret ?_)
 obtain rfl := sI H0
 exact kr results11 (rT J) [] ⟨J, J⟩
end Go.Proofs.YtbfbfkpcabkchaaGreatDoor
