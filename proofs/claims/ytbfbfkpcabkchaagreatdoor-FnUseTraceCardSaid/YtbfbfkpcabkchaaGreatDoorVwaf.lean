/- The walks: functions of the program return what their pure functions say. Printed by a program (gen.py). -/
import Derived.Test.YtbfbfkpcabkchaaGreatDoorVp
import Derived.Test.YtbfbfkpcabkchaaGreatDoorVt
import Derived.Test.YtbfbfkpcabkchaaGreatDoorMan
import Derived.Test.YtbfbfkpcabkchaaGreatDoorMap
import Derived.Test.YtbfbfkpcabkchaaGreatDoorCpy
import Derived.Test.YtbfbfkpcabkchaaGreatDoorVe
import Derived.Test.YtbfbfkpcabkchaaGreatDoorVwab
import Derived.Test.YtbfbfkpcabkchaaGreatDoorVwac
import Derived.Test.YtbfbfkpcabkchaaGreatDoorVws
set_option linter.unusedSimpArgs false
set_option linter.unusedVariables false
set_option linter.unusedSectionVars false
namespace Go.Proofs.YtbfbfkpcabkchaaGreatDoor
open Go.RowKit
open Tryz
set_option maxHeartbeats 4000000
set_option maxRecDepth 20000
variable {p0_0 p0_1 : Option Addr} {n0_0 n0_1 : Nat} {c0_0 c0_1 : Nat}
theorem c_i_Table_chain (fl : Nat) (w : World) (a0 : T) (a1 : Int) (hn0_0 : n0_0 = (a0.b).length) (hr0_0 : RO w [] (RdL p0_0 c0_0 a0.b)) (hn0_1 : n0_1 = (a0.f).length) (hr0_1 : RO w [] (RdL p0_1 c0_1 a0.f)) (r : (List Int)) (H0 : i_Table_chain fl a0 a1 = some r) :
  Ct prog 35 [.agg #[.slice p0_0 n0_0 c0_0, .slice p0_1 n0_1 c0_1], I a1] w [] (fun rv h' => SL 3 r fun x0 y0 z0 C0 => rv = .slice x0 y0 z0 ∧ h' = [(0, C0)]) := by
 subst hn0_0 hn0_1
 unfold i_Table_chain at H0
 refine ct_of_cw func35 J ntmps35 J (Sat.refl _ _) ?_
 refine sr (oE (stpU_box 0 J J) J ?_)
 rintro _ _ ⟨b1, rfl, rfl⟩
 obtain ⟨x2, e2, H0⟩ := bS H0
 refine ss J (sq J (oAL 0 u26 J ts23 J 0 J (oM J (oD (stp_indexAddr u23 ts3 (by decide) J J J (Rdb.ro hr0_0) e2) J (oD (stp_load1 ts3 J (Cells.el (Rdb.ro hr0_0) (by decide) e2 0 1 J)) J (oS J (nn ?_)))))))
 obtain ⟨o0_0, eo0_0, H0⟩ := bS H0
 refine cw_addNil 1 (lpS (fun f a b => i_Table_chain_L0 fl a0 f a b = some o0_0) (fun a b => o0_0 = .out (a, b)) (fun R s h => ∃ v3 v8 p4 n5 c6 C7, R v3 v8 ∧ s = [(2, .pointer (some ⟨b1, 0, none⟩)), (5, .slice p4 n5 c6), (6, I v8)] ∧ h = [(0, [(b1, .cells #[.slice p0_0 ((a0.b).length) c0_0, .slice p0_1 ((a0.f).length) c0_1] 26 (0, 0))]), (1001, C7)] ∧ n5 = (v3).length ∧ OwnC 3 p4 c6 v3 C7) [0, 1] ⟨_, _, none, 0, 0, [], eo0_0, J, J, J, oN0⟩ ?_ ?_)
 ·rintro fuel _ _ ⟨v3, v8, p4, _, c6, C7, H1, rfl, rfl, rfl, o7⟩
  rcases fuel with _ | fuel
  ·rw [i_Table_chain_L0.eq_1] at H1; cases H1
  rw [i_Table_chain_L0.eq_2] at H1
  refine csr (oM J (oU J (nn (cH J H1 (fun H1 => ?_) (fun H1 => ?_)))))
  ·refine kq (cw_block (cR (oM J (oM J (oE (stpU_lit (sz := 1) (l := [v8]) [I v8] sl23 2 (sP J sE) J J J J J J J J J) J ?_)))))
   rintro _ _ ⟨p10, C11, rfl, rfl, o11⟩
   obtain ⟨x12, e12, H1⟩ := bS H1
   refine oE (stpU_append sl23 J (id := 1001) J J J (by simp) J o7 (Rdb.own (id := 2) J o11) e12) J ?_
   rintro _ _ ⟨p13, c14, C15, rfl, rfl, o15⟩
   obtain ⟨x16, e16, H1⟩ := bS H1
   exact oS J (ow_nil (kb (cR (oAL 1 u26 J ts24 J 0 J (oM J (oD (stp_indexAddr u24 ts57 (by decide) J J J (Rdb.ro hr0_1) e16) J (oA 4 u57 J ts3 J (oD (stp_load1 ts3 J (Cells.el (Rdb.ro hr0_1) (by decide) e16 4 1 J)) J (oS J (ow_nil (ka ⟨_, _, p13, ((x12).length), c14, C15, H1, J, J, J, o15⟩)))))))))))
  refine cw_exit (kw_nx_exit (ax (kw_bl ?_)))
  obtain rfl := sI H1
  exact kx ⟨_, _, p4, ((v3).length), c6, C7, J, J, J, J, o7⟩
 rintro _ _ ⟨v3, v8, p4, _, c6, C7, rfl, rfl, rfl, rfl, o7⟩
 refine kw_nx (sr (oM J (oE (stpU_call (fun i => i) cf64 (fun w hw => c_clip64 w p4 ((v3).length) c6 (OwnC.len o7).1) (yA J)) J ?_)))
 rintro _ _ ⟨_, ⟨rfl, rfl⟩, rfl⟩
 refine sn J (cw_ret ?_)
 obtain rfl := sI H0
 exact kr results35 (rT J) [1001] (sl J (OwnC.clip o7) ⟨J, J⟩)

theorem c_i_FindPage (fl : Nat) (w : World) (a0 : T) (a1 : K) (hn0_0 : n0_0 = (a0.b).length) (hr0_0 : RO w [] (RdL p0_0 c0_0 a0.b)) (hn0_1 : n0_1 = (a0.f).length) (hr0_1 : RO w [] (RdL p0_1 c0_1 a0.f)) (hg : RO w [] (fun w' => w'.rangeAt 0 0 [.bool false, I 0, I 0, I 0, I (-1)])) (r : Int × Int × Bool) (H0 : i_FindPage fl a0 a1 = some r) :
  Ct prog 15 [.agg #[.slice p0_0 n0_0 c0_0, .slice p0_1 n0_1 c0_1], .agg #[I a1.s, I a1.p]] w [] (fun rv h' => rv = .tuple #[I r.1, I r.2.1, .bool r.2.2] ∧ h' = []) := by
 subst hn0_0 hn0_1
 unfold i_FindPage at H0
 refine ct_of_cw func15 J ntmps15 J (Sat.refl _ _) ?_
 refine sr (oE (stpU_box 0 J J) J ?_)
 rintro _ _ ⟨b1, rfl, rfl⟩
 refine oE (stpU_box 1 J J) J ?_
 rintro _ _ ⟨b2, rfl, rfl⟩
 obtain ⟨x3, e3, H0⟩ := bS H0
 refine oS J (oS J (sq J (oB2 0 ts26 J (oE (uC 2 cf33 (fun w hw => c_i_TableValid fl w a0 J (rp hr0_0 hw) J (rp hr0_1 hw) (rp hg hw) x3 e3) (yA J)) J ?_))))
 rintro _ _ ⟨_, ⟨rfl, rfl⟩, rfl⟩
 obtain ⟨y4, ey4, H0⟩ := bS H0
 refine oK J (oM J (ow_cutY 4 17 y4 ?_ ?_))
 ·rcases Bool.eq_false_or_eq_true (!x3) with hy4 | hy4
  ·have ey4 := cond_t ey4 hy4
   refine oO J hy4 J (oO J hy4 J (oO J hy4 J (oD (stp_pick_t J hy4 J) J ?_)))
   obtain rfl := sI ey4
   exact ow_nil (jy 4 0)
  have ey4 := cond_f ey4 hy4
  obtain ⟨x5, e5, ey4⟩ := bS ey4
  refine oG J hy4 (stp_loadN (us := [_, _]) ts50 J (Cells.box (id := 1) J 2 J)) J (ow_eff (.some J hy4) (uC 2 cf34 (fun w hw => c_i_KeyValid fl w a1 x5 e5) (yA J)) J ?_)
  rintro _ _ ⟨_, ⟨rfl, rfl⟩, rfl⟩
  refine oG J hy4 (stp_not J) J (oD (stp_pick_f J hy4 J) J ?_)
  obtain rfl := sI ey4
  exact ow_nil (jy 4 0)
 refine ow_nil (kw_nx (cH J H0 (fun H0 => ?_) (fun H0 => ?_)))
 ·refine sr (oS J (oS J (sr1 J (kR ?_))))
  obtain rfl := sI H0
  exact kr results15 (.cons (.tmp J) (.cons (.tmp J) (rT J))) [] ⟨J, J⟩
 obtain ⟨x7, e7, H0⟩ := bS H0
 obtain ⟨x8, e8, H0⟩ := bS H0
 refine kq (rdt g_mixed (rn 0 8) ⟨[[0],[1],[],[0]], [[],[],[],[],[],[],[2]], [6]⟩ (dB2 0 ts26 J (dB2 1 ts50 J (dA 0 J u26 J ts23 J (dL 0 ts23 J (dD J (stp_len u23 J) (dV J (fun hh => uC 2 cf36 (fun w hw => c_i_hash fl w a1 ((a0.b).length : Int) x7 e7) (yB J J)) J (dE J (fun hh => uC 2 cf35 (fun w hw => c_i_Table_chain fl w a0 x7 J (rp hr0_0 hw) J (rp hr0_1 hw) x8 e8) (yB J J)) ?_))))))))
 rintro _ _ ⟨_, ⟨p9, _, c11, C12, rfl, o12, rfl, rfl⟩, rfl⟩
 obtain ⟨o0_0, eo0_0, H0⟩ := bS H0
 refine dk J (dS J (dn (kw_nx (csr (oM J (oD (stp_len u23 J) J (oM J (nn (lp (fun f a => i_FindPage_L0 fl a0 a1 x8 f a = some o0_0) (fun a => o0_0 = .out a) (fun R s h => ∃ v13, R v13 ∧ s = [(2, .pointer (some ⟨b1, 0, none⟩)), (3, .pointer (some ⟨b2, 0, none⟩)), (7, .slice p9 ((x8).length) c11), (25, .slice p9 ((x8).length) c11), (26, I ((x8).length : Int)), (27, I v13)] ∧ h = [(0, [(b1, .cells #[.slice p0_0 ((a0.b).length) c0_0, .slice p0_1 ((a0.f).length) c0_1] 26 (0, 0))]), (1, [(b2, .cells #[I a1.s, I a1.p] 50 (0, 0))]), (2, C12)]) ⟨_, eo0_0, J, J⟩ ?_ ?_)))))))))
 ·rintro fuel _ _ ⟨v13, H1, rfl, rfl⟩
  rcases fuel with _ | fuel
  ·rw [i_FindPage_L0.eq_1] at H1; cases H1
  rw [i_FindPage_L0.eq_2] at H1
  refine sr (oW J (nn (cq (cH J H1 (fun H1 => ?_) (fun H1 => ?_)))))
  ·obtain ⟨x15, e15, H1⟩ := bS H1
   refine kq (cw_block (sr (oM J (oD (stp_indexAddr u23 ts3 (by decide) J J J (Rdb.own (id := 2) J o12) e15) J (oD (stp_load1 ts3 J (Cells.el (Rdb.own (id := 2) J o12) (by decide) e15 0 1 J)) J (oS J (sn J (cq (rdt g_mixed (rn 0 8) ⟨[[],[0],[],[],[],[],[1]], [], []⟩ (dA 1 J u26 J ts24 J ?_))))))))))
   obtain ⟨x16, e16, H1⟩ := bS H1
   refine dL 0 ts24 J (dM J (dD J (stp_indexAddr u24 ts57 (by decide) J J J (Rdb.ro hr0_1) e16) (dA 1 J u57 J ts50 J (dD J (stp_loadN (us := [_, _]) ts50 J (Cells.el (Rdb.ro hr0_1) (by decide) e16 1 2 J)) (dB2 1 ts50 J (dD J (stp_eqlS te50 x16.k a1 J J) (dn (kw_nx (cH J H1 (fun H1 => ?_) (fun H1 => ?_))))))))))
   ·obtain ⟨x18, e18, H1⟩ := bS H1
    refine sr (oM J (oM J (oP e18 J (oS J (oS J (sr1 J (kw_bl_ret (kR (ar (kw_bl_ret (xr ?_)))))))))))
    refine kR ?_
    obtain rfl := sI H1
    obtain rfl := sI H0
    exact kr results15 (.cons (.tmp J) (.cons (.tmp J) (rT J))) [] ⟨J, J⟩
   obtain ⟨x19, e19, H1⟩ := bS H1
   exact cw_skip (kb (cR (oP e19 J (oM J (ow_nil (ka ⟨_, H1, J, J⟩))))))
  refine cw_exit (kw_nx_exit (ax (kw_bl ?_)))
  obtain rfl := sI H1
  exact kx ⟨_, J, J, J⟩
 rintro _ _ ⟨v13, rfl, rfl, rfl⟩
 refine kw_nx (sr (oM J (oD (stp_len u23 J) J (oS J (oS J (sn J (cw_ret ?_)))))))
 obtain rfl := sI H0
 exact kr results15 (.cons (.tmp J) (.cons (.tmp J) (rT J))) [] ⟨J, J⟩
end Go.Proofs.YtbfbfkpcabkchaaGreatDoor
