/- The walks: functions of the program return what their pure functions say. Printed by a program (gen.py). -/
import Derived.Test.YtfnliecmagnkdabGreatDoorCp
import Derived.Test.YtfnliecmagnkdabGreatDoorCt
import Derived.Test.YtfnliecmagnkdabGreatDoorMan
import Derived.Test.YtfnliecmagnkdabGreatDoorMap
import Derived.Test.YtfnliecmagnkdabGreatDoorCpy
import Derived.Test.YtfnliecmagnkdabGreatDoorClr
import Derived.Test.YtfnliecmagnkdabGreatDoorDp
import Derived.Test.YtfnliecmagnkdabGreatDoorSrt
import Derived.Test.YtfnliecmagnkdabGreatDoorE8
import Derived.Test.YtfnliecmagnkdabGreatDoorCwac
import Derived.Test.YtfnliecmagnkdabGreatDoorCws
set_option linter.unusedSimpArgs false
set_option linter.unusedVariables false
set_option linter.unusedSectionVars false
namespace Go.Proofs.YtfnliecmagnkdabGreatDoor
open Go.RowKit
set_option maxHeartbeats 4000000
set_option maxRecDepth 20000
variable {p0_0 p0_1 p0_2 : Option Addr} {n0_0 n0_1 n0_2 : Nat} {c0_0 c0_1 c0_2 : Nat}
theorem c_s_DrawUnmapSystem (fl : Nat) (w : World) (a0 : (List UInt8)) (hn0_0 : n0_0 = (a0).length) (hr0_0 : RO w (hkeys []) (RdL p0_0 c0_0 a0)) (r : Sy × Int × K) (H0 : s_DrawUnmapSystem fl a0 = some r) :
  Ct Tryz.prog 16 [.slice p0_0 n0_0 c0_0] w [] (fun rv h' => ∃ (x0 : Option Addr) (y0 z0 : Nat) (C0 : Res) (x1 : Option Addr) (y1 z1 : Nat) (C1 : Res) (x2 : Option Addr) (y2 z2 : Nat) (C2 : Res), rv = .tuple #[.agg #[.slice x0 y0 z0, .slice x1 y1 z1, .slice x2 y2 z2], .int .i64 r.2.1, .agg #[.int .i64 r.2.2.s, .int .i64 r.2.2.p]] ∧ h' = [(0, C0), (1, C1), (2, C2)] ∧ y0 = (r.1.t.b).length ∧ OwnC 3 x0 z0 r.1.t.b C0 ∧ y1 = (r.1.t.f).length ∧ OwnC 72 x1 z1 r.1.t.f C1 ∧ y2 = (r.1.c).length ∧ OwnD 37 51 x2 z2 r.1.c C2) := by
 subst hn0_0
 unfold s_DrawUnmapSystem at H0
 refine ct_of_cw Tryz.func16 rfl Tryz.ntmps16 rfl (Sat.refl _ _) ?_
 refine sr (oE (stpU_alloc 0 tz29 rfl) rfl ?_)
 rintro _ _ ⟨b1, rfl, rfl⟩
 refine oS rfl (oE (stpU_alloc 1 tz44 rfl) rfl ?_)
 rintro _ _ ⟨b2, rfl, rfl⟩
 obtain ⟨x3, e3, H0⟩ := bS H0
 refine nn (sr (oM rfl (oE (stpU_call (fun i => 2 + i) cf22 (fun w hw => c_s_l8At fl w a0 rfl (RO.pass hr0_0 hw) x3 e3) (yA rfl)) rfl ?_)))
 rintro _ _ ⟨_, ⟨p4, _, c6, C7, p8, _, c10, C11, p12, _, c14, C15, rfl, rfl, rfl, o7, rfl, o11, rfl, o15⟩, rfl⟩
 refine oT rfl (oT rfl (oT rfl (oC3 0 ts29 rfl rfl (oS rfl (oC2 1 ts44 rfl rfl (nn (cw_ret ?_)))))))
 obtain rfl := sI H0
 exact kr Tryz.results16 (.cons (.cellN (us := [_, _, _]) ts29 rfl (Cells.box (id := 0) rfl 3 rfl)) (.cons (.tmp rfl) (rC2 1 ts44 rfl rfl))) [2, 3, 4] ⟨_, _, _, _, _, _, _, _, _, _, _, _, rfl, rfl, rfl, o7, rfl, o11, rfl, o15⟩

theorem c_i_hash (fl : Nat) (w : World) (a0 : K) (a1 : Int) (r : Int) (H0 : i_hash fl a0 a1 = some r) :
  Ct Tryz.prog 51 [.agg #[.int .i64 a0.s, .int .i64 a0.p], .int .i64 a1] w [] (fun rv h' => rv = .int .i64 r ∧ h' = []) := by
 unfold i_hash at H0
 refine ct_of_cw Tryz.func51 rfl Tryz.ntmps51 rfl (Sat.refl _ _) ?_
 refine sr (oE (stpU_box 0 rfl rfl) rfl ?_)
 rintro _ _ ⟨b1, rfl, rfl⟩
 obtain ⟨x2, e2, H0⟩ := bS H0
 obtain ⟨x3, e3, H0⟩ := bS H0
 obtain ⟨x4, e4, H0⟩ := bS H0
 refine oS rfl (nn (sr (oA 0 Tryz.underlying44 rfl ts3 rfl (oL 0 ts3 rfl (oD (stp_mul rfl rfl e2) rfl (oA 1 Tryz.underlying44 rfl ts3 rfl (oL 0 ts3 rfl (oP e3 rfl (oD (stp_convU Tryz.underlying3 Tryz.underlying106 rfl e4) rfl (oS rfl (nn (sr (oM rfl ?_)))))))))))))
 obtain ⟨x5, e5, H0⟩ := bS H0
 obtain ⟨x6, e6, H0⟩ := bS H0
 obtain ⟨x7, e7, H0⟩ := bS H0
 obtain ⟨x8, e8, H0⟩ := bS H0
 obtain ⟨x9, e9, H0⟩ := bS H0
 refine oD (stp_mulU rfl rfl e5) rfl (oD (stp_rem rfl rfl e6) rfl (oS rfl (nn (sr (oM rfl (oM rfl (oD (stp_convU Tryz.underlying3 Tryz.underlying106 rfl e7) rfl (oD (stp_mulU rfl rfl e8) rfl (oD (stp_shr (d := 4294967296) (by decide) rfl rfl) rfl (oD (stp_convI Tryz.underlying106 Tryz.underlying3 rfl e9) rfl (oS rfl (nn (cw_ret ?_)))))))))))))
 obtain rfl := sI H0
 exact kr Tryz.results51 (rT rfl) [] ⟨rfl, rfl⟩

theorem c_i_UnmapPage (fl : Nat) (w : World) (a0 : T) (a1 : K) (hn0_0 : n0_0 = (a0.b).length) (hr0_0 : RO w (hkeys []) (RdL p0_0 c0_0 a0.b)) (hn0_1 : n0_1 = (a0.f).length) (hr0_1 : RO w (hkeys []) (RdL p0_1 c0_1 a0.f)) (hg : RO w (hkeys []) (fun w' => w'.rangeAt 0 0 [.bool false, .int .i64 0, .int .i64 0, .int .i64 0, .int .i64 (-1)])) (r : T × Bool) (H0 : i_UnmapPage fl a0 a1 = some r) :
  Ct Tryz.prog 43 [.agg #[.slice p0_0 n0_0 c0_0, .slice p0_1 n0_1 c0_1], .agg #[.int .i64 a1.s, .int .i64 a1.p]] w [] (fun rv h' => ∃ (x0 : Option Addr) (y0 z0 : Nat) (C0 : Res) (x1 : Option Addr) (y1 z1 : Nat) (C1 : Res), rv = .tuple #[.agg #[.slice x0 y0 z0, .slice x1 y1 z1], .bool r.2] ∧ h' = [(0, C0), (1, C1)] ∧ y0 = (r.1.b).length ∧ OwnC 3 x0 z0 r.1.b C0 ∧ y1 = (r.1.f).length ∧ OwnC 72 x1 z1 r.1.f C1) := by
 subst hn0_0 hn0_1
 unfold i_UnmapPage at H0
 refine ct_of_cw Tryz.func43 rfl Tryz.ntmps43 rfl (Sat.refl _ _) ?_
 refine sr (oE (stpU_box 0 rfl rfl) rfl ?_)
 rintro _ _ ⟨b1, rfl, rfl⟩
 refine oE (stpU_box 1 rfl rfl) rfl ?_
 rintro _ _ ⟨b2, rfl, rfl⟩
 refine oE (stpU_alloc 2 tz26 rfl) rfl ?_
 rintro _ _ ⟨b3, rfl, rfl⟩
 obtain ⟨x4, e4, H0⟩ := bS H0
 refine oS rfl (nn (cw_seq (sr (oB2 0 ts26 rfl (oE (stpU_call (fun i => 3 + i) cf38 (fun w hw => c_i_TableValid fl w a0 rfl (RO.pass hr0_0 hw) rfl (RO.pass hr0_1 hw) (RO.pass hg hw) x4 e4) (yA rfl)) rfl ?_)))))
 rintro _ _ ⟨_, ⟨rfl, rfl⟩, rfl⟩
 obtain ⟨y5, ey5, H0⟩ := bS H0
 refine oK rfl (oM rfl (ow_cutY 4 18 y5 ?_ ?_))
 ·rcases Bool.eq_false_or_eq_true (!x4) with hy5 | hy5
  ·have ey5 := cond_t ey5 hy5
   refine oO rfl hy5 rfl (oO rfl hy5 rfl (oO rfl hy5 rfl (oD (stp_pick_t rfl hy5 rfl) rfl ?_)))
   obtain rfl := sI ey5
   exact ow_nil (jy 4 0)
  have ey5 := cond_f ey5 hy5
  obtain ⟨x6, e6, ey5⟩ := bS ey5
  refine oG rfl hy5 (stp_loadN (us := [_, _]) ts44 rfl (Cells.box (id := 1) rfl 2 rfl)) rfl (ow_eff (.some rfl hy5) (stpU_call (fun i => 3 + i) cf49 (fun w hw => c_i_KeyValid fl w a1 x6 e6) (yA rfl)) rfl ?_)
  rintro _ _ ⟨_, ⟨rfl, rfl⟩, rfl⟩
  refine oG rfl hy5 (stp_not rfl) rfl (oD (stp_pick_f rfl hy5 rfl) rfl ?_)
  obtain rfl := sI ey5
  exact ow_nil (jy 4 0)
 obtain ⟨y7, ey7, H0⟩ := bS H0
 refine oM rfl (ow_cutY 5 24 y7 ?_ ?_)
 ·rcases Bool.eq_false_or_eq_true y5 with hy7 | hy7
  ·have ey7 := cond_t ey7 hy7
   refine oO rfl hy7 rfl (oO rfl hy7 rfl (oO rfl hy7 rfl (oO rfl hy7 rfl (oD (stp_pick_t rfl hy7 rfl) rfl ?_))))
   obtain rfl := sI ey7
   exact ow_nil (jy 5 0)
  have ey7 := cond_f ey7 hy7
  obtain ⟨x8, e8, ey7⟩ := bS ey7
  refine oG rfl hy7 (stp_loadN (us := [_, _]) ts26 rfl (Cells.box (id := 0) rfl 2 rfl)) rfl (oG rfl hy7 (stp_loadN (us := [_, _]) ts44 rfl (Cells.box (id := 1) rfl 2 rfl)) rfl (ow_eff (.some rfl hy7) (stpU_call (fun i => 3 + i) cf40 (fun w hw => c_i_Table_find fl w a0 a1 rfl (RO.pass hr0_0 hw) rfl (RO.pass hr0_1 hw) x8 e8) (yB rfl rfl)) rfl ?_))
  rintro _ _ ⟨_, ⟨rfl, rfl⟩, rfl⟩
  refine oG rfl hy7 (stp_lss rfl rfl) rfl (oD (stp_pick_f rfl hy7 rfl) rfl ?_)
  obtain rfl := sI ey7
  exact ow_nil (jy 5 0)
 refine ow_nil (kw_nx (cw_cond rfl (fun h9 => ?_) (fun h9 => ?_)))
 ·have H0 := cond_t H0 h9
  refine sr (oD (stp_build (cs := #[.slice none 0 0, .slice none 0 0]) sevp_nil bt26_0) rfl (oC2 2 ts26 rfl rfl (oS rfl (nn (cw_ret (kw_nx_ret (kw_addNil 3 (kw_addNil 4 ?_))))))))
  obtain rfl := sI H0
  exact kr Tryz.results43 (.cons (.cellN (us := [_, _]) ts26 rfl (Cells.box (id := 2) rfl 2 rfl)) (rT rfl)) [3, 4] ⟨_, _, _, _, _, _, _, _, rfl, rfl, rfl, (OwnC.nil _ _), rfl, (OwnC.nil _ _)⟩
 have H0 := cond_f H0 h9
 obtain ⟨x10, e10, H0⟩ := bS H0
 refine cw_skip (kw_nx (sr (oB2 0 ts26 rfl (oE (stpU_call (fun i => 5 + i) cf59 (fun w hw => c_i_Table_clone fl w a0 rfl (RO.pass hr0_0 hw) rfl (RO.pass hr0_1 hw) x10 e10) (yA rfl)) rfl ?_))))
 rintro _ _ ⟨_, ⟨p11, _, c13, C14, p15, _, c17, C18, rfl, rfl, rfl, o14, rfl, o18⟩, rfl⟩
 refine oE (stpU_alloc 7 tz26 rfl) rfl ?_
 rintro _ _ ⟨b19, rfl, rfl⟩
 obtain ⟨x20, e20, H0⟩ := bS H0
 refine oC2 7 ts26 rfl rfl (nn (sr (oB2 0 ts26 rfl (oB2 1 ts44 rfl (oE (stpU_call (fun i => 8 + i) cf40 (fun w hw => c_i_Table_find fl w a0 a1 rfl (RO.pass hr0_0 hw) rfl (RO.pass hr0_1 hw) x20 e20) (yB rfl rfl)) rfl ?_)))))
 rintro _ _ ⟨_, ⟨rfl, rfl⟩, rfl⟩
 obtain ⟨x21, e21, H0⟩ := bS H0
 refine oS rfl (nn (sr (oA 1 Tryz.underlying26 rfl ts24 rfl (oL 0 ts24 rfl (oM rfl (oD (stp_indexAddr Tryz.underlying24 ts72 (by decide) rfl rfl rfl (Rdb.ro hr0_1) e21) rfl (oA 4 Tryz.underlying72 rfl ts3 rfl (oD (stp_load1 ts3 rfl (Cells.el (Rdb.ro hr0_1) (by decide) e21 4 1 rfl)) rfl (oS rfl (nn (sr (oB2 1 ts44 rfl (oA 0 Tryz.underlying26 rfl ts23 rfl ?_)))))))))))))
 obtain ⟨x22, e22, H0⟩ := bS H0
 refine oL 0 ts23 rfl (oD (stp_len Tryz.underlying23 rfl) rfl (oE (stpU_call (fun i => 8 + i) cf51 (fun w hw => c_i_hash fl w a1 ((a0.b).length : Int) x22 e22) (yB rfl rfl)) rfl ?_))
 rintro _ _ ⟨_, ⟨rfl, rfl⟩, rfl⟩
 obtain ⟨x23, e23, H0⟩ := bS H0
 refine oS rfl (nn (cw_seq (sr (oA 0 Tryz.underlying26 rfl ts23 rfl (oL 7 ts23 rfl (oM rfl (oD (stp_indexAddr Tryz.underlying23 ts3 (by decide) rfl rfl rfl (Rdb.own (id := 5) rfl o14) e23) rfl (oD (stp_load1 ts3 rfl (Cells.el (Rdb.own (id := 5) rfl o14) (by decide) e23 0 1 rfl)) rfl (oM rfl (oQ rfl (nn (cw_cond rfl (fun h24 => ?_) (fun h24 => ?_)))))))))))))
 ·have H0 := cond_t H0 h24
  refine cw_region (oA 0 Tryz.underlying26 rfl ts23 rfl (oL 7 ts23 rfl (oM rfl (oM rfl (oD (stp_indexAddr Tryz.underlying23 ts3 (by decide) rfl rfl rfl (Rdb.own (id := 5) rfl o14) e23) rfl (oF (stpU_storeEl (id := 5) (i := 0) x21.nx (by decide) ts3 rfl rfl rfl o14 e23 rfl rfl rfl rfl) ?_))))))
  rintro _ _ ⟨C25, rfl, o25⟩
  obtain ⟨x26, e26, H0⟩ := bS H0
  refine nn (sr (oA 1 Tryz.underlying26 rfl ts24 rfl (oL 7 ts24 rfl (oM rfl (oD (stp_loadN (us := [_, _, _, _, _]) ts72 rfl (Cells.ofRO hg 5 rfl)) rfl (oD (stp_indexAddr Tryz.underlying24 ts72 (by decide) rfl rfl rfl (Rdb.own (id := 6) rfl o18) e26) rfl (oF (stpU_storeEl (id := 6) (i := 0) (⟨false, (⟨0, 0⟩ : K), 0, (-1)⟩ : F) (by decide) ts72 rfl rfl rfl o18 e26 rfl rfl rfl rfl) ?_)))))))
  rintro _ _ ⟨C27, rfl, o27⟩
  refine nn (sr (oB2 7 ts26 rfl (oC2 2 ts26 rfl rfl (oS rfl (nn (cw_ret ?_))))))
  obtain rfl := sI H0
  exact kr Tryz.results43 (.cons (.cellN (us := [_, _]) ts26 rfl (Cells.box (id := 2) rfl 2 rfl)) (rT rfl)) [5, 6] ⟨_, _, _, _, _, _, _, _, rfl, rfl, (by simp), o25, (by simp), o27⟩
 have H0 := cond_f H0 h24
 obtain ⟨o0_0, eo0_0, H0⟩ := bS H0
 refine sr (oA 1 Tryz.underlying26 rfl ts24 rfl (oL 7 ts24 rfl (oD (stp_len Tryz.underlying24 rfl) rfl (oM rfl (nn (cw_join (ι := (List F) × Int × Res) (fun | (v28, v30, C29) => o0_0 = .out (v28, v30) ∧ (x10.f).length = (v28).length ∧ OwnC 72 p15 c17 v28 C29) (fun | (v28, v30, C29) => [(4, .pointer (some ⟨b3, 0, none⟩)), (6, .pointer (some ⟨b19, 0, none⟩)), (7, .int .i64 x20), (8, .int .i64 x21.nx), (56, .int .i64 ((x10.f).length : Int)), (57, .int .i64 v30)]) (fun | (v28, v30, C29) => [(2, [(b3, .cells #[.slice none 0 0, .slice none 0 0] 26 (0, 0))]), (5, C14), (6, C29), (7, [(b19, .cells #[.slice p11 ((x10.b).length) c13, .slice p15 ((x10.f).length) c17] 26 (0, 0))])]) ?_ ?_))))))
 ·refine cw_block (cw_loopS (ι := Nat × (List F) × Int × Res) (js := [2, 5, 6, 7]) (fun x => x.1) (fun | (fuel, v28, v30, C29) => i_UnmapPage_L0 fl x10 x20 x21 fuel v28 v30 = some o0_0 ∧ (x10.f).length = (v28).length ∧ OwnC 72 p15 c17 v28 C29) (fun | (_, v28, v30, C29) => [(4, .pointer (some ⟨b3, 0, none⟩)), (6, .pointer (some ⟨b19, 0, none⟩)), (7, .int .i64 x20), (8, .int .i64 x21.nx), (56, .int .i64 ((x10.f).length : Int)), (57, .int .i64 v30)]) (fun | (_, v28, v30, C29) => [(2, [(b3, .cells #[.slice none 0 0, .slice none 0 0] 26 (0, 0))]), (5, C14), (6, C29), (7, [(b19, .cells #[.slice p11 ((x10.b).length) c13, .slice p15 ((x10.f).length) c17] 26 (0, 0))])]) (fl, x10.f, 0, C18) ⟨eo0_0, rfl, o18⟩ ⟨rfl, rfl, rfl, rfl, rfl, rfl, trivial⟩ ⟨2, [5, 6, 7], rfl, rfl, 5, [6, 7], rfl, rfl, 6, [7], rfl, rfl, 7, [], rfl, rfl, trivial⟩ (by decide) ?_)
  rintro ⟨fuel, v28, v30, C29⟩ ⟨H1, hl29, o29⟩
  have H1 : i_UnmapPage_L0 fl x10 x20 x21 fuel v28 v30 = some o0_0 := H1
  rcases fuel with _ | fuel
  ·rw [i_UnmapPage_L0.eq_1] at H1; cases H1
  rw [i_UnmapPage_L0.eq_2] at H1
  dsimp only
  refine sr (oW rfl (nn (cw_seq (cw_cond rfl (fun h31 => ?_) (fun h31 => ?_)))))
  ·have H1 := cond_t H1 h31
   obtain ⟨x32, e32, H1⟩ := bS H1
   refine cw_skip (kw_nx (cw_seq (cw_block (sr (oM rfl (oS rfl (nn (sr (oA 1 Tryz.underlying26 rfl ts24 rfl (oL 7 ts24 rfl (oM rfl (oD (stp_indexAddr Tryz.underlying24 ts72 (by decide) rfl (by simp [hl29]) rfl (Rdb.own (id := 6) rfl o29) e32) rfl (oA 0 Tryz.underlying72 rfl ts4 rfl ?_)))))))))))))
   obtain ⟨y33, ey33, H1⟩ := bS H1
   refine oD (stp_load1 ts4 rfl (Cells.el (Rdb.own (id := 6) rfl o29) (by decide) e32 0 1 rfl)) rfl (oM rfl (ow_cutY 9 75 y33 ?_ ?_))
   ·rcases Bool.eq_false_or_eq_true x32.u with hy33 | hy33
    ·have ey33 := cond_t ey33 hy33
     refine oG rfl hy33 (fA 1 Tryz.underlying26 rfl ts24 rfl rfl rfl) rfl (oG rfl hy33 (lB 7 ts24 rfl rfl rfl) rfl (oG rfl hy33 (mv rfl) rfl (oG rfl hy33 (stp_indexAddr Tryz.underlying24 ts72 (by decide) rfl (by simp [hl29]) rfl (Rdb.own (id := 6) rfl o29) e32) rfl (oG rfl hy33 (fA 4 Tryz.underlying72 rfl ts3 rfl rfl rfl) rfl (oG rfl hy33 (stp_load1 ts3 rfl (Cells.el (Rdb.own (id := 6) rfl o29) (by decide) e32 4 1 rfl)) rfl (oG rfl hy33 (mv rfl) rfl (oG rfl hy33 (stp_eql rfl rfl) rfl (oD (stp_pick_t rfl hy33 rfl) rfl ?_))))))))
     obtain rfl := sI ey33
     exact ow_nil (jy 9 0)
    have ey33 := cond_f ey33 hy33
    refine oO rfl hy33 rfl (oO rfl hy33 rfl (oO rfl hy33 rfl (oO rfl hy33 rfl (oO rfl hy33 rfl (oO rfl hy33 rfl (oO rfl hy33 rfl (oO rfl hy33 rfl (oD (stp_pick_f rfl hy33 rfl) rfl ?_))))))))
    obtain rfl := sI ey33
    exact ow_nil (jy 9 0)
   refine ow_nil (kw_nx (cw_cond rfl (fun h34 => ?_) (fun h34 => ?_)))
   ·have H1 := cond_t H1 h34
    refine cw_region (oA 1 Tryz.underlying26 rfl ts24 rfl (oL 7 ts24 rfl (oM rfl (oM rfl (oD (stp_indexAddr Tryz.underlying24 ts72 (by decide) rfl (by simp [hl29]) rfl (Rdb.own (id := 6) rfl o29) e32) rfl (oA 4 Tryz.underlying72 rfl ts3 rfl (oF (stpU_storeEl (id := 6) (i := 4) (⟨x32.u, x32.k, x32.r, x21.nx⟩ : F) (by decide) ts3 rfl rfl rfl o29 e32 rfl rfl rfl rfl) ?_)))))))
    rintro _ _ ⟨C35, rfl, o35⟩
    obtain ⟨x36, e36, H1⟩ := bS H1
    exact ow_nil (kw_bl_normal (kw_nx (cw_region (oP e36 rfl (oM rfl (ow_nil (kw_lqS (js := [2, 5, 6, 7]) (fuel, (v28.set (Int.toNat v30) (⟨x32.u, x32.k, x32.r, x21.nx⟩ : F)), x36, C35) ⟨H1, (by simp [hl29]), o35⟩ (Nat.lt_succ_self _) ⟨rfl, rfl, rfl, rfl, rfl, rfl, trivial⟩ ⟨2, [5, 6, 7], rfl, rfl, 5, [6, 7], rfl, rfl, 6, [7], rfl, rfl, 7, [], rfl, rfl, trivial⟩ (by decide))))))))
   have H1 := cond_f H1 h34
   obtain ⟨x37, e37, H1⟩ := bS H1
   exact cw_skip (kw_bl_normal (kw_nx (cw_region (oP e37 rfl (oM rfl (ow_nil (kw_lqS (js := [2, 5, 6, 7]) (fuel, v28, x37, C29) ⟨H1, (by simp [hl29]), o29⟩ (Nat.lt_succ_self _) ⟨rfl, rfl, rfl, rfl, rfl, rfl, trivial⟩ ⟨2, [5, 6, 7], rfl, rfl, 5, [6, 7], rfl, rfl, 6, [7], rfl, rfl, 7, [], rfl, rfl, trivial⟩ (by decide))))))))
  have H1 := cond_f H1 h31
  refine cw_exit (kw_nx_exit (kw_lq_exit (kw_bl ?_)))
  obtain rfl := sI H1
  exact kw_joinS (js := [2, 5, 6, 7]) (v28, v30, C29) ⟨rfl, (by simp [hl29]), o29⟩ ⟨rfl, rfl, rfl, rfl, rfl, rfl, trivial⟩ ⟨2, [5, 6, 7], rfl, rfl, 5, [6, 7], rfl, rfl, 6, [7], rfl, rfl, 7, [], rfl, rfl, trivial⟩ (by decide)
 rintro ⟨v28, v30, C29⟩ ⟨rfl, hl29, o29⟩
 dsimp only
 obtain ⟨x38, e38, H0⟩ := bS H0
 refine kw_nx (sr (oA 1 Tryz.underlying26 rfl ts24 rfl (oL 7 ts24 rfl (oM rfl (oD (stp_loadN (us := [_, _, _, _, _]) ts72 rfl (Cells.ofRO hg 5 rfl)) rfl (oD (stp_indexAddr Tryz.underlying24 ts72 (by decide) rfl (by simp [hl29]) rfl (Rdb.own (id := 6) rfl o29) e38) rfl (oF (stpU_storeEl (id := 6) (i := 0) (⟨false, (⟨0, 0⟩ : K), 0, (-1)⟩ : F) (by decide) ts72 rfl rfl rfl o29 e38 rfl rfl rfl rfl) ?_)))))))
 rintro _ _ ⟨C39, rfl, o39⟩
 refine nn (sr (oB2 7 ts26 rfl (oC2 2 ts26 rfl rfl (oS rfl (nn (cw_ret ?_))))))
 obtain rfl := sI H0
 exact kr Tryz.results43 (.cons (.cellN (us := [_, _]) ts26 rfl (Cells.box (id := 2) rfl 2 rfl)) (rT rfl)) [5, 6] ⟨_, _, _, _, _, _, _, _, rfl, rfl, rfl, o14, (by simp [hl29]), o39⟩

theorem c_i_UnmapSystem (fl : Nat) (w : World) (a0 : Sy) (a1 : Int) (a2 : K) (hn0_0 : n0_0 = (a0.t.b).length) (hr0_0 : RO w (hkeys []) (RdL p0_0 c0_0 a0.t.b)) (hn0_1 : n0_1 = (a0.t.f).length) (hr0_1 : RO w (hkeys []) (RdL p0_1 c0_1 a0.t.f)) (hn0_2 : n0_2 = (a0.c).length) (hr0_2 : ROD w (hkeys []) p0_2 c0_2 a0.c) (hg : RO w (hkeys []) (fun w' => w'.rangeAt 0 0 [.bool false, .int .i64 0, .int .i64 0, .int .i64 0, .int .i64 (-1)])) (r : Sy × Int × Bool) (H0 : i_UnmapSystem fl a0 a1 a2 = some r) :
  Ct Tryz.prog 17 [.agg #[.slice p0_0 n0_0 c0_0, .slice p0_1 n0_1 c0_1, .slice p0_2 n0_2 c0_2], .int .i64 a1, .agg #[.int .i64 a2.s, .int .i64 a2.p]] w [] (fun rv h' => ∃ (x0 : Option Addr) (y0 z0 : Nat) (C0 : Res) (x1 : Option Addr) (y1 z1 : Nat) (C1 : Res) (x2 : Option Addr) (y2 z2 : Nat) (C2 : Res), rv = .tuple #[.agg #[.slice x0 y0 z0, .slice x1 y1 z1, .slice x2 y2 z2], .int .i64 r.2.1, .bool r.2.2] ∧ h' = [(0, C0), (1, C1), (2, C2)] ∧ y0 = (r.1.t.b).length ∧ OwnC 3 x0 z0 r.1.t.b C0 ∧ y1 = (r.1.t.f).length ∧ OwnC 72 x1 z1 r.1.t.f C1 ∧ y2 = (r.1.c).length ∧ OwnD 37 51 x2 z2 r.1.c C2) := by
 subst hn0_0 hn0_1 hn0_2
 unfold i_UnmapSystem at H0
 refine ct_of_cw Tryz.func17 rfl Tryz.ntmps17 rfl (Sat.refl _ _) ?_
 refine sr (oE (stpU_box 0 rfl rfl) rfl ?_)
 rintro _ _ ⟨b1, rfl, rfl⟩
 refine oE (stpU_box 1 rfl rfl) rfl ?_
 rintro _ _ ⟨b2, rfl, rfl⟩
 refine oE (stpU_alloc 2 tz29 rfl) rfl ?_
 rintro _ _ ⟨b3, rfl, rfl⟩
 obtain ⟨x4, e4, H0⟩ := bS H0
 refine oS rfl (oS rfl (nn (cw_seq (sr (oB3 0 ts29 rfl (oM rfl (oE (stpU_call (fun i => 3 + i) cf23 (fun w hw => c_i_cpuOf fl w a0 a1 rfl (RO.pass hr0_0 hw) rfl (RO.pass hr0_1 hw) rfl (ROD.pass hr0_2 hw) (RO.pass hg hw) x4 e4) (yB rfl rfl)) rfl ?_)))))))
 rintro _ _ ⟨_, ⟨rfl, rfl⟩, rfl⟩
 refine oK rfl (nn (cw_cond rfl (fun h5 => ?_) (fun h5 => ?_)))
 ·have H0 := cond_t H0 h5
  refine sr (oD (stp_build (cs := #[.slice none 0 0, .slice none 0 0, .slice none 0 0]) sevp_nil bt29_2) rfl (oC3 2 ts29 rfl rfl (oS rfl (oS rfl (nn (cw_ret (kw_nx_ret (kw_addNil 3 (kw_addNil 4 (kw_addNil 5 ?_))))))))))
  obtain rfl := sI H0
  exact kr Tryz.results17 (.cons (.cellN (us := [_, _, _]) ts29 rfl (Cells.box (id := 2) rfl 3 rfl)) (.cons (.tmp rfl) (rT rfl))) [3, 4, 5] ⟨_, _, _, _, _, _, _, _, _, _, _, _, rfl, rfl, rfl, (OwnC.nil _ _), rfl, (OwnC.nil _ _), rfl, (OwnD.nil _ _ _)⟩
 have H0 := cond_f H0 h5
 obtain ⟨x6, e6, H0⟩ := bS H0
 refine cw_skip (kw_nx (sr (oA 0 Tryz.underlying29 rfl ts26 rfl (oB2 0 ts26 rfl (oB2 1 ts44 rfl (oE (stpU_call (fun i => 6 + i) cf43 (fun w hw => c_i_UnmapPage fl w a0.t a2 rfl (RO.pass hr0_0 hw) rfl (RO.pass hr0_1 hw) (RO.pass hg hw) x6 e6) (yB rfl rfl)) rfl ?_))))))
 rintro _ _ ⟨_, ⟨p7, _, c9, C10, p11, _, c13, C14, rfl, rfl, rfl, o10, rfl, o14⟩, rfl⟩
 refine oM rfl (oT rfl (oT rfl (oE (stpU_alloc 8 tz26 rfl) rfl ?_)))
 rintro _ _ ⟨b15, rfl, rfl⟩
 refine oC2 8 ts26 rfl rfl (oS rfl (nn (cw_seq (sr (oM rfl (oK rfl (nn (cw_cond rfl (fun h16 => ?_) (fun h16 => ?_)))))))))
 ·have H0 := cond_t H0 h16
  refine sr (oD (stp_build (cs := #[.slice none 0 0, .slice none 0 0, .slice none 0 0]) sevp_nil bt29_2) rfl (oC3 2 ts29 rfl rfl (oS rfl (oS rfl (nn (cw_ret (kw_nx_ret (kw_addNil 9 (kw_addNil 10 (kw_addNil 11 ?_))))))))))
  obtain rfl := sI H0
  exact kr Tryz.results17 (.cons (.cellN (us := [_, _, _]) ts29 rfl (Cells.box (id := 2) rfl 3 rfl)) (.cons (.tmp rfl) (rT rfl))) [9, 10, 11] ⟨_, _, _, _, _, _, _, _, _, _, _, _, rfl, rfl, rfl, (OwnC.nil _ _), rfl, (OwnC.nil _ _), rfl, (OwnD.nil _ _ _)⟩
 have H0 := cond_f H0 h16
 obtain ⟨x17, e17, H0⟩ := bS H0
 refine cw_skip (kw_nx (sr (oB3 0 ts29 rfl (oE (stpU_call (fun i => 12 + i) cf24 (fun w hw => c_i_System_clone fl w a0 rfl (RO.pass hr0_0 hw) rfl (RO.pass hr0_1 hw) rfl (ROD.pass hr0_2 hw) x17 e17) (yA rfl)) rfl ?_))))
 rintro _ _ ⟨_, ⟨p18, _, c20, C21, p22, _, c24, C25, p26, _, c28, C29, rfl, rfl, rfl, o21, rfl, o25, rfl, o29⟩, rfl⟩
 refine oE (stpU_alloc 15 tz29 rfl) rfl ?_
 rintro _ _ ⟨b30, rfl, rfl⟩
 refine oC3 15 ts29 rfl rfl (nn (sr (oB2 8 ts26 rfl (oA 0 Tryz.underlying29 rfl ts26 rfl (oC3 15 ts26 rfl rfl (nn (sr (oS rfl (nn (cw_seq (sr (oA 2 Tryz.underlying29 rfl ts27 rfl (oL 15 ts27 rfl ?_)))))))))))))
 obtain ⟨o0_0, eo0_0, H0⟩ := bS H0
 refine oD (stp_len Tryz.underlying27 rfl) rfl (oM rfl (nn (cw_join (ι := (List Cp) × Int × Int × Res) (fun | (v31, v33, v34, C32) => o0_0 = .out (v31, v33, v34) ∧ (x17.c).length = (v31).length ∧ OwnD 37 51 p26 c28 v31 C32) (fun | (v31, v33, v34, C32) => [(1, .int .i64 a1), (5, .pointer (some ⟨b2, 0, none⟩)), (6, .pointer (some ⟨b3, 0, none⟩)), (11, .pointer (some ⟨b30, 0, none⟩)), (12, .int .i64 v33), (37, .int .i64 ((x17.c).length : Int)), (38, .int .i64 v34)]) (fun | (v31, v33, v34, C32) => [(1, [(b2, .cells #[.int .i64 a2.s, .int .i64 a2.p] 44 (0, 0))]), (2, [(b3, .cells #[.slice none 0 0, .slice none 0 0, .slice none 0 0] 29 (0, 0))]), (6, C10), (7, C14), (14, C32), (15, [(b30, .cells #[.slice p7 ((x6.1.b).length) c9, .slice p11 ((x6.1.f).length) c13, .slice p26 ((x17.c).length) c28] 29 (0, 0))])]) ?_ ?_)))
 ·refine cw_block (cw_loopS (ι := Nat × (List Cp) × Int × Int × Res) (js := [1, 2, 6, 7, 14, 15]) (fun x => x.1) (fun | (fuel, v31, v33, v34, C32) => i_UnmapSystem_L0 fl a1 a2 x17 fuel v31 v33 v34 = some o0_0 ∧ (x17.c).length = (v31).length ∧ OwnD 37 51 p26 c28 v31 C32) (fun | (_, v31, v33, v34, C32) => [(1, .int .i64 a1), (5, .pointer (some ⟨b2, 0, none⟩)), (6, .pointer (some ⟨b3, 0, none⟩)), (11, .pointer (some ⟨b30, 0, none⟩)), (12, .int .i64 v33), (37, .int .i64 ((x17.c).length : Int)), (38, .int .i64 v34)]) (fun | (_, v31, v33, v34, C32) => [(1, [(b2, .cells #[.int .i64 a2.s, .int .i64 a2.p] 44 (0, 0))]), (2, [(b3, .cells #[.slice none 0 0, .slice none 0 0, .slice none 0 0] 29 (0, 0))]), (6, C10), (7, C14), (14, C32), (15, [(b30, .cells #[.slice p7 ((x6.1.b).length) c9, .slice p11 ((x6.1.f).length) c13, .slice p26 ((x17.c).length) c28] 29 (0, 0))])]) (fl, x17.c, 0, 0, C29) ⟨eo0_0, rfl, o29⟩ ⟨rfl, rfl, rfl, rfl, rfl, rfl, rfl, trivial⟩ ⟨1, [2, 6, 7, 14, 15], rfl, rfl, 2, [6, 7, 14, 15], rfl, rfl, 6, [7, 14, 15], rfl, rfl, 7, [14, 15], rfl, rfl, 14, [15], rfl, rfl, 15, [], rfl, rfl, trivial⟩ (by decide) ?_)
  rintro ⟨fuel, v31, v33, v34, C32⟩ ⟨H1, hl32, o32⟩
  have H1 : i_UnmapSystem_L0 fl a1 a2 x17 fuel v31 v33 v34 = some o0_0 := H1
  rcases fuel with _ | fuel
  ·rw [i_UnmapSystem_L0.eq_1] at H1; cases H1
  rw [i_UnmapSystem_L0.eq_2] at H1
  dsimp only
  refine sr (oW rfl (nn (cw_seq (cw_cond rfl (fun h35 => ?_) (fun h35 => ?_)))))
  ·have H1 := cond_t H1 h35
   obtain ⟨x36, e36, H1⟩ := bS H1
   refine cw_skip (kw_nx (cw_seq (cw_block (sr (oM rfl (oS rfl (nn (sr (oA 2 Tryz.underlying29 rfl ts27 rfl (oL 15 ts27 rfl (oM rfl (ow_open 14 16 17 18 rfl o32 e36 ?_))))))))))))
   rintro u37 p38 n39 c40 p41 n42 c43 C44 C45 C46 C47 o44 hb45 hx37 rfl o46 rfl o47
   obtain ⟨x48, e48, H1⟩ := bS H1
   refine oD (stp_indexAddr Tryz.underlying27 ts37 (by decide) rfl (Eq.trans (a := (x17.c).length) (b := (v31).length) (by simp [hl32]) (Bun.len hb45)) rfl (Rdb.own (id := 14) rfl o44) hx37) rfl (oS rfl (nn (cw_seq (rdq g_mixed [5, 14] [1, 14, 17] { dst := dS [46, 47, 48, 49, 50, 51, 16], pre := gA [] [[], [0], [0, 1], [0, 1, 2], [], rn 0 5, rn 0 6], ids := fun _ => [], rs := rL [[(14, 0)], [(45, 1)], [(46, 2)], [(47, 3)], [(5, 0)], [(48, 4), (49, 5)], [(50, 6)]], rh := rL [[], [], [], [(14, 0)], [(1, 0)], [(17, 0)]], V := fun i g => gA undef [.pointer (some ⟨eB p26, eO p26 + Int.toNat v34 * Enc.sz CpS + 0, none⟩), .pointer (some ⟨eB p26, eO p26 + Int.toNat v34 * Enc.sz CpS + 0, none⟩), .pointer (some ⟨eB p26, eO p26 + Int.toNat v34 * Enc.sz CpS + 0, none⟩), .slice p38 ((x36.n).length) c40, .agg #[.int .i64 a2.s, .int .i64 a2.p], .int .i64 x48, .int .i64 x48] i, U := fun _ _ => [], Φ := fun _ _ => True } ?_ ?_))))
   ·refine ⟨lM, lc rfl rfl fun hs hh => stp_nilCheck (sv hs 45 rfl), lc rfl rfl fun hs hh => stp_fieldAddr (j := 0) Tryz.underlying37 rfl ts35 rfl (sv hs 46 rfl) rfl, lc rfl rfl fun hs hh => stp_load1 ts35 (sv hs 47 rfl) (Cells.el (Rdb.own (id := 14) (hh.get 14 _ rfl) o44) (by decide) hx37 0 1 rfl), lc rfl rfl fun hs hh => stp_loadN (us := [_, _]) ts44 (sv hs 5 rfl) (Cells.box (id := 1) (hh.get 1 _ rfl) 2 rfl), ?_, lS, trivial⟩
    refine le rfl rfl (fun g hΦ s h hs hh => (stpU_call (fun i => 19 + i) cf41 (fun w hw => c_i_noteOf fl w x36.n a2 rfl (OwnC.pass (id := 17) (hh.get 17 _ rfl) o46 hw) x48 e48) (yB (sv hs 48 rfl) (sv hs 49 rfl)))) ?_
    rintro g _ _ ⟨_, ⟨rfl, rfl⟩, rfl⟩
    exact ⟨⟨[], [], []⟩, trivial, .inr rfl, rfl⟩
   intro g hΦ
   refine KW.sub (s' := [(1, .int .i64 a1), (5, .pointer (some ⟨b2, 0, none⟩)), (6, .pointer (some ⟨b3, 0, none⟩)), (11, .pointer (some ⟨b30, 0, none⟩)), (12, .int .i64 v33), (13, .int .i64 v34), (14, .pointer (some ⟨eB p26, eO p26 + Int.toNat v34 * Enc.sz CpS + 0, none⟩)), (15, .int .i64 x48), (37, .int .i64 ((x17.c).length : Int)), (38, .int .i64 v34)]) (h' := [(1, [(b2, .cells #[.int .i64 a2.s, .int .i64 a2.p] 44 (0, 0))]), (2, [(b3, .cells #[.slice none 0 0, .slice none 0 0, .slice none 0 0] 29 (0, 0))]), (6, C10), (7, C14), (14, C44), (15, [(b30, .cells #[.slice p7 ((x6.1.b).length) c9, .slice p11 ((x6.1.f).length) c13, .slice p26 ((x17.c).length) c28] 29 (0, 0))]), (16, C45), (17, C46), (18, C47)]) ?_ ⟨rfl, rfl, rfl, rfl, rfl, rfl, rfl, rfl, rfl, rfl, trivial⟩ ⟨rfl, rfl, rfl, rfl, rfl, rfl, rfl, rfl, rfl, trivial⟩
   refine kw_nx (cw_block (sr (oM rfl (oW rfl (oS rfl (nn (cw_cond rfl (fun h49 => ?_) (fun h49 => ?_))))))))
   ·have H1 := cond_t H1 h49
    obtain ⟨x50, e50, H1⟩ := bS H1
    refine cw_skip (kw_bl_normal (kw_bl_normal (kw_nx (cw_region (oP e50 rfl (oM rfl (ow_nil (kw_shut 14 16 17 18 o44 hb45 (idx_some hx37).2.2 (idx_some e36).2.2 rfl o46 rfl o47 ?_))))))))
    rintro C51 o51
    exact kw_lqS (js := [1, 2, 6, 7, 14, 15]) (fuel, v31, v33, x50, C51) ⟨H1, (by simp [hl32]), o51⟩ (Nat.lt_succ_self _) ⟨rfl, rfl, rfl, rfl, rfl, rfl, rfl, trivial⟩ ⟨1, [2, 6, 7, 14, 15], rfl, rfl, 2, [6, 7, 14, 15], rfl, rfl, 6, [7, 14, 15], rfl, rfl, 7, [14, 15], rfl, rfl, 14, [15], rfl, rfl, 15, [], rfl, rfl, trivial⟩ (by decide)
   have H1 := cond_f H1 h49
   refine sr (oM rfl (oM rfl (oQ rfl (oS rfl (nn (cw_cond rfl (fun h52 => ?_) (fun h52 => ?_)))))))
   ·have H1 := cond_t H1 h52
    obtain ⟨x53, e53, H1⟩ := bS H1
    refine rdq g_mixed [5, 14] [1, 14, 17] { dst := dS [78, 79, 80, 81, 82, 83, 84, 85, 86, 0], pre := gA [] [[], [], [1], [1, 2], [1, 2, 3], [], rn 1 5, rn 0 7, rn 0 8, rn 0 9], ids := gA [] [[], [], [], [], [], [], [19], [], [], [14, 19]], rs := rL [[(14, 0)], [(14, 0)], [(78, 2)], [(79, 3)], [(80, 4)], [(5, 0)], [(81, 5), (82, 6)], [(77, 1)], [(84, 8)], [(85, 9), (83, 7)]], rh := rL [[], [], [], [], [(14, 0)], [(1, 0)], [(17, 0)], [], [], [(14, 0), (19, 7)]], V := fun i g => gA undef [.pointer (some ⟨eB p26, eO p26 + Int.toNat v34 * Enc.sz CpS + 0, none⟩), .pointer (some ⟨eB p26, eO p26 + Int.toNat v34 * Enc.sz CpS + 0, none⟩), .pointer (some ⟨eB p26, eO p26 + Int.toNat v34 * Enc.sz CpS + 0, none⟩), .pointer (some ⟨eB p26, eO p26 + Int.toNat v34 * Enc.sz CpS + 0, none⟩), .slice p38 ((x36.n).length) c40, .agg #[.int .i64 a2.s, .int .i64 a2.p], .slice ((g 6).A 0) ((x53).length) ((g 6).C 0), .pointer (some ⟨eB p26, eO p26 + Int.toNat v34 * Enc.sz CpS + 0, none⟩), .pointer (some ⟨eB p26, eO p26 + Int.toNat v34 * Enc.sz CpS + 0, none⟩)] i, U := fun i g => match i with | 6 => [(19, ((g 6).R 0))] | 9 => [(14, ((g 9).R 0)), (19, ((g 9).R 1))] | _ => [], Φ := fun i x => match i with | 6 => OwnC 51 (x.A 0) (x.C 0) x53 (x.R 0) | 9 => OwnC (α := CpS) 37 p26 c28 (u37.set (Int.toNat v34) (⟨(x.A 0), (x53).length, (x.C 0), p41, (x36.w).length, c43⟩ : CpS)) (x.R 0) ∧ OwnC 51 (x.A 0) (x.C 0) x53 (x.R 1) | _ => True } ?_ ?_
    ·refine ⟨lM, lM, lc rfl rfl fun hs hh => stp_nilCheck (sv hs 78 rfl), lc rfl rfl fun hs hh => stp_fieldAddr (j := 0) Tryz.underlying37 rfl ts35 rfl (sv hs 79 rfl) rfl, lc rfl rfl fun hs hh => stp_load1 ts35 (sv hs 80 rfl) (Cells.el (Rdb.own (id := 14) (hh.get 14 _ rfl) o44) (by decide) hx37 0 1 rfl), lc rfl rfl fun hs hh => stp_loadN (us := [_, _]) ts44 (sv hs 5 rfl) (Cells.box (id := 1) (hh.get 1 _ rfl) 2 rfl), ?_, lc rfl rfl fun hs hh => stp_nilCheck (sv hs 77 rfl), lc rfl rfl fun hs hh => stp_fieldAddr (j := 0) Tryz.underlying37 rfl ts35 rfl (sv hs 84 rfl) rfl, ?_, trivial⟩
     ·refine le rfl rfl (fun g hΦ s h hs hh => (stpU_call (fun i => 19 + i) cf44 (fun w hw => c_i_drop fl w x36.n a2 rfl (OwnC.pass (id := 17) (hh.get 17 _ rfl) o46 hw) x53 e53) (yB (sv hs 81 rfl) (sv hs 82 rfl)))) ?_
      rintro g _ _ ⟨_, ⟨p54, _, c56, C57, rfl, rfl, rfl, o57⟩, rfl⟩
      exact ⟨⟨[p54], [c56], [C57]⟩, o57, .inr rfl, rfl⟩
     refine le rfl rfl (fun g hΦ s h hs hh => (stpU_keep (hh.get 19 _ rfl) (stpU_storeEl (id := 14) (i := 0) (⟨((g 6).A 0), (x53).length, ((g 6).C 0), p41, (x36.w).length, c43⟩ : CpS) (by decide) ts35 (sv hs 85 rfl) (sv hs 83 rfl) (hh.get 14 _ rfl) o44 hx37 rfl rfl rfl rfl) (by rintro _ _ ⟨_, rfl, _⟩; rfl) (hΦ 6 rfl))) ?_
     rintro g _ _ ⟨_, ⟨C58, rfl, o58⟩, rfl, o61⟩
     exact ⟨⟨[((g 6).A 0)], [((g 6).C 0)], [C58, ((g 6).R 0)]⟩, ⟨o58, o61⟩, .inl rfl, rfl⟩
    intro g hΦ
    refine kw_gen (ι := Option Addr × Nat × Res × Option Addr × Nat × Res × Res) (((g 6).A 0), ((g 6).C 0), ((g 6).R 0), ((g 9).A 0), ((g 9).C 0), ((g 9).R 0), ((g 9).R 1)) (fun | (p54, c56, C57, p59, c60, C58, C61) => OwnC 51 p54 c56 x53 C57 ∧ OwnC (α := CpS) 37 p26 c28 (u37.set (Int.toNat v34) (⟨p59, (x53).length, c60, p41, (x36.w).length, c43⟩ : CpS)) C58 ∧ OwnC 51 p59 c60 x53 C61) (fun | (p54, c56, C57, p59, c60, C58, C61) => [(1, .int .i64 a1), (5, .pointer (some ⟨b2, 0, none⟩)), (6, .pointer (some ⟨b3, 0, none⟩)), (11, .pointer (some ⟨b30, 0, none⟩)), (12, .int .i64 v33), (37, .int .i64 ((x17.c).length : Int)), (38, .int .i64 v34)]) (fun | (p54, c56, C57, p59, c60, C58, C61) => [(1, [(b2, .cells #[.int .i64 a2.s, .int .i64 a2.p] 44 (0, 0))]), (2, [(b3, .cells #[.slice none 0 0, .slice none 0 0, .slice none 0 0] 29 (0, 0))]), (6, C10), (7, C14), (14, C58), (15, [(b30, .cells #[.slice p7 ((x6.1.b).length) c9, .slice p11 ((x6.1.f).length) c13, .slice p26 ((x17.c).length) c28] 29 (0, 0))]), (16, C45), (18, C47), (19, C61)]) ⟨(hΦ 6 (by decide)), (hΦ 9 (by decide)).1, (hΦ 9 (by decide)).2⟩ ⟨rfl, rfl, rfl, rfl, rfl, rfl, rfl, trivial⟩ ⟨rfl, rfl, rfl, rfl, rfl, rfl, rfl, rfl, rfl, trivial⟩ ?_
    rintro ⟨p54, c56, C57, p59, c60, C58, C61⟩ ⟨o57, o58, o61⟩
    dsimp only
    obtain ⟨x62, e62, H1⟩ := bS H1
    refine kw_bl_normal (kw_bl_normal (kw_nx (cw_region (oP e62 rfl (oM rfl (ow_nil (kw_shut 14 16 19 18 o58 (Bun.setL (Bun.set hb45 _) _) (idx_some (idx_set hx37)).2.2 (idx_setD e36 (⟨x53, x36.w⟩ : Cp)) rfl o61 rfl o47 ?_)))))))
    rintro C63 o63
    exact kw_lqS (js := [1, 2, 6, 7, 14, 15]) (fuel, (v31.set (Int.toNat v34) (⟨x53, x36.w⟩ : Cp)), v33, x62, C63) ⟨H1, (by simp [hl32]), o63⟩ (Nat.lt_succ_self _) ⟨rfl, rfl, rfl, rfl, rfl, rfl, rfl, trivial⟩ ⟨1, [2, 6, 7, 14, 15], rfl, rfl, 2, [6, 7, 14, 15], rfl, rfl, 6, [7, 14, 15], rfl, rfl, 7, [14, 15], rfl, rfl, 14, [15], rfl, rfl, 15, [], rfl, rfl, trivial⟩ (by decide)
   have H1 := cond_f H1 h52
   obtain ⟨x64, e64, H1⟩ := bS H1
   obtain ⟨x67, e67, H1⟩ := bS H1
   refine cw_seq (rdq g_mixed [14, 15] [14, 17, 18] { dst := dS [52, 53, 54, 55, 56, 57, 58, 59, 60, 61, 62, 63, 64, 65, 66, 67, 68, 0], pre := gA [] [[], [], [1], [1, 2], [1, 2, 3], [], [5], [5, 6], [5, 6, 7], [], rn 5 5, rn 5 6, rn 5 7, rn 1 12, rn 1 13, rn 0 15, rn 0 16, rn 0 17], ids := fun i => match i with | 12 => [20] | 13 => [18] | 17 => [14, 18] | _ => [], rs := rL [[(14, 0)], [(14, 0)], [(52, 2)], [(53, 3)], [(54, 4)], [(14, 0)], [(56, 6)], [(57, 7)], [(58, 8)], [(15, 0)], [(59, 9), (60, 10)], [(61, 11)], [(62, 12)], [(55, 5), (63, 13)], [(64, 14)], [(51, 1)], [(66, 16)], [(67, 17), (65, 15)]], rh := rL [[], [], [], [], [(14, 0)], [], [], [], [(14, 0)], [], [(17, 0)], [(17, 0)], [], [(18, 0), (20, 13)], [], [], [], [(14, 0), (18, 14)]], V := fun i g => gA undef [.pointer (some ⟨eB p26, eO p26 + Int.toNat v34 * Enc.sz CpS + 0, none⟩), .pointer (some ⟨eB p26, eO p26 + Int.toNat v34 * Enc.sz CpS + 0, none⟩), .pointer (some ⟨eB p26, eO p26 + Int.toNat v34 * Enc.sz CpS + 0, none⟩), .pointer (some ⟨eB p26, eO p26 + Int.toNat v34 * Enc.sz CpS + 1, none⟩), .slice p41 ((x36.w).length) c43, .pointer (some ⟨eB p26, eO p26 + Int.toNat v34 * Enc.sz CpS + 0, none⟩), .pointer (some ⟨eB p26, eO p26 + Int.toNat v34 * Enc.sz CpS + 0, none⟩), .pointer (some ⟨eB p26, eO p26 + Int.toNat v34 * Enc.sz CpS + 0, none⟩), .slice p38 ((x36.n).length) c40, .int .i64 x48, .pointer (some ⟨eB p38, eO p38 + Int.toNat x48 * Enc.sz Nt + 0, none⟩), .agg #[.int .i64 x64.k.s, .int .i64 x64.k.p, .int .i64 x64.fr], .slice ((g 12).A 0) 1 1, .slice ((g 13).A 0) ((x67).length) ((g 13).C 0), .slice ((g 13).A 0) ((x67).length) ((x67).length), .pointer (some ⟨eB p26, eO p26 + Int.toNat v34 * Enc.sz CpS + 0, none⟩), .pointer (some ⟨eB p26, eO p26 + Int.toNat v34 * Enc.sz CpS + 1, none⟩)] i, U := fun i g => match i with | 12 => [(20, ((g 12).R 0))] | 13 => [(18, ((g 13).R 0))] | 17 => [(14, ((g 17).R 0)), (18, ((g 17).R 1))] | _ => [], Φ := fun i x => match i with | 12 => OwnC (α := Nt) 51 (x.A 0) 1 ([x64]) (x.R 0) | 13 => OwnC 51 (x.A 0) (x.C 0) x67 (x.R 0) | 17 => OwnC (α := CpS) 37 p26 c28 (u37.set (Int.toNat v34) (⟨p38, (x36.n).length, c40, (x.A 0), (x67).length, (x.C 0)⟩ : CpS)) (x.R 0) ∧ OwnC 51 (x.A 0) (x.C 0) x67 (x.R 1) | _ => True } ?_ ?_)
   ·refine ⟨lM, lM, lc rfl rfl fun hs hh => stp_nilCheck (sv hs 52 rfl), lc rfl rfl fun hs hh => stp_fieldAddr (j := 1) Tryz.underlying37 rfl ts35 rfl (sv hs 53 rfl) rfl, lc rfl rfl fun hs hh => stp_load1 ts35 (sv hs 54 rfl) (Cells.el (Rdb.own (id := 14) (hh.get 14 _ rfl) o44) (by decide) hx37 1 1 rfl), lM, lc rfl rfl fun hs hh => stp_nilCheck (sv hs 56 rfl), lc rfl rfl fun hs hh => stp_fieldAddr (j := 0) Tryz.underlying37 rfl ts35 rfl (sv hs 57 rfl) rfl, lc rfl rfl fun hs hh => stp_load1 ts35 (sv hs 58 rfl) (Cells.el (Rdb.own (id := 14) (hh.get 14 _ rfl) o44) (by decide) hx37 0 1 rfl), lM, lc rfl rfl fun hs hh => stp_indexAddr Tryz.underlying35 ts51 (by decide) (sv hs 59 rfl) rfl (sv hs 60 rfl) (Rdb.own (id := 17) (hh.get 17 _ rfl) o46) e64, lc rfl rfl fun hs hh => stp_loadN (us := [_, _, _]) ts51 (sv hs 61 rfl) (Cells.el (Rdb.own (id := 17) (hh.get 17 _ rfl) o46) (by decide) e64 0 3 rfl), ?_, ?_, ?_, lc rfl rfl fun hs hh => stp_nilCheck (sv hs 51 rfl), lc rfl rfl fun hs hh => stp_fieldAddr (j := 1) Tryz.underlying37 rfl ts35 rfl (sv hs 66 rfl) rfl, ?_, trivial⟩
    ·refine le rfl rfl (fun g hΦ s h hs hh => (stpU_lit (sz := 3) (l := [x64]) [.agg #[.int .i64 x64.k.s, .int .i64 x64.k.p, .int .i64 x64.fr]] sl35 20 (sevp_cons (sv hs 62 rfl) sevp_nil) rfl rfl rfl rfl rfl rfl rfl rfl rfl)) ?_
     rintro g _ _ ⟨p65, C66, rfl, rfl, o66⟩
     exact ⟨⟨[p65], [], [C66]⟩, o66, .inr rfl, rfl⟩
    ·refine le rfl rfl (fun g hΦ s h hs hh => (stpU_append sl35 rfl (id := 18) (sv hs 55 rfl) rfl (sv hs 63 rfl) (by simp) (hh.get 18 _ rfl) o47 (Rdb.own (id := 20) (hh.get 20 _ rfl) (hΦ 12 rfl)) e67)) ?_
     rintro g _ _ ⟨p68, c69, C70, rfl, rfl, o70⟩
     exact ⟨⟨[p68], [c69], [C70]⟩, o70, .inr rfl, rfl⟩
    ·refine le rfl rfl (fun g hΦ s h hs hh => (stpU_call (fun i => i) cf45 (fun w hw => c_clip45 w ((g 13).A 0) ((x67).length) ((g 13).C 0) (OwnC.len (hΦ 13 rfl)).1) (yA (sv hs 64 rfl)))) ?_
     rintro g _ _ ⟨_, ⟨rfl, rfl⟩, rfl⟩
     exact ⟨⟨[], [], []⟩, trivial, .inr rfl, rfl⟩
    refine le rfl rfl (fun g hΦ s h hs hh => (stpU_keep (hh.get 18 _ rfl) (stpU_storeEl (id := 14) (i := 1) (⟨p38, (x36.n).length, c40, ((g 13).A 0), (x67).length, (x67).length⟩ : CpS) (by decide) ts35 (sv hs 67 rfl) (sv hs 65 rfl) (hh.get 14 _ rfl) o44 hx37 rfl rfl rfl rfl) (by rintro _ _ ⟨_, rfl, _⟩; rfl) (OwnC.clip (hΦ 13 rfl)))) ?_
    rintro g _ _ ⟨_, ⟨C71, rfl, o71⟩, rfl, o74⟩
    exact ⟨⟨[((g 13).A 0)], [(x67).length], [C71, ((g 13).R 0)]⟩, ⟨o71, o74⟩, .inl rfl, rfl⟩
   intro g hΦ
   refine kw_gen (ι := Option Addr × Res × Option Addr × Nat × Res × Option Addr × Nat × Res × Res) (((g 12).A 0), ((g 12).R 0), ((g 13).A 0), ((g 13).C 0), ((g 13).R 0), ((g 17).A 0), ((g 17).C 0), ((g 17).R 0), ((g 17).R 1)) (fun | (p65, C66, p68, c69, C70, p72, c73, C71, C74) => OwnC (α := Nt) 51 p65 1 ([x64]) C66 ∧ OwnC 51 p68 c69 x67 C70 ∧ OwnC (α := CpS) 37 p26 c28 (u37.set (Int.toNat v34) (⟨p38, (x36.n).length, c40, p72, (x67).length, c73⟩ : CpS)) C71 ∧ OwnC 51 p72 c73 x67 C74) (fun | (p65, C66, p68, c69, C70, p72, c73, C71, C74) => [(1, .int .i64 a1), (5, .pointer (some ⟨b2, 0, none⟩)), (6, .pointer (some ⟨b3, 0, none⟩)), (11, .pointer (some ⟨b30, 0, none⟩)), (12, .int .i64 v33), (37, .int .i64 ((x17.c).length : Int)), (38, .int .i64 v34)]) (fun | (p65, C66, p68, c69, C70, p72, c73, C71, C74) => [(1, [(b2, .cells #[.int .i64 a2.s, .int .i64 a2.p] 44 (0, 0))]), (2, [(b3, .cells #[.slice none 0 0, .slice none 0 0, .slice none 0 0] 29 (0, 0))]), (6, C10), (7, C14), (14, C71), (15, [(b30, .cells #[.slice p7 ((x6.1.b).length) c9, .slice p11 ((x6.1.f).length) c13, .slice p26 ((x17.c).length) c28] 29 (0, 0))]), (16, C45), (17, C46), (18, C74)]) ⟨(hΦ 12 (by decide)), (hΦ 13 (by decide)), (hΦ 17 (by decide)).1, (hΦ 17 (by decide)).2⟩ ⟨rfl, rfl, rfl, rfl, rfl, rfl, rfl, trivial⟩ ⟨rfl, rfl, rfl, rfl, rfl, rfl, rfl, rfl, rfl, trivial⟩ ?_
   rintro ⟨p65, C66, p68, c69, C70, p72, c73, C71, C74⟩ ⟨o66, o70, o71, o74⟩
   dsimp only
   obtain ⟨x75, e75, H1⟩ := bS H1
   obtain ⟨x76, e76, H1⟩ := bS H1
   refine kw_nx (cw_region (oM rfl (oP e75 rfl (oS rfl (ow_nil (kw_bl_normal (kw_bl_normal (kw_nx (cw_region (oP e76 rfl (oM rfl (ow_nil (kw_shut 14 16 17 18 o71 (Bun.setL (Bun.set hb45 _) _) (idx_some (idx_set hx37)).2.2 (idx_setD e36 (⟨x36.n, x67⟩ : Cp)) rfl o46 rfl o74 ?_)))))))))))))
   rintro C77 o77
   exact kw_lqS (js := [1, 2, 6, 7, 14, 15]) (fuel, (v31.set (Int.toNat v34) (⟨x36.n, x67⟩ : Cp)), x75, x76, C77) ⟨H1, (by simp [hl32]), o77⟩ (Nat.lt_succ_self _) ⟨rfl, rfl, rfl, rfl, rfl, rfl, rfl, trivial⟩ ⟨1, [2, 6, 7, 14, 15], rfl, rfl, 2, [6, 7, 14, 15], rfl, rfl, 6, [7, 14, 15], rfl, rfl, 7, [14, 15], rfl, rfl, 14, [15], rfl, rfl, 15, [], rfl, rfl, trivial⟩ (by decide)
  have H1 := cond_f H1 h35
  refine cw_exit (kw_nx_exit (kw_lq_exit (kw_bl ?_)))
  obtain rfl := sI H1
  exact kw_joinS (js := [1, 2, 6, 7, 14, 15]) (v31, v33, v34, C32) ⟨rfl, (by simp [hl32]), o32⟩ ⟨rfl, rfl, rfl, rfl, rfl, rfl, rfl, trivial⟩ ⟨1, [2, 6, 7, 14, 15], rfl, rfl, 2, [6, 7, 14, 15], rfl, rfl, 6, [7, 14, 15], rfl, rfl, 7, [14, 15], rfl, rfl, 14, [15], rfl, rfl, 15, [], rfl, rfl, trivial⟩ (by decide)
 rintro ⟨v31, v33, v34, C32⟩ ⟨rfl, hl32, o32⟩
 dsimp only
 refine kw_nx (sr (oB3 15 ts29 rfl (oM rfl (oC3 2 ts29 rfl rfl (oS rfl (oS rfl (nn (cw_ret ?_))))))))
 obtain rfl := sI H0
 exact kr Tryz.results17 (.cons (.cellN (us := [_, _, _]) ts29 rfl (Cells.box (id := 2) rfl 3 rfl)) (.cons (.tmp rfl) (rT rfl))) [6, 7, 14] ⟨_, _, _, _, _, _, _, _, _, _, _, _, rfl, rfl, rfl, o10, rfl, o14, (by simp [hl32]), o32⟩
end Go.Proofs.YtfnliecmagnkdabGreatDoor
