/- The walks: functions of the program return what their pure functions say. Printed by a program (gen.py). -/
import Derived.Test.YtkohlcjdagckhaaGreatDoorGp
import Derived.Test.YtkohlcjdagckhaaGreatDoorGt
import Derived.Test.YtkohlcjdagckhaaGreatDoorMan
import Derived.Test.YtkohlcjdagckhaaGreatDoorMap
import Derived.Test.YtkohlcjdagckhaaGreatDoorCpy
import Derived.Test.YtkohlcjdagckhaaGreatDoorE8
import Derived.Test.YtkohlcjdagckhaaGreatDoorGwab
import Derived.Test.YtkohlcjdagckhaaGreatDoorGwac
import Derived.Test.YtkohlcjdagckhaaGreatDoorGwad
import Derived.Test.YtkohlcjdagckhaaGreatDoorGwaj
import Derived.Test.YtkohlcjdagckhaaGreatDoorGwak
import Derived.Test.YtkohlcjdagckhaaGreatDoorGwal
import Derived.Test.YtkohlcjdagckhaaGreatDoorGwao
set_option linter.unusedSimpArgs false
set_option linter.unusedVariables false
set_option linter.unusedSectionVars false
namespace Go.Proofs.YtkohlcjdagckhaaGreatDoor
open Go.RowKit
set_option maxHeartbeats 4000000
set_option maxRecDepth 20000
variable {p0_0 p0_1 p0_2 p0_3 : Option Addr} {n0_0 n0_1 n0_2 n0_3 : Nat} {c0_0 c0_1 c0_2 c0_3 : Nat}
theorem c_i_UnmapPage (fl : Nat) (w : World) (a0 : T) (a1 : K) (hn0_0 : n0_0 = (a0.b).length) (hr0_0 : RO w (hkeys []) (RdL p0_0 c0_0 a0.b)) (hn0_1 : n0_1 = (a0.f).length) (hr0_1 : RO w (hkeys []) (RdL p0_1 c0_1 a0.f)) (hg : RO w (hkeys []) (fun w' => w'.rangeAt 0 0 [.bool false, .int .i64 0, .int .i64 0, .int .i64 0, .int .i64 (-1)])) (r : T × Bool) (H0 : i_UnmapPage fl a0 a1 = some r) :
  Ct Tryz.prog 70 [.agg #[.slice p0_0 n0_0 c0_0, .slice p0_1 n0_1 c0_1], .agg #[.int .i64 a1.s, .int .i64 a1.p]] w [] (fun rv h' => ∃ (x0 : Option Addr) (y0 z0 : Nat) (C0 : Res) (x1 : Option Addr) (y1 z1 : Nat) (C1 : Res), rv = .tuple #[.agg #[.slice x0 y0 z0, .slice x1 y1 z1], .bool r.2] ∧ h' = [(0, C0), (1, C1)] ∧ y0 = (r.1.b).length ∧ OwnC 3 x0 z0 r.1.b C0 ∧ y1 = (r.1.f).length ∧ OwnC 58 x1 z1 r.1.f C1) := by
 subst hn0_0 hn0_1
 unfold i_UnmapPage at H0
 refine ct_of_cw Tryz.func70 rfl Tryz.ntmps70 rfl (Sat.refl _ _) ?_
 refine sr (oE (stpU_box 0 rfl rfl) rfl ?_)
 rintro _ _ ⟨b1, rfl, rfl⟩
 refine oE (stpU_box 1 rfl rfl) rfl ?_
 rintro _ _ ⟨b2, rfl, rfl⟩
 refine oE (stpU_alloc 2 tz26 rfl) rfl ?_
 rintro _ _ ⟨b3, rfl, rfl⟩
 obtain ⟨x4, e4, H0⟩ := bS H0
 refine oS rfl (nn (cw_seq (sr (oB2 0 ts26 rfl (oE (stpU_call (fun i => 3 + i) cf54 (fun w hw => c_i_TableValid fl w a0 rfl (RO.pass hr0_0 hw) rfl (RO.pass hr0_1 hw) (RO.pass hg hw) x4 e4) (yA rfl)) rfl ?_)))))
 rintro _ _ ⟨_, ⟨rfl, rfl⟩, rfl⟩
 obtain ⟨y5, ey5, H0⟩ := bS H0
 refine oK rfl (oM rfl (ow_cutY 4 18 y5 ?_ ?_))
 ·rcases Bool.eq_false_or_eq_true (!x4) with hy5 | hy5
  ·have ey5 := cond_t ey5 hy5
   refine oO rfl hy5 rfl (oO rfl hy5 rfl (oO rfl hy5 rfl (oD (stp_pick_t rfl hy5 rfl) rfl ?_)))
   obtain rfl := sI ey5
   exact ow_nil (jy 4 0)
  have ey5 := cond_f ey5 hy5
  obtain ⟨x6, e6, ey5⟩ := bS ey5
  refine oG rfl hy5 (stp_loadN (us := [_, _]) ts47 rfl (Cells.box (id := 1) rfl 2 rfl)) rfl (ow_eff (.some rfl hy5) (stpU_call (fun i => 3 + i) cf76 (fun w hw => c_i_KeyValid fl w a1 x6 e6) (yA rfl)) rfl ?_)
  rintro _ _ ⟨_, ⟨rfl, rfl⟩, rfl⟩
  refine oG rfl hy5 (stp_not rfl) rfl (oD (stp_pick_f rfl hy5 rfl) rfl ?_)
  obtain rfl := sI ey5
  exact ow_nil (jy 4 0)
 obtain ⟨y7, ey7, H0⟩ := bS H0
 refine oM rfl (ow_cutY 5 24 y7 ?_ ?_)
 ·rcases Bool.eq_false_or_eq_true y5 with hy7 | hy7
  ·have ey7 := cond_t ey7 hy7
   refine oO rfl hy7 rfl (oO rfl hy7 rfl (oO rfl hy7 rfl (oO rfl hy7 rfl (oD (stp_pick_t rfl hy7 rfl) rfl ?_))))
   obtain rfl := sI ey7
   exact ow_nil (jy 5 0)
  have ey7 := cond_f ey7 hy7
  obtain ⟨x8, e8, ey7⟩ := bS ey7
  refine oG rfl hy7 (stp_loadN (us := [_, _]) ts26 rfl (Cells.box (id := 0) rfl 2 rfl)) rfl (oG rfl hy7 (stp_loadN (us := [_, _]) ts47 rfl (Cells.box (id := 1) rfl 2 rfl)) rfl (ow_eff (.some rfl hy7) (stpU_call (fun i => 3 + i) cf59 (fun w hw => c_i_Table_find fl w a0 a1 rfl (RO.pass hr0_0 hw) rfl (RO.pass hr0_1 hw) x8 e8) (yB rfl rfl)) rfl ?_))
  rintro _ _ ⟨_, ⟨rfl, rfl⟩, rfl⟩
  refine oG rfl hy7 (stp_lss rfl rfl) rfl (oD (stp_pick_f rfl hy7 rfl) rfl ?_)
  obtain rfl := sI ey7
  exact ow_nil (jy 5 0)
 refine ow_nil (kw_nx (cw_cond rfl (fun h9 => ?_) (fun h9 => ?_)))
 ·have H0 := cond_t H0 h9
  refine sr (oD (stp_build (cs := #[.slice none 0 0, .slice none 0 0]) sevp_nil bt26_0) rfl (oC2 2 ts26 rfl rfl (oS rfl (nn (cw_ret (kw_nx_ret (kw_addNil 3 (kw_addNil 4 ?_))))))))
  obtain rfl := sI H0
  exact kr Tryz.results70 (.cons (.cellN (us := [_, _]) ts26 rfl (Cells.box (id := 2) rfl 2 rfl)) (rT rfl)) [3, 4] ⟨_, _, _, _, _, _, _, _, rfl, rfl, rfl, (OwnC.nil _ _), rfl, (OwnC.nil _ _)⟩
 have H0 := cond_f H0 h9
 obtain ⟨x10, e10, H0⟩ := bS H0
 refine cw_skip (kw_nx (sr (oB2 0 ts26 rfl (oE (stpU_call (fun i => 5 + i) cf98 (fun w hw => c_i_Table_clone fl w a0 rfl (RO.pass hr0_0 hw) rfl (RO.pass hr0_1 hw) x10 e10) (yA rfl)) rfl ?_))))
 rintro _ _ ⟨_, ⟨p11, _, c13, C14, p15, _, c17, C18, rfl, rfl, rfl, o14, rfl, o18⟩, rfl⟩
 refine oE (stpU_alloc 7 tz26 rfl) rfl ?_
 rintro _ _ ⟨b19, rfl, rfl⟩
 obtain ⟨x20, e20, H0⟩ := bS H0
 refine oC2 7 ts26 rfl rfl (nn (sr (oB2 0 ts26 rfl (oB2 1 ts47 rfl (oE (stpU_call (fun i => 8 + i) cf59 (fun w hw => c_i_Table_find fl w a0 a1 rfl (RO.pass hr0_0 hw) rfl (RO.pass hr0_1 hw) x20 e20) (yB rfl rfl)) rfl ?_)))))
 rintro _ _ ⟨_, ⟨rfl, rfl⟩, rfl⟩
 obtain ⟨x21, e21, H0⟩ := bS H0
 refine oS rfl (nn (sr (oA 1 Tryz.underlying26 rfl ts24 rfl (oL 0 ts24 rfl (oM rfl (oD (stp_indexAddr Tryz.underlying24 ts58 (by decide) rfl rfl rfl (Rdb.ro hr0_1) e21) rfl (oA 4 Tryz.underlying58 rfl ts3 rfl (oD (stp_load1 ts3 rfl (Cells.el (Rdb.ro hr0_1) (by decide) e21 4 1 rfl)) rfl (oS rfl (nn (sr (oB2 1 ts47 rfl (oA 0 Tryz.underlying26 rfl ts23 rfl ?_)))))))))))))
 obtain ⟨x22, e22, H0⟩ := bS H0
 refine oL 0 ts23 rfl (oD (stp_len Tryz.underlying23 rfl) rfl (oE (stpU_call (fun i => 8 + i) cf78 (fun w hw => c_i_hash fl w a1 ((a0.b).length : Int) x22 e22) (yB rfl rfl)) rfl ?_))
 rintro _ _ ⟨_, ⟨rfl, rfl⟩, rfl⟩
 obtain ⟨x23, e23, H0⟩ := bS H0
 refine oS rfl (nn (cw_seq (sr (oA 0 Tryz.underlying26 rfl ts23 rfl (oL 7 ts23 rfl (oM rfl (oD (stp_indexAddr Tryz.underlying23 ts3 (by decide) rfl rfl rfl (Rdb.own (id := 5) rfl o14) e23) rfl (oD (stp_load1 ts3 rfl (Cells.el (Rdb.own (id := 5) rfl o14) (by decide) e23 0 1 rfl)) rfl (oM rfl (oQ rfl (nn (cw_cond rfl (fun h24 => ?_) (fun h24 => ?_)))))))))))))
 ·have H0 := cond_t H0 h24
  refine cw_region (oA 0 Tryz.underlying26 rfl ts23 rfl (oL 7 ts23 rfl (oM rfl (oM rfl (oD (stp_indexAddr Tryz.underlying23 ts3 (by decide) rfl rfl rfl (Rdb.own (id := 5) rfl o14) e23) rfl (oF (stpU_storeEl (id := 5) (i := 0) x21.nx (by decide) ts3 rfl rfl rfl o14 e23 rfl rfl rfl rfl) ?_))))))
  rintro _ _ ⟨C25, rfl, o25⟩
  obtain ⟨x26, e26, H0⟩ := bS H0
  refine nn (sr (oA 1 Tryz.underlying26 rfl ts24 rfl (oL 7 ts24 rfl (oM rfl (oD (stp_loadN (us := [_, _, _, _, _]) ts58 rfl (Cells.ofRO hg 5 rfl)) rfl (oD (stp_indexAddr Tryz.underlying24 ts58 (by decide) rfl rfl rfl (Rdb.own (id := 6) rfl o18) e26) rfl (oF (stpU_storeEl (id := 6) (i := 0) (⟨false, (⟨0, 0⟩ : K), 0, (-1)⟩ : F) (by decide) ts58 rfl rfl rfl o18 e26 rfl rfl rfl rfl) ?_)))))))
  rintro _ _ ⟨C27, rfl, o27⟩
  refine nn (sr (oB2 7 ts26 rfl (oC2 2 ts26 rfl rfl (oS rfl (nn (cw_ret ?_))))))
  obtain rfl := sI H0
  exact kr Tryz.results70 (.cons (.cellN (us := [_, _]) ts26 rfl (Cells.box (id := 2) rfl 2 rfl)) (rT rfl)) [5, 6] ⟨_, _, _, _, _, _, _, _, rfl, rfl, (by simp), o25, (by simp), o27⟩
 have H0 := cond_f H0 h24
 obtain ⟨o0_0, eo0_0, H0⟩ := bS H0
 refine sr (oA 1 Tryz.underlying26 rfl ts24 rfl (oL 7 ts24 rfl (oD (stp_len Tryz.underlying24 rfl) rfl (oM rfl (nn (cw_join (ι := (List F) × Int × Res) (fun | (v28, v30, C29) => o0_0 = .out (v28, v30) ∧ (x10.f).length = (v28).length ∧ OwnC 58 p15 c17 v28 C29) (fun | (v28, v30, C29) => [(4, .pointer (some ⟨b3, 0, none⟩)), (6, .pointer (some ⟨b19, 0, none⟩)), (7, .int .i64 x20), (8, .int .i64 x21.nx), (56, .int .i64 ((x10.f).length : Int)), (57, .int .i64 v30)]) (fun | (v28, v30, C29) => [(2, [(b3, .cells #[.slice none 0 0, .slice none 0 0] 26 (0, 0))]), (5, C14), (6, C29), (7, [(b19, .cells #[.slice p11 ((x10.b).length) c13, .slice p15 ((x10.f).length) c17] 26 (0, 0))])]) ?_ ?_))))))
 ·refine cw_block (cw_loopS (ι := Nat × (List F) × Int × Res) (js := [2, 5, 6, 7]) (fun x => x.1) (fun | (fuel, v28, v30, C29) => i_UnmapPage_L0 fl x10 x20 x21 fuel v28 v30 = some o0_0 ∧ (x10.f).length = (v28).length ∧ OwnC 58 p15 c17 v28 C29) (fun | (_, v28, v30, C29) => [(4, .pointer (some ⟨b3, 0, none⟩)), (6, .pointer (some ⟨b19, 0, none⟩)), (7, .int .i64 x20), (8, .int .i64 x21.nx), (56, .int .i64 ((x10.f).length : Int)), (57, .int .i64 v30)]) (fun | (_, v28, v30, C29) => [(2, [(b3, .cells #[.slice none 0 0, .slice none 0 0] 26 (0, 0))]), (5, C14), (6, C29), (7, [(b19, .cells #[.slice p11 ((x10.b).length) c13, .slice p15 ((x10.f).length) c17] 26 (0, 0))])]) (fl, x10.f, 0, C18) ⟨eo0_0, rfl, o18⟩ ⟨rfl, rfl, rfl, rfl, rfl, rfl, trivial⟩ ⟨2, [5, 6, 7], rfl, rfl, 5, [6, 7], rfl, rfl, 6, [7], rfl, rfl, 7, [], rfl, rfl, trivial⟩ (by decide) ?_)
  rintro ⟨fuel, v28, v30, C29⟩ ⟨H1, hl29, o29⟩
  have H1 : i_UnmapPage_L0 fl x10 x20 x21 fuel v28 v30 = some o0_0 := H1
  rcases fuel with _ | fuel
  ·rw [i_UnmapPage_L0.eq_1] at H1; cases H1
  rw [i_UnmapPage_L0.eq_2] at H1
  dsimp only
  refine sr (oW rfl (nn (cw_seq (cw_cond rfl (fun h31 => ?_) (fun h31 => ?_)))))
  ·have H1 := cond_t H1 h31
   obtain ⟨x32, e32, H1⟩ := bS H1
   refine cw_skip (kw_nx (cw_seq (cw_block (sr (oM rfl (oS rfl (nn (sr (oA 1 Tryz.underlying26 rfl ts24 rfl (oL 7 ts24 rfl (oM rfl (oD (stp_indexAddr Tryz.underlying24 ts58 (by decide) rfl (by simp [hl29]) rfl (Rdb.own (id := 6) rfl o29) e32) rfl (oA 0 Tryz.underlying58 rfl ts4 rfl ?_)))))))))))))
   obtain ⟨y33, ey33, H1⟩ := bS H1
   refine oD (stp_load1 ts4 rfl (Cells.el (Rdb.own (id := 6) rfl o29) (by decide) e32 0 1 rfl)) rfl (oM rfl (ow_cutY 9 75 y33 ?_ ?_))
   ·rcases Bool.eq_false_or_eq_true x32.u with hy33 | hy33
    ·have ey33 := cond_t ey33 hy33
     refine oG rfl hy33 (fA 1 Tryz.underlying26 rfl ts24 rfl rfl rfl) rfl (oG rfl hy33 (lB 7 ts24 rfl rfl rfl) rfl (oG rfl hy33 (mv rfl) rfl (oG rfl hy33 (stp_indexAddr Tryz.underlying24 ts58 (by decide) rfl (by simp [hl29]) rfl (Rdb.own (id := 6) rfl o29) e32) rfl (oG rfl hy33 (fA 4 Tryz.underlying58 rfl ts3 rfl rfl rfl) rfl (oG rfl hy33 (stp_load1 ts3 rfl (Cells.el (Rdb.own (id := 6) rfl o29) (by decide) e32 4 1 rfl)) rfl (oG rfl hy33 (mv rfl) rfl (oG rfl hy33 (stp_eql rfl rfl) rfl (oD (stp_pick_t rfl hy33 rfl) rfl ?_))))))))
     obtain rfl := sI ey33
     exact ow_nil (jy 9 0)
    have ey33 := cond_f ey33 hy33
    refine oO rfl hy33 rfl (oO rfl hy33 rfl (oO rfl hy33 rfl (oO rfl hy33 rfl (oO rfl hy33 rfl (oO rfl hy33 rfl (oO rfl hy33 rfl (oO rfl hy33 rfl (oD (stp_pick_f rfl hy33 rfl) rfl ?_))))))))
    obtain rfl := sI ey33
    exact ow_nil (jy 9 0)
   refine ow_nil (kw_nx (cw_cond rfl (fun h34 => ?_) (fun h34 => ?_)))
   ·have H1 := cond_t H1 h34
    refine cw_region (oA 1 Tryz.underlying26 rfl ts24 rfl (oL 7 ts24 rfl (oM rfl (oM rfl (oD (stp_indexAddr Tryz.underlying24 ts58 (by decide) rfl (by simp [hl29]) rfl (Rdb.own (id := 6) rfl o29) e32) rfl (oA 4 Tryz.underlying58 rfl ts3 rfl (oF (stpU_storeEl (id := 6) (i := 4) (⟨x32.u, x32.k, x32.r, x21.nx⟩ : F) (by decide) ts3 rfl rfl rfl o29 e32 rfl rfl rfl rfl) ?_)))))))
    rintro _ _ ⟨C35, rfl, o35⟩
    obtain ⟨x36, e36, H1⟩ := bS H1
    exact ow_nil (kw_bl_normal (kw_nx (cw_region (oP e36 rfl (oM rfl (ow_nil (kw_lqS (js := [2, 5, 6, 7]) (fuel, (v28.set (Int.toNat v30) (⟨x32.u, x32.k, x32.r, x21.nx⟩ : F)), x36, C35) ⟨H1, (by simp [hl29]), o35⟩ (Nat.lt_succ_self _) ⟨rfl, rfl, rfl, rfl, rfl, rfl, trivial⟩ ⟨2, [5, 6, 7], rfl, rfl, 5, [6, 7], rfl, rfl, 6, [7], rfl, rfl, 7, [], rfl, rfl, trivial⟩ (by decide))))))))
   have H1 := cond_f H1 h34
   obtain ⟨x37, e37, H1⟩ := bS H1
   exact cw_skip (kw_bl_normal (kw_nx (cw_region (oP e37 rfl (oM rfl (ow_nil (kw_lqS (js := [2, 5, 6, 7]) (fuel, v28, x37, C29) ⟨H1, (by simp [hl29]), o29⟩ (Nat.lt_succ_self _) ⟨rfl, rfl, rfl, rfl, rfl, rfl, trivial⟩ ⟨2, [5, 6, 7], rfl, rfl, 5, [6, 7], rfl, rfl, 6, [7], rfl, rfl, 7, [], rfl, rfl, trivial⟩ (by decide))))))))
  have H1 := cond_f H1 h31
  refine cw_exit (kw_nx_exit (kw_lq_exit (kw_bl ?_)))
  obtain rfl := sI H1
  exact kw_joinS (js := [2, 5, 6, 7]) (v28, v30, C29) ⟨rfl, (by simp [hl29]), o29⟩ ⟨rfl, rfl, rfl, rfl, rfl, rfl, trivial⟩ ⟨2, [5, 6, 7], rfl, rfl, 5, [6, 7], rfl, rfl, 6, [7], rfl, rfl, 7, [], rfl, rfl, trivial⟩ (by decide)
 rintro ⟨v28, v30, C29⟩ ⟨rfl, hl29, o29⟩
 dsimp only
 obtain ⟨x38, e38, H0⟩ := bS H0
 refine kw_nx (sr (oA 1 Tryz.underlying26 rfl ts24 rfl (oL 7 ts24 rfl (oM rfl (oD (stp_loadN (us := [_, _, _, _, _]) ts58 rfl (Cells.ofRO hg 5 rfl)) rfl (oD (stp_indexAddr Tryz.underlying24 ts58 (by decide) rfl (by simp [hl29]) rfl (Rdb.own (id := 6) rfl o29) e38) rfl (oF (stpU_storeEl (id := 6) (i := 0) (⟨false, (⟨0, 0⟩ : K), 0, (-1)⟩ : F) (by decide) ts58 rfl rfl rfl o29 e38 rfl rfl rfl rfl) ?_)))))))
 rintro _ _ ⟨C39, rfl, o39⟩
 refine nn (sr (oB2 7 ts26 rfl (oC2 2 ts26 rfl rfl (oS rfl (nn (cw_ret ?_))))))
 obtain rfl := sI H0
 exact kr Tryz.results70 (.cons (.cellN (us := [_, _]) ts26 rfl (Cells.box (id := 2) rfl 2 rfl)) (rT rfl)) [5, 6] ⟨_, _, _, _, _, _, _, _, rfl, rfl, rfl, o14, (by simp [hl29]), o39⟩

theorem c_i_TakePage (fl : Nat) (w : World) (a0 : Mc) (a1 : K) (hn0_0 : n0_0 = (a0.t.b).length) (hr0_0 : RO w (hkeys []) (RdL p0_0 c0_0 a0.t.b)) (hn0_1 : n0_1 = (a0.t.f).length) (hr0_1 : RO w (hkeys []) (RdL p0_1 c0_1 a0.t.f)) (hn0_2 : n0_2 = (a0.c.l).length) (hr0_2 : RO w (hkeys []) (RdL p0_2 c0_2 a0.c.l)) (hn0_3 : n0_3 = (a0.g.o).length) (hr0_3 : RO w (hkeys []) (RdL p0_3 c0_3 a0.g.o)) (hg : RO w (hkeys []) (fun w' => w'.rangeAt 0 0 [.bool false, .int .i64 0, .int .i64 0, .int .i64 0, .int .i64 (-1)])) (r : Mc × Bool) (H0 : i_TakePage fl a0 a1 = some r) :
  Ct Tryz.prog 25 [.agg #[.slice p0_0 n0_0 c0_0, .slice p0_1 n0_1 c0_1, .slice p0_2 n0_2 c0_2, .int .i64 a0.c.h, .int .i64 a0.g.c, .int .i64 a0.g.n, .int .i64 a0.g.r, .slice p0_3 n0_3 c0_3, .int .i64 a0.s], .agg #[.int .i64 a1.s, .int .i64 a1.p]] w [] (fun rv h' => ∃ (x0 : Option Addr) (y0 z0 : Nat) (C0 : Res) (x1 : Option Addr) (y1 z1 : Nat) (C1 : Res) (x2 : Option Addr) (y2 z2 : Nat) (C2 : Res) (x3 : Option Addr) (y3 z3 : Nat) (C3 : Res), rv = .tuple #[.agg #[.slice x0 y0 z0, .slice x1 y1 z1, .slice x2 y2 z2, .int .i64 r.1.c.h, .int .i64 r.1.g.c, .int .i64 r.1.g.n, .int .i64 r.1.g.r, .slice x3 y3 z3, .int .i64 r.1.s], .bool r.2] ∧ h' = [(0, C0), (1, C1), (2, C2), (3, C3)] ∧ y0 = (r.1.t.b).length ∧ OwnC 3 x0 z0 r.1.t.b C0 ∧ y1 = (r.1.t.f).length ∧ OwnC 58 x1 z1 r.1.t.f C1 ∧ y2 = (r.1.c.l).length ∧ OwnC 41 x2 z2 r.1.c.l C2 ∧ y3 = (r.1.g.o).length ∧ OwnC 118 x3 z3 r.1.g.o C3) := by
 subst hn0_0 hn0_1 hn0_2 hn0_3
 unfold i_TakePage at H0
 refine ct_of_cw Tryz.func25 rfl Tryz.ntmps25 rfl (Sat.refl _ _) ?_
 refine sr (oE (stpU_box 0 rfl rfl) rfl ?_)
 rintro _ _ ⟨b1, rfl, rfl⟩
 refine oE (stpU_box 1 rfl rfl) rfl ?_
 rintro _ _ ⟨b2, rfl, rfl⟩
 refine oE (stpU_alloc 2 tz34 rfl) rfl ?_
 rintro _ _ ⟨b3, rfl, rfl⟩
 obtain ⟨x4, e4, H0⟩ := bS H0
 refine oS rfl (nn (cw_seq (sr (oB9 0 ts34 rfl (oE (stpU_call (fun i => 3 + i) cf19 (fun w hw => c_i_MachineValid fl w a0 rfl (RO.pass hr0_0 hw) rfl (RO.pass hr0_1 hw) rfl (RO.pass hr0_2 hw) rfl (RO.pass hr0_3 hw) (RO.pass hg hw) x4 e4) (yA rfl)) rfl ?_)))))
 rintro _ _ ⟨_, ⟨rfl, rfl⟩, rfl⟩
 refine oK rfl (nn (cw_cond rfl (fun h5 => ?_) (fun h5 => ?_)))
 ·have H0 := cond_t H0 h5
  refine sr (oD (stp_build (cs := #[.slice none 0 0, .slice none 0 0, .slice none 0 0, .int .i64 0, .int .i64 0, .int .i64 0, .int .i64 0, .slice none 0 0, .int .i64 0]) sevp_nil bt34_6) rfl (oC9 2 ts34 rfl rfl (oS rfl (nn (cw_ret (kw_nx_ret (kw_addNil 3 (kw_addNil 4 (kw_addNil 5 (kw_addNil 6 ?_))))))))))
  obtain rfl := sI H0
  exact kr Tryz.results25 (.cons (.cellN (us := [_, _, _, _, _, _, _, _, _]) ts34 rfl (Cells.box (id := 2) rfl 9 rfl)) (rT rfl)) [3, 4, 5, 6] ⟨_, _, _, _, _, _, _, _, _, _, _, _, _, _, _, _, rfl, rfl, rfl, (OwnC.nil _ _), rfl, (OwnC.nil _ _), rfl, (OwnC.nil _ _), rfl, (OwnC.nil _ _)⟩
 have H0 := cond_f H0 h5
 obtain ⟨x6, e6, H0⟩ := bS H0
 refine cw_skip (kw_nx (sr (oA 0 Tryz.underlying34 rfl ts26 rfl (oB2 0 ts26 rfl (oB2 1 ts47 rfl (oE (stpU_call (fun i => 7 + i) cf70 (fun w hw => c_i_UnmapPage fl w a0.t a1 rfl (RO.pass hr0_0 hw) rfl (RO.pass hr0_1 hw) (RO.pass hg hw) x6 e6) (yB rfl rfl)) rfl ?_))))))
 rintro _ _ ⟨_, ⟨p7, _, c9, C10, p11, _, c13, C14, rfl, rfl, rfl, o10, rfl, o14⟩, rfl⟩
 refine oM rfl (oT rfl (oT rfl (oE (stpU_alloc 9 tz26 rfl) rfl ?_)))
 rintro _ _ ⟨b15, rfl, rfl⟩
 refine oC2 9 ts26 rfl rfl (oS rfl (nn (cw_seq (sr (oM rfl (oK rfl (nn (cw_cond rfl (fun h16 => ?_) (fun h16 => ?_)))))))))
 ·have H0 := cond_t H0 h16
  refine sr (oD (stp_build (cs := #[.slice none 0 0, .slice none 0 0, .slice none 0 0, .int .i64 0, .int .i64 0, .int .i64 0, .int .i64 0, .slice none 0 0, .int .i64 0]) sevp_nil bt34_6) rfl (oC9 2 ts34 rfl rfl (oS rfl (nn (cw_ret (kw_nx_ret (kw_addNil 10 (kw_addNil 11 (kw_addNil 12 (kw_addNil 13 ?_))))))))))
  obtain rfl := sI H0
  exact kr Tryz.results25 (.cons (.cellN (us := [_, _, _, _, _, _, _, _, _]) ts34 rfl (Cells.box (id := 2) rfl 9 rfl)) (rT rfl)) [10, 11, 12, 13] ⟨_, _, _, _, _, _, _, _, _, _, _, _, _, _, _, _, rfl, rfl, rfl, (OwnC.nil _ _), rfl, (OwnC.nil _ _), rfl, (OwnC.nil _ _), rfl, (OwnC.nil _ _)⟩
 have H0 := cond_f H0 h16
 obtain ⟨x17, e17, H0⟩ := bS H0
 refine cw_skip (kw_nx (sr (oB9 0 ts34 rfl (oB2 9 ts26 rfl (oB2 1 ts47 rfl (oE (stpU_callM (fun i => bif Nat.beq i 0 then 7 else bif Nat.beq i 1 then 8 else 14 + i) cf71 (fun w hw hb => c_i_Machine_dropped fl w a0 x6.1 a1 rfl (RO.passM hr0_0 hw hb) rfl (RO.passM hr0_1 hw hb) rfl (RO.passM hr0_2 hw hb) rfl (RO.passM hr0_3 hw hb) rfl o10 rfl o14 (hw.pass (js := [7, 8]) ⟨7, [8], rfl, rfl, 8, [], rfl, rfl, trivial⟩ (by decide)) x17 e17) (yC rfl rfl rfl) ⟨rfl, (fun _ _ hp => by obtain ⟨_, _, _, _, _, _, _, _, _, _, _, _, _, _, _, _, _, rfl, _⟩ := hp; exact ⟨_, rfl⟩), rfl, (fun _ _ hp => by obtain ⟨_, _, _, _, _, _, _, _, _, _, _, _, _, _, _, _, _, rfl, _⟩ := hp; exact ⟨_, rfl⟩), trivial⟩) rfl ?_))))))
 rintro _ _ ⟨_, ⟨p18, _, c20, C21, p22, _, c24, C25, p26, _, c28, C29, p30, _, c32, C33, rfl, rfl, rfl, o21, rfl, o25, rfl, o29, rfl, o33⟩, rfl⟩
 refine oC9 2 ts34 rfl rfl (oS rfl (nn (cw_ret ?_)))
 obtain rfl := sI H0
 exact kr Tryz.results25 (.cons (.cellN (us := [_, _, _, _, _, _, _, _, _]) ts34 rfl (Cells.box (id := 2) rfl 9 rfl)) (rT rfl)) [16, 17, 18, 19] ⟨_, _, _, _, _, _, _, _, _, _, _, _, _, _, _, _, rfl, rfl, rfl, o21, rfl, o25, rfl, o29, rfl, o33⟩

theorem c_l_FnPutPage (fl : Nat) (w : World) (a0 : (List UInt8)) (hn0_0 : n0_0 = (a0).length) (hr0_0 : RO w (hkeys []) (RdL p0_0 c0_0 a0)) (hg : RO w (hkeys []) (fun w' => w'.rangeAt 0 0 [.bool false, .int .i64 0, .int .i64 0, .int .i64 0, .int .i64 (-1)])) (r : Bool) (H0 : l_FnPutPage fl a0 = some r) :
  Ct Tryz.prog 5 [.slice p0_0 n0_0 c0_0] w [] (fun rv h' => rv = .bool r ∧ h' = []) := by
 subst hn0_0
 unfold l_FnPutPage at H0
 refine ct_of_cw Tryz.func5 rfl Tryz.ntmps5 rfl (Sat.refl _ _) ?_
 refine sr (oS rfl (nn (cw_seq (sr (oM rfl (oD (stp_len Tryz.underlying22 rfl) rfl (oJ rfl (nn (cw_cond rfl (fun h1 => ?_) (fun h1 => ?_))))))))))
 ·have H0 := cond_t H0 h1
  refine sr (oS rfl (nn (cw_ret (kw_nx_ret ?_))))
  obtain rfl := sI H0
  exact kr Tryz.results5 (rT rfl) [] ⟨rfl, rfl⟩
 have H0 := cond_f H0 h1
 obtain ⟨x2, e2, H0⟩ := bS H0
 refine cw_skip (kw_nx (sr (oM rfl (oE (stpU_call (fun i => 0 + i) cf22 (fun w hw => c_s_DrawPutPage fl w a0 rfl (RO.pass hr0_0 hw) x2 e2) (yA rfl)) rfl ?_))))
 rintro _ _ ⟨_, ⟨p3, _, c5, C6, p7, _, c9, C10, p11, _, c13, C14, p15, _, c17, C18, rfl, rfl, rfl, o6, rfl, o10, rfl, o14, rfl, o18⟩, rfl⟩
 refine oM rfl (oT rfl (oT rfl (oT rfl (oT rfl (oE (stpU_alloc 4 tz34 rfl) rfl ?_)))))
 rintro _ _ ⟨b19, rfl, rfl⟩
 refine oE (stpU_alloc 5 tz47 rfl) rfl ?_
 rintro _ _ ⟨b20, rfl, rfl⟩
 obtain ⟨x21, e21, H0⟩ := bS H0
 refine oC9 4 ts34 rfl rfl (oC2 5 ts47 rfl rfl (oS rfl (oS rfl (nn (sr (oB9 4 ts34 rfl (oB2 5 ts47 rfl (oM rfl (oM rfl (oE (stpU_call (fun i => 6 + i) cf23 (fun w hw => c_i_PutPage fl w x2.1 x2.2.1 x2.2.2.1 x2.2.2.2 rfl (OwnC.pass (id := 0) rfl o6 hw) rfl (OwnC.pass (id := 1) rfl o10 hw) rfl (OwnC.pass (id := 2) rfl o14 hw) rfl (OwnC.pass (id := 3) rfl o18 hw) (RO.pass hg hw) x21 e21) (yD rfl rfl rfl rfl)) rfl ?_))))))))))
 rintro _ _ ⟨_, ⟨p22, _, c24, C25, p26, _, c28, C29, p30, _, c32, C33, p34, _, c36, C37, rfl, rfl, rfl, o25, rfl, o29, rfl, o33, rfl, o37⟩, rfl⟩
 refine oM rfl (oT rfl (oT rfl (oE (stpU_alloc 10 tz34 rfl) rfl ?_)))
 rintro _ _ ⟨b38, rfl, rfl⟩
 obtain ⟨x39, e39, H0⟩ := bS H0
 refine oC9 10 ts34 rfl rfl (oS rfl (nn (sr (oB9 4 ts34 rfl (oB2 5 ts47 rfl (oM rfl (oM rfl (oE (stpU_call (fun i => 11 + i) cf24 (fun w hw => c_s_PutPage fl w x2.1 x2.2.1 x2.2.2.1 x2.2.2.2 rfl (OwnC.pass (id := 0) rfl o6 hw) rfl (OwnC.pass (id := 1) rfl o10 hw) rfl (OwnC.pass (id := 2) rfl o14 hw) rfl (OwnC.pass (id := 3) rfl o18 hw) x39 e39) (yD rfl rfl rfl rfl)) rfl ?_))))))))
 rintro _ _ ⟨_, ⟨p40, _, c42, C43, p44, _, c46, C47, p48, _, c50, C51, p52, _, c54, C55, rfl, rfl, rfl, o43, rfl, o47, rfl, o51, rfl, o55⟩, rfl⟩
 refine oM rfl (oT rfl (oT rfl (oE (stpU_alloc 15 tz34 rfl) rfl ?_)))
 rintro _ _ ⟨b56, rfl, rfl⟩
 obtain ⟨x57, e57, H0⟩ := bS H0
 refine oC9 15 ts34 rfl rfl (oS rfl (nn (cw_seq (sr (oB9 10 ts34 rfl (oB9 15 ts34 rfl (oE (stpU_call (fun i => 16 + i) cf18 (fun w hw => c_i_MachineSame fl w x21.1 x39.1 rfl (OwnC.pass (id := 6) rfl o25 hw) rfl (OwnC.pass (id := 7) rfl o29 hw) rfl (OwnC.pass (id := 8) rfl o33 hw) rfl (OwnC.pass (id := 9) rfl o37 hw) rfl (OwnC.pass (id := 11) rfl o43 hw) rfl (OwnC.pass (id := 12) rfl o47 hw) rfl (OwnC.pass (id := 13) rfl o51 hw) rfl (OwnC.pass (id := 14) rfl o55 hw) x57 e57) (yB rfl rfl)) rfl ?_)))))))
 rintro _ _ ⟨_, ⟨rfl, rfl⟩, rfl⟩
 obtain ⟨y58, ey58, H0⟩ := bS H0
 refine oK rfl (oM rfl (ow_cutY 4 47 y58 ?_ ?_))
 ·rcases Bool.eq_false_or_eq_true (!x57) with hy58 | hy58
  ·have ey58 := cond_t ey58 hy58
   refine oO rfl hy58 rfl (oO rfl hy58 rfl (oO rfl hy58 rfl (oD (stp_pick_t rfl hy58 rfl) rfl ?_)))
   obtain rfl := sI ey58
   exact ow_nil (jy 4 0)
  have ey58 := cond_f ey58 hy58
  refine oG rfl hy58 (mv rfl) rfl (oG rfl hy58 (mv rfl) rfl (oG rfl hy58 (stp_neqB Tryz.underlying4 rfl rfl) rfl (oD (stp_pick_f rfl hy58 rfl) rfl ?_)))
  obtain rfl := sI ey58
  exact ow_nil (jy 4 0)
 obtain ⟨y59, ey59, H0⟩ := bS H0
 refine oM rfl (ow_cutY 3 51 y59 ?_ ?_)
 ·rcases Bool.eq_false_or_eq_true y58 with hy59 | hy59
  ·have ey59 := cond_t ey59 hy59
   refine oO rfl hy59 rfl (oO rfl hy59 rfl (oD (stp_pick_t rfl hy59 rfl) rfl ?_))
   obtain rfl := sI ey59
   exact ow_nil (jy 3 0)
  have ey59 := cond_f ey59 hy59
  refine oG rfl hy59 (mv rfl) rfl (oG rfl hy59 (stp_not rfl) rfl (oD (stp_pick_f rfl hy59 rfl) rfl ?_))
  obtain rfl := sI ey59
  exact ow_nil (jy 3 0)
 refine ow_nil (kw_nx (cw_cond rfl (fun h60 => ?_) (fun h60 => ?_)))
 ·have H0 := cond_t H0 h60
  refine sr (oB9 10 ts34 rfl (oB9 15 ts34 rfl (oE (stpU_call (fun i => 16 + i) cf18 (fun w hw => c_i_MachineSame fl w x21.1 x39.1 rfl (OwnC.pass (id := 6) rfl o25 hw) rfl (OwnC.pass (id := 7) rfl o29 hw) rfl (OwnC.pass (id := 8) rfl o33 hw) rfl (OwnC.pass (id := 9) rfl o37 hw) rfl (OwnC.pass (id := 11) rfl o43 hw) rfl (OwnC.pass (id := 12) rfl o47 hw) rfl (OwnC.pass (id := 13) rfl o51 hw) rfl (OwnC.pass (id := 14) rfl o55 hw) x57 e57) (yB rfl rfl)) rfl ?_)))
  rintro _ _ ⟨_, ⟨rfl, rfl⟩, rfl⟩
  obtain ⟨y61, ey61, H0⟩ := bS H0
  refine oM rfl (ow_cutY 4 59 y61 ?_ ?_)
  ·rcases Bool.eq_false_or_eq_true x57 with hy61 | hy61
   ·have ey61 := cond_t ey61 hy61
    refine oG rfl hy61 (mv rfl) rfl (oG rfl hy61 (mv rfl) rfl (oG rfl hy61 (stp_eqlB Tryz.underlying4 rfl rfl) rfl (oD (stp_pick_t rfl hy61 rfl) rfl ?_)))
    obtain rfl := sI ey61
    exact ow_nil (jy 4 0)
   have ey61 := cond_f ey61 hy61
   refine oO rfl hy61 rfl (oO rfl hy61 rfl (oO rfl hy61 rfl (oD (stp_pick_f rfl hy61 rfl) rfl ?_)))
   obtain rfl := sI ey61
   exact ow_nil (jy 4 0)
  refine oS rfl (nn (cw_ret (kw_nx_ret ?_)))
  obtain rfl := sI H0
  exact kr Tryz.results5 (rT rfl) [] ⟨rfl, rfl⟩
 have H0 := cond_f H0 h60
 obtain ⟨x62, e62, H0⟩ := bS H0
 refine cw_skip (kw_nx (sr (oB9 10 ts34 rfl (oB2 5 ts47 rfl (oE (stpU_call (fun i => 16 + i) cf25 (fun w hw => c_i_TakePage fl w x21.1 x2.2.1 rfl (OwnC.pass (id := 6) rfl o25 hw) rfl (OwnC.pass (id := 7) rfl o29 hw) rfl (OwnC.pass (id := 8) rfl o33 hw) rfl (OwnC.pass (id := 9) rfl o37 hw) (RO.pass hg hw) x62 e62) (yB rfl rfl)) rfl ?_)))))
 rintro _ _ ⟨_, ⟨p63, _, c65, C66, p67, _, c69, C70, p71, _, c73, C74, p75, _, c77, C78, rfl, rfl, rfl, o66, rfl, o70, rfl, o74, rfl, o78⟩, rfl⟩
 refine oM rfl (oT rfl (oT rfl (oE (stpU_alloc 20 tz34 rfl) rfl ?_)))
 rintro _ _ ⟨b79, rfl, rfl⟩
 obtain ⟨x80, e80, H0⟩ := bS H0
 refine oC9 20 ts34 rfl rfl (oS rfl (nn (sr (oB9 10 ts34 rfl (oE (stpU_call (fun i => 21 + i) cf19 (fun w hw => c_i_MachineValid fl w x21.1 rfl (OwnC.pass (id := 6) rfl o25 hw) rfl (OwnC.pass (id := 7) rfl o29 hw) rfl (OwnC.pass (id := 8) rfl o33 hw) rfl (OwnC.pass (id := 9) rfl o37 hw) (RO.pass hg hw) x80 e80) (yA rfl)) rfl ?_)))))
 rintro _ _ ⟨_, ⟨rfl, rfl⟩, rfl⟩
 obtain ⟨y81, ey81, H0⟩ := bS H0
 refine oM rfl (ow_cutY 2 70 y81 ?_ ?_)
 ·rcases Bool.eq_false_or_eq_true x80 with hy81 | hy81
  ·have ey81 := cond_t ey81 hy81
   refine oG rfl hy81 (mv rfl) rfl (oD (stp_pick_t rfl hy81 rfl) rfl ?_)
   obtain rfl := sI ey81
   exact ow_nil (jy 2 0)
  have ey81 := cond_f ey81 hy81
  refine oO rfl hy81 rfl (oD (stp_pick_f rfl hy81 rfl) rfl ?_)
  obtain rfl := sI ey81
  exact ow_nil (jy 2 0)
 obtain ⟨y82, ey82, H0⟩ := bS H0
 refine oM rfl (ow_cutY 4 75 y82 ?_ ?_)
 ·rcases Bool.eq_false_or_eq_true y81 with hy82 | hy82
  ·have ey82 := cond_t ey82 hy82
   obtain ⟨x83, e83, ey82⟩ := bS ey82
   refine oG rfl hy82 (stp_loadN (us := [_, _, _, _, _, _, _, _, _]) ts34 rfl (Cells.box (id := 20) rfl 9 rfl)) rfl (oG rfl hy82 (stp_loadN (us := [_, _, _, _, _, _, _, _, _]) ts34 rfl (Cells.box (id := 4) rfl 9 rfl)) rfl (ow_eff (.some rfl hy82) (stpU_call (fun i => 21 + i) cf18 (fun w hw => c_i_MachineSame fl w x62.1 x2.1 rfl (OwnC.pass (id := 16) rfl o66 hw) rfl (OwnC.pass (id := 17) rfl o70 hw) rfl (OwnC.pass (id := 18) rfl o74 hw) rfl (OwnC.pass (id := 19) rfl o78 hw) rfl (OwnC.pass (id := 0) rfl o6 hw) rfl (OwnC.pass (id := 1) rfl o10 hw) rfl (OwnC.pass (id := 2) rfl o14 hw) rfl (OwnC.pass (id := 3) rfl o18 hw) x83 e83) (yB rfl rfl)) rfl ?_))
   rintro _ _ ⟨_, ⟨rfl, rfl⟩, rfl⟩
   refine oD (stp_pick_t rfl hy82 rfl) rfl ?_
   obtain rfl := sI ey82
   exact ow_nil (jy 4 0)
  have ey82 := cond_f ey82 hy82
  refine oO rfl hy82 rfl (oO rfl hy82 rfl (oO rfl hy82 rfl (oD (stp_pick_f rfl hy82 rfl) rfl ?_)))
  obtain rfl := sI ey82
  exact ow_nil (jy 4 0)
 refine oS rfl (nn (cw_ret ?_))
 obtain rfl := sI H0
 exact kr Tryz.results5 (rT rfl) [] ⟨rfl, rfl⟩
end Go.Proofs.YtkohlcjdagckhaaGreatDoor
