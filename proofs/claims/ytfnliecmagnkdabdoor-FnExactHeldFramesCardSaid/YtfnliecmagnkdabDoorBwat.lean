/- The walks: functions of the program return what their pure functions say. Printed by a program (gen.py). -/
import Derived.Test.YtfnliecmagnkdabDoorBp
import Derived.Test.YtfnliecmagnkdabDoorBt
import Derived.Test.YtfnliecmagnkdabDoorMan
import Derived.Test.YtfnliecmagnkdabDoorMap
import Derived.Test.YtfnliecmagnkdabDoorCpy
import Derived.Test.YtfnliecmagnkdabDoorClr
import Derived.Test.YtfnliecmagnkdabDoorDp
import Derived.Test.YtfnliecmagnkdabDoorSrt
import Derived.Test.YtfnliecmagnkdabDoorE8
import Derived.Test.YtfnliecmagnkdabDoorBwab
import Derived.Test.YtfnliecmagnkdabDoorBwak
import Derived.Test.YtfnliecmagnkdabDoorBws
set_option linter.unusedSimpArgs false
set_option linter.unusedVariables false
set_option linter.unusedSectionVars false
namespace Go.Proofs.YtfnliecmagnkdabDoor
open Go.RowKit
set_option maxHeartbeats 4000000
set_option maxRecDepth 20000
variable {p0_0 p0_1 p0_2 : Option Addr} {n0_0 n0_1 n0_2 : Nat} {c0_0 c0_1 c0_2 : Nat} {C0_0 : Res}
theorem c_s_HeldFrames (fl : Nat) (w : World) (a0 : Sy) (hn0_0 : n0_0 = (a0.t.b).length) (hr0_0 : RO w (hkeys []) (RdL p0_0 c0_0 a0.t.b)) (hn0_1 : n0_1 = (a0.t.f).length) (hr0_1 : RO w (hkeys []) (RdL p0_1 c0_1 a0.t.f)) (hn0_2 : n0_2 = (a0.c).length) (hr0_2 : ROD w (hkeys []) p0_2 c0_2 a0.c) (r : (List Int)) (H0 : s_HeldFrames fl a0 = some r) :
  Ct Tryd.prog 28 [.agg #[.slice p0_0 n0_0 c0_0, .slice p0_1 n0_1 c0_1, .slice p0_2 n0_2 c0_2]] w [] (fun rv h' => ∃ (x0 : Option Addr) (y0 z0 : Nat) (C0 : Res), rv = .slice x0 y0 z0 ∧ h' = [(0, C0)] ∧ y0 = (r).length ∧ OwnC 3 x0 z0 r C0) := by
 subst hn0_0 hn0_1 hn0_2
 unfold s_HeldFrames at H0
 refine ct_of_cw Tryd.func28 rfl Tryd.ntmps28 rfl (Sat.refl _ _) ?_
 refine sr (oE (stpU_box 0 rfl rfl) rfl ?_)
 rintro _ _ ⟨b1, rfl, rfl⟩
 refine oS rfl (nn (sr (oE (stpU_lit0 sl22 1) rfl ?_)))
 rintro _ _ ⟨p2, C3, rfl, rfl, o3⟩
 obtain ⟨o0_0, eo0_0, H0⟩ := bS H0
 refine oS rfl (nn (cw_seq (sr (oS rfl (nn (cw_join (ι := (List Int) × Int × Option Addr × Nat × Nat × Res) (fun | (v4, v9, p5, n6, c7, C8) => o0_0 = .out (v4, v9) ∧ n6 = (v4).length ∧ OwnC 3 p5 c7 v4 C8) (fun | (v4, v9, p5, n6, c7, C8) => [(1, .pointer (some ⟨b1, 0, none⟩)), (3, .slice p5 n6 c7), (4, .int .i64 v9)]) (fun | (v4, v9, p5, n6, c7, C8) => [(0, [(b1, .cells #[.slice p0_0 ((a0.t.b).length) c0_0, .slice p0_1 ((a0.t.f).length) c0_1, .slice p0_2 ((a0.c).length) c0_2] 37 (0, 0))]), (1, C8)]) ?_ ?_))))))
 ·refine cw_block (cw_loopS (ι := Nat × (List Int) × Int × Option Addr × Nat × Nat × Res) (js := [0, 1]) (fun x => x.1) (fun | (fuel, v4, v9, p5, n6, c7, C8) => s_HeldFrames_L0 fl a0 fuel v4 v9 = some o0_0 ∧ n6 = (v4).length ∧ OwnC 3 p5 c7 v4 C8) (fun | (_, v4, v9, p5, n6, c7, C8) => [(1, .pointer (some ⟨b1, 0, none⟩)), (3, .slice p5 n6 c7), (4, .int .i64 v9)]) (fun | (_, v4, v9, p5, n6, c7, C8) => [(0, [(b1, .cells #[.slice p0_0 ((a0.t.b).length) c0_0, .slice p0_1 ((a0.t.f).length) c0_1, .slice p0_2 ((a0.c).length) c0_2] 37 (0, 0))]), (1, C8)]) (fl, ([] : List Int), 0, p2, 0, 0, C3) ⟨eo0_0, (by simp), o3⟩ ⟨rfl, rfl, rfl, trivial⟩ ⟨0, [1], rfl, rfl, 1, [], rfl, rfl, trivial⟩ (by decide) ?_)
  rintro ⟨fuel, v4, v9, p5, _, c7, C8⟩ ⟨H1, rfl, o8⟩
  have H1 : s_HeldFrames_L0 fl a0 fuel v4 v9 = some o0_0 := H1
  rcases fuel with _ | fuel
  ·rw [s_HeldFrames_L0.eq_1] at H1; cases H1
  rw [s_HeldFrames_L0.eq_2] at H1
  dsimp only
  obtain ⟨y10, ey10, H1⟩ := bS H1
  refine cw_seq (sr (oM rfl (oA 0 Tryd.underlying37 rfl ts34 rfl (oA 1 Tryd.underlying34 rfl ts32 rfl (oL 0 ts32 rfl (oD (stp_len Tryd.underlying32 rfl) rfl (oW rfl (oM rfl (ow_cutY 3 15 y10 ?_ ?_)))))))))
  ·rcases Bool.eq_false_or_eq_true (decide (v9 < ((a0.t.f).length : Int))) with hy10 | hy10
   ·have ey10 := cond_t ey10 hy10
    obtain ⟨x11, e11, ey10⟩ := bS ey10
    refine oG rfl hy10 (stp_loadN (us := [_, _, _]) ts37 rfl (Cells.box (id := 0) rfl 3 rfl)) rfl (ow_eff (.some rfl hy10) (stpU_call (fun i => 2 + i) cf66 (fun w hw => c_s_SystemValid fl w a0 rfl (RO.pass hr0_0 hw) rfl (RO.pass hr0_1 hw) rfl (ROD.pass hr0_2 hw) x11 e11) (yA rfl)) rfl ?_)
    rintro _ _ ⟨_, ⟨rfl, rfl⟩, rfl⟩
    refine oD (stp_pick_t rfl hy10 rfl) rfl ?_
    obtain rfl := sI ey10
    exact ow_nil (jy 3 0)
   have ey10 := cond_f ey10 hy10
   refine oO rfl hy10 rfl (oO rfl hy10 rfl (oD (stp_pick_f rfl hy10 rfl) rfl ?_))
   obtain rfl := sI ey10
   exact ow_nil (jy 3 0)
  refine ow_nil (kw_nx (cw_cond rfl (fun h12 => ?_) (fun h12 => ?_)))
  ·have H1 := cond_t H1 h12
   obtain ⟨x13, e13, H1⟩ := bS H1
   refine cw_skip (kw_nx (cw_seq (cw_block (sr (oB3 0 ts37 rfl (oM rfl (oD (stp_build (cs := #[.int .i64 (-1), .int .i64 0]) (sevp_cons rfl sevp_nil) bt41_11) rfl (oE (stpU_call (fun i => 2 + i) cf67 (fun w hw => c_s_l8Held fl w a0 v9 (⟨(-1), 0⟩ : K) rfl (RO.pass hr0_0 hw) rfl (RO.pass hr0_1 hw) rfl (ROD.pass hr0_2 hw) x13 e13) (yC rfl rfl rfl)) rfl ?_))))))))
   rintro _ _ ⟨_, ⟨rfl, rfl⟩, rfl⟩
   refine nn (cw_cond rfl (fun h14 => ?_) (fun h14 => ?_))
   ·have H1 := cond_t H1 h14
    refine cw_region (oM rfl (oM rfl (oE (stpU_lit (sz := 1) (l := [v9]) [.int .i64 v9] sl22 2 (sevp_cons rfl sevp_nil) rfl rfl rfl rfl rfl rfl rfl rfl rfl) rfl ?_)))
    rintro _ _ ⟨p15, C16, rfl, rfl, o16⟩
    obtain ⟨x17, e17, H1⟩ := bS H1
    refine oE (stpU_append sl22 rfl (id := 1) rfl rfl rfl (by simp) rfl o8 (Rdb.own (id := 2) rfl o16) e17) rfl ?_
    rintro _ _ ⟨p18, c19, C20, rfl, rfl, o20⟩
    obtain ⟨x21, e21, H1⟩ := bS H1
    exact oS rfl (ow_nil (kw_bl_normal (kw_nx (cw_region (oM rfl (oP e21 rfl (oS rfl (ow_nil (kw_lqS (js := [0, 1]) (fuel, x17, x21, p18, ((x17).length), c19, C20) ⟨H1, rfl, o20⟩ (Nat.lt_succ_self _) ⟨rfl, rfl, rfl, trivial⟩ ⟨0, [1], rfl, rfl, 1, [], rfl, rfl, trivial⟩ (by decide))))))))))
   have H1 := cond_f H1 h14
   obtain ⟨x22, e22, H1⟩ := bS H1
   exact cw_skip (kw_bl_normal (kw_nx (cw_region (oM rfl (oP e22 rfl (oS rfl (ow_nil (kw_lqS (js := [0, 1]) (fuel, v4, x22, p5, ((v4).length), c7, C8) ⟨H1, rfl, o8⟩ (Nat.lt_succ_self _) ⟨rfl, rfl, rfl, trivial⟩ ⟨0, [1], rfl, rfl, 1, [], rfl, rfl, trivial⟩ (by decide)))))))))
  have H1 := cond_f H1 h12
  refine cw_exit (kw_nx_exit (kw_lq_exit (kw_bl ?_)))
  obtain rfl := sI H1
  exact kw_joinS (js := [0, 1]) (v4, v9, p5, ((v4).length), c7, C8) ⟨rfl, rfl, o8⟩ ⟨rfl, rfl, rfl, trivial⟩ ⟨0, [1], rfl, rfl, 1, [], rfl, rfl, trivial⟩ (by decide)
 rintro ⟨v4, v9, p5, _, c7, C8⟩ ⟨rfl, rfl, o8⟩
 dsimp only
 refine kw_nx (sr (oM rfl (oS rfl (nn (cw_ret ?_)))))
 obtain rfl := sI H0
 exact kr Tryd.results28 (rT rfl) [1] ⟨_, _, _, _, rfl, rfl, rfl, o8⟩

theorem c_slices_Sort_Int (fl : Nat) (w : World) (a0 : (List Int)) (hn0_0 : n0_0 = (a0).length) (ho0_0 : OwnC 3 p0_0 c0_0 a0 C0_0) (hM : Sat w (hkeys [(0, C0_0)]) w [(0, C0_0)]) (r : (List Int)) (H0 : slices_Sort_Int fl a0 = some r) :
    Ct Tryd.prog 81 [.slice p0_0 n0_0 c0_0] w [(0, C0_0)] (fun rv h' => ∃ (D0 : Res), rv = .tuple #[] ∧ h' = [(0, D0)] ∧ n0_0 = (r).length ∧ OwnC 3 p0_0 c0_0 r D0) := by
  unfold slices_Sort_Int at H0
  split at H0
  · rename_i hb; obtain rfl := Option.some.inj H0
    exact sort_ct 3 w hn0_0 hb ho0_0 hM
  · cases H0

theorem c_slices_Compact_Int (fl : Nat) (w : World) (a0 : (List Int)) (hn0_0 : n0_0 = (a0).length) (ho0_0 : OwnC 3 p0_0 c0_0 a0 C0_0) (hM : Sat w (hkeys [(0, C0_0)]) w [(0, C0_0)]) (r : (List Int)) (H0 : slices_Compact_Int fl a0 = some r) :
    Ct Tryd.prog 83 [.slice p0_0 n0_0 c0_0] w [(0, C0_0)] (fun rv h' => ∃ (x1 : Option Addr) (y1 z1 : Nat) (C1 : Res), rv = .slice x1 y1 z1 ∧ h' = [(0, []), (1, C1)] ∧ y1 = (r).length ∧ OwnC 3 x1 z1 r C1) := by
  unfold slices_Compact_Int at H0
  split at H0
  · rename_i hb; obtain rfl := Option.some.inj H0
    exact compact_ct 3 w hn0_0 hb ho0_0 hM
  · cases H0

theorem c_i_HeldFrames (fl : Nat) (w : World) (a0 : Sy) (hn0_0 : n0_0 = (a0.t.b).length) (hr0_0 : RO w (hkeys []) (RdL p0_0 c0_0 a0.t.b)) (hn0_1 : n0_1 = (a0.t.f).length) (hr0_1 : RO w (hkeys []) (RdL p0_1 c0_1 a0.t.f)) (hn0_2 : n0_2 = (a0.c).length) (hr0_2 : ROD w (hkeys []) p0_2 c0_2 a0.c) (hg : RO w (hkeys []) (fun w' => w'.rangeAt 0 0 [.bool false, .int .i64 0, .int .i64 0, .int .i64 0, .int .i64 (-1)])) (r : (List Int)) (H0 : i_HeldFrames fl a0 = some r) :
  Ct Tryd.prog 29 [.agg #[.slice p0_0 n0_0 c0_0, .slice p0_1 n0_1 c0_1, .slice p0_2 n0_2 c0_2]] w [] (fun rv h' => ∃ (x0 : Option Addr) (y0 z0 : Nat) (C0 : Res), rv = .slice x0 y0 z0 ∧ h' = [(0, C0)] ∧ y0 = (r).length ∧ OwnC 3 x0 z0 r C0) := by
 subst hn0_0 hn0_1 hn0_2
 unfold i_HeldFrames at H0
 refine ct_of_cw Tryd.func29 rfl Tryd.ntmps29 rfl (Sat.refl _ _) ?_
 refine sr (oE (stpU_box 0 rfl rfl) rfl ?_)
 rintro _ _ ⟨b1, rfl, rfl⟩
 obtain ⟨x2, e2, H0⟩ := bS H0
 refine oS rfl (nn (cw_seq (sr (oB3 0 ts37 rfl (oE (stpU_call (fun i => 1 + i) cf23 (fun w hw => c_i_SystemValid fl w a0 rfl (RO.pass hr0_0 hw) rfl (RO.pass hr0_1 hw) rfl (ROD.pass hr0_2 hw) (RO.pass hg hw) x2 e2) (yA rfl)) rfl ?_)))))
 rintro _ _ ⟨_, ⟨rfl, rfl⟩, rfl⟩
 refine oK rfl (nn (cw_cond rfl (fun h3 => ?_) (fun h3 => ?_)))
 ·have H0 := cond_t H0 h3
  refine sr (oS rfl (nn (cw_ret (kw_nx_ret (kw_addNil 1 ?_)))))
  obtain rfl := sI H0
  exact kr Tryd.results29 (rT rfl) [1] ⟨_, _, _, _, rfl, rfl, rfl, (OwnC.nil _ _)⟩
 have H0 := cond_f H0 h3
 obtain ⟨o0_0, eo0_0, H0⟩ := bS H0
 refine cw_skip (kw_nx (sr (oS rfl (nn (cw_seq (sr (oA 2 Tryd.underlying37 rfl ts35 rfl (oL 0 ts35 rfl (oD (stp_len Tryd.underlying35 rfl) rfl (oM rfl (nn (cw_addNil 2 (cw_join (ι := Int × (List Int) × Option Addr × Nat × Nat × Res) (fun | (v4, v5, p6, n7, c8, C9) => o0_0 = .out (v4, v5) ∧ n7 = (v5).length ∧ OwnC 3 p6 c8 v5 C9) (fun | (v4, v5, p6, n7, c8, C9) => [(3, .slice p6 n7 c8), (12, .slice p0_2 ((a0.c).length) c0_2), (13, .int .i64 ((a0.c).length : Int)), (14, .int .i64 v4)]) (fun | (v4, v5, p6, n7, c8, C9) => [(1002, C9)]) ?_ ?_)))))))))))))
 ·refine cw_block (cw_loopS (ι := Nat × Int × (List Int) × Option Addr × Nat × Nat × Res) (js := [2]) (fun x => x.1) (fun | (fuel, v4, v5, p6, n7, c8, C9) => i_HeldFrames_L0 fl a0 fuel v4 v5 = some o0_0 ∧ n7 = (v5).length ∧ OwnC 3 p6 c8 v5 C9) (fun | (_, v4, v5, p6, n7, c8, C9) => [(3, .slice p6 n7 c8), (12, .slice p0_2 ((a0.c).length) c0_2), (13, .int .i64 ((a0.c).length : Int)), (14, .int .i64 v4)]) (fun | (_, v4, v5, p6, n7, c8, C9) => [(1002, C9)]) (fl, 0, [], none, 0, 0, []) ⟨eo0_0, rfl, (OwnC.nil _ _)⟩ ⟨rfl, rfl, rfl, rfl, trivial⟩ ⟨2, [], rfl, rfl, trivial⟩ (by decide) ?_)
  rintro ⟨fuel, v4, v5, p6, _, c8, C9⟩ ⟨H1, rfl, o9⟩
  have H1 : i_HeldFrames_L0 fl a0 fuel v4 v5 = some o0_0 := H1
  rcases fuel with _ | fuel
  ·rw [i_HeldFrames_L0.eq_1] at H1; cases H1
  rw [i_HeldFrames_L0.eq_2] at H1
  dsimp only
  refine sr (oW rfl (nn (cw_seq (cw_cond rfl (fun h10 => ?_) (fun h10 => ?_)))))
  ·have H1 := cond_t H1 h10
   obtain ⟨x11, e11, H1⟩ := bS H1
   refine cw_skip (kw_nx (cw_seq (cw_block (sr ?_))))
   obtain ⟨u12, p13, n14, c15, p16, n17, c18, hw12, hl12, hx12, rfl, hr12, rfl, hs12⟩ := ROD.get hr0_2 e11
   refine oD (stp_indexAddr Tryd.underlying35 ts53 (by decide) rfl hl12 rfl (Rdb.ro hw12) hx12) rfl (oD (stp_loadN (us := [_, _]) ts53 rfl (Cells.el (Rdb.ro hw12) (by decide) hx12 0 2 rfl)) rfl (oE (stpU_alloc 3 tz53 rfl) rfl ?_))
   rintro _ _ ⟨b19, rfl, rfl⟩
   obtain ⟨o1_1, eo1_1, H1⟩ := bS H1
   refine oC2 3 ts53 rfl rfl (nn (sr (oA 1 Tryd.underlying53 rfl ts51 rfl (oL 3 ts51 rfl (oD (stp_len Tryd.underlying51 rfl) rfl (oM rfl (nn (cw_join (ι := Int × (List Int) × Option Addr × Nat × Nat × Res) (fun | (v20, v21, p22, n23, c24, C25) => o1_1 = .out (v20, v21) ∧ n23 = (v21).length ∧ OwnC 3 p22 c24 v21 C25) (fun | (v20, v21, p22, n23, c24, C25) => [(3, .slice p22 n23 c24), (12, .slice p0_2 ((a0.c).length) c0_2), (13, .int .i64 ((a0.c).length : Int)), (14, .int .i64 v4), (19, .slice p16 ((x11.w).length) c18), (20, .int .i64 ((x11.w).length : Int)), (21, .int .i64 v20)]) (fun | (v20, v21, p22, n23, c24, C25) => [(1002, C25)]) ?_ ?_))))))))
   ·refine cw_block (cw_loopS (ι := Nat × Int × (List Int) × Option Addr × Nat × Nat × Res) (js := [1002]) (fun x => x.1) (fun | (fuel, v20, v21, p22, n23, c24, C25) => i_HeldFrames_L1 fl x11 fuel v20 v21 = some o1_1 ∧ n23 = (v21).length ∧ OwnC 3 p22 c24 v21 C25) (fun | (_, v20, v21, p22, n23, c24, C25) => [(3, .slice p22 n23 c24), (12, .slice p0_2 ((a0.c).length) c0_2), (13, .int .i64 ((a0.c).length : Int)), (14, .int .i64 v4), (19, .slice p16 ((x11.w).length) c18), (20, .int .i64 ((x11.w).length : Int)), (21, .int .i64 v20)]) (fun | (_, v20, v21, p22, n23, c24, C25) => [(1002, C25)]) (fl, 0, v5, p6, ((v5).length), c8, C9) ⟨eo1_1, rfl, o9⟩ ⟨rfl, rfl, rfl, rfl, rfl, rfl, rfl, trivial⟩ ⟨1002, [], rfl, rfl, trivial⟩ (by decide) ?_)
    rintro ⟨fuel, v20, v21, p22, _, c24, C25⟩ ⟨H2, rfl, o25⟩
    have H2 : i_HeldFrames_L1 fl x11 fuel v20 v21 = some o1_1 := H2
    rcases fuel with _ | fuel
    ·rw [i_HeldFrames_L1.eq_1] at H2; cases H2
    rw [i_HeldFrames_L1.eq_2] at H2
    dsimp only
    refine sr (oW rfl (nn (cw_seq (cw_cond rfl (fun h26 => ?_) (fun h26 => ?_)))))
    ·have H2 := cond_t H2 h26
     obtain ⟨x27, e27, H2⟩ := bS H2
     refine cw_skip (kw_nx (cw_seq (cw_block (sr (oD (stp_indexAddr Tryd.underlying51 ts55 (by decide) rfl rfl rfl (Rdb.ro hs12) e27) rfl (oD (stp_loadN (us := [_, _, _]) ts55 rfl (Cells.el (Rdb.ro hs12) (by decide) e27 0 3 rfl)) rfl (oE (stpU_alloc 4 tz55 rfl) rfl ?_)))))))
     rintro _ _ ⟨b28, rfl, rfl⟩
     refine oC3 4 ts55 rfl rfl (nn (cw_region (oM rfl (oA 2 Tryd.underlying55 rfl ts3 rfl (oL 4 ts3 rfl (oE (stpU_lit (sz := 1) (l := [x27.fr]) [.int .i64 x27.fr] sl22 5 (sevp_cons rfl sevp_nil) rfl rfl rfl rfl rfl rfl rfl rfl rfl) rfl ?_))))))
     rintro _ _ ⟨p29, C30, rfl, rfl, o30⟩
     obtain ⟨x31, e31, H2⟩ := bS H2
     refine oE (stpU_append sl22 rfl (id := 1002) rfl rfl rfl (by simp) rfl o25 (Rdb.own (id := 5) rfl o30) e31) rfl ?_
     rintro _ _ ⟨p32, c33, C34, rfl, rfl, o34⟩
     obtain ⟨x35, e35, H2⟩ := bS H2
     exact oS rfl (ow_nil (kw_bl_normal (kw_nx (cw_region (oP e35 rfl (oM rfl (ow_nil (kw_lqS (js := [1002]) (fuel, x35, x31, p32, ((x31).length), c33, C34) ⟨H2, rfl, o34⟩ (Nat.lt_succ_self _) ⟨rfl, rfl, rfl, rfl, rfl, rfl, rfl, trivial⟩ ⟨1002, [], rfl, rfl, trivial⟩ (by decide)))))))))
    have H2 := cond_f H2 h26
    refine cw_exit (kw_nx_exit (kw_lq_exit (kw_bl ?_)))
    obtain rfl := sI H2
    exact kw_joinS (js := [1002]) (v20, v21, p22, ((v21).length), c24, C25) ⟨rfl, rfl, o25⟩ ⟨rfl, rfl, rfl, rfl, rfl, rfl, rfl, trivial⟩ ⟨1002, [], rfl, rfl, trivial⟩ (by decide)
   rintro ⟨v20, v21, p22, _, c24, C25⟩ ⟨rfl, rfl, o25⟩
   dsimp only
   obtain ⟨x36, e36, H1⟩ := bS H1
   exact kw_bl_normal (kw_nx (cw_region (oP e36 rfl (oM rfl (ow_nil (kw_lqS (js := [1002]) (fuel, x36, v21, p22, ((v21).length), c24, C25) ⟨H1, rfl, o25⟩ (Nat.lt_succ_self _) ⟨rfl, rfl, rfl, rfl, trivial⟩ ⟨1002, [], rfl, rfl, trivial⟩ (by decide)))))))
  have H1 := cond_f H1 h10
  refine cw_exit (kw_nx_exit (kw_lq_exit (kw_bl ?_)))
  obtain rfl := sI H1
  exact kw_joinS (js := [1002]) (v4, v5, p6, ((v5).length), c8, C9) ⟨rfl, rfl, o9⟩ ⟨rfl, rfl, rfl, rfl, trivial⟩ ⟨1002, [], rfl, rfl, trivial⟩ (by decide)
 rintro ⟨v4, v5, p6, _, c8, C9⟩ ⟨rfl, rfl, o9⟩
 dsimp only
 obtain ⟨x37, e37, H0⟩ := bS H0
 refine kw_nx (sr (oM rfl (oE (stpU_callM (fun i => bif Nat.beq i 0 then 1002 else 6 + i) cf81 (fun w hw hb => c_slices_Sort_Int fl w v5 rfl o9 (hw.pass (js := [1002]) ⟨1002, [], rfl, rfl, trivial⟩ (by decide)) x37 e37) (yA rfl) ⟨rfl, (fun _ _ hp => by obtain ⟨_, _, rfl, _⟩ := hp; exact ⟨_, rfl⟩), trivial⟩) rfl ?_)))
 rintro _ _ ⟨_, ⟨C38, rfl, rfl, hl38, o38⟩, rfl⟩
 obtain ⟨x39, e39, H0⟩ := bS H0
 refine nn (sr (oM rfl (oE (stpU_callM (fun i => bif Nat.beq i 0 then 1002 else 7 + i) cf83 (fun w hw hb => c_slices_Compact_Int fl w x37 (by simp [hl38]) o38 (hw.pass (js := [1002]) ⟨1002, [], rfl, rfl, trivial⟩ (by decide)) x39 e39) (yA rfl) ⟨rfl, (fun _ _ hp => by obtain ⟨_, _, _, _, _, rfl, _⟩ := hp; exact ⟨_, rfl⟩), trivial⟩) rfl ?_)))
 rintro _ _ ⟨_, ⟨p40, _, c42, C43, rfl, rfl, rfl, o43⟩, rfl⟩
 refine oE (stpU_call (fun i => i) cf82 (fun w hw => c_clip82 w p40 ((x39).length) c42 (OwnC.len o43).1) (yA rfl)) rfl ?_
 rintro _ _ ⟨_, ⟨rfl, rfl⟩, rfl⟩
 refine oS rfl (nn (cw_ret ?_))
 obtain rfl := sI H0
 exact kr Tryd.results29 (rT rfl) [8] ⟨_, _, _, _, rfl, rfl, rfl, (OwnC.clip o43)⟩
end Go.Proofs.YtfnliecmagnkdabDoor
