/- The walks: functions of the program return what their pure functions say. Printed by a program (gen.py). -/
import Derived.Test.YtfnliecmagnkdabDoorBp
import Derived.Test.YtfnliecmagnkdabDoorBt
import Derived.Test.YtfnliecmagnkdabDoorMan
import Derived.Test.YtfnliecmagnkdabDoorMap
import Derived.Test.YtfnliecmagnkdabDoorCpy
import Derived.Test.YtfnliecmagnkdabDoorClr
import Derived.Test.YtfnliecmagnkdabDoorDp
import Derived.Test.YtfnliecmagnkdabDoorSrt
import Derived.Test.YtfnliecmagnkdabDoorE8
import Derived.Test.YtfnliecmagnkdabDoorBwab
import Derived.Test.YtfnliecmagnkdabDoorBwac
set_option linter.unusedSimpArgs false
set_option linter.unusedVariables false
set_option linter.unusedSectionVars false
namespace Go.Proofs.YtfnliecmagnkdabDoor
open Go.RowKit
set_option maxHeartbeats 4000000
set_option maxRecDepth 20000
variable {p0_0 p0_1 p0_2 : Option Addr} {n0_0 n0_1 n0_2 : Nat} {c0_0 c0_1 c0_2 : Nat}
theorem c_s_FindPage (fl : Nat) (w : World) (a0 : T) (a1 : K) (hn0_0 : n0_0 = (a0.b).length) (hr0_0 : RO w (hkeys []) (RdL p0_0 c0_0 a0.b)) (hn0_1 : n0_1 = (a0.f).length) (hr0_1 : RO w (hkeys []) (RdL p0_1 c0_1 a0.f)) (r : Int × Int × Bool) (H0 : s_FindPage fl a0 a1 = some r) :
  Ct Tryd.prog 122 [.agg #[.slice p0_0 n0_0 c0_0, .slice p0_1 n0_1 c0_1], .agg #[.int .i64 a1.s, .int .i64 a1.p]] w [] (fun rv h' => rv = .tuple #[.int .i64 r.1, .int .i64 r.2.1, .bool r.2.2] ∧ h' = []) := by
 subst hn0_0 hn0_1
 unfold s_FindPage at H0
 refine ct_of_cw Tryd.func122 rfl Tryd.ntmps122 rfl (Sat.refl _ _) ?_
 refine sr (oE (stpU_box 0 rfl rfl) rfl ?_)
 rintro _ _ ⟨b1, rfl, rfl⟩
 refine oE (stpU_box 1 rfl rfl) rfl ?_
 rintro _ _ ⟨b2, rfl, rfl⟩
 obtain ⟨x3, e3, H0⟩ := bS H0
 refine oS rfl (oS rfl (oS rfl (nn (cw_seq (sr (oB2 0 ts34 rfl (oE (stpU_call (fun i => 2 + i) cf115 (fun w hw => c_s_TableValid fl w a0 rfl (RO.pass hr0_0 hw) rfl (RO.pass hr0_1 hw) x3 e3) (yA rfl)) rfl ?_)))))))
 rintro _ _ ⟨_, ⟨rfl, rfl⟩, rfl⟩
 obtain ⟨y4, ey4, H0⟩ := bS H0
 refine oK rfl (oM rfl (ow_cutY 4 16 y4 ?_ ?_))
 ·rcases Bool.eq_false_or_eq_true (!x3) with hy4 | hy4
  ·have ey4 := cond_t ey4 hy4
   refine oO rfl hy4 rfl (oO rfl hy4 rfl (oO rfl hy4 rfl (oD (stp_pick_t rfl hy4 rfl) rfl ?_)))
   obtain rfl := sI ey4
   exact ow_nil (jy 4 0)
  have ey4 := cond_f ey4 hy4
  obtain ⟨x5, e5, ey4⟩ := bS ey4
  refine oG rfl hy4 (stp_loadN (us := [_, _]) ts41 rfl (Cells.box (id := 1) rfl 2 rfl)) rfl (ow_eff (.some rfl hy4) (stpU_call (fun i => 2 + i) cf38 (fun w hw => c_s_KeyValid fl w a1 x5 e5) (yA rfl)) rfl ?_)
  rintro _ _ ⟨_, ⟨rfl, rfl⟩, rfl⟩
  refine oG rfl hy4 (stp_not rfl) rfl (oD (stp_pick_f rfl hy4 rfl) rfl ?_)
  obtain rfl := sI ey4
  exact ow_nil (jy 4 0)
 refine ow_nil (kw_nx (cw_cond rfl (fun h6 => ?_) (fun h6 => ?_)))
 ·have H0 := cond_t H0 h6
  refine sr (oS rfl (oS rfl (oS rfl (nn (cw_ret (kw_nx_ret ?_))))))
  obtain rfl := sI H0
  exact kr Tryd.results122 (.cons (.tmp rfl) (.cons (.tmp rfl) (rT rfl))) [] ⟨rfl, rfl⟩
 have H0 := cond_f H0 h6
 obtain ⟨x7, e7, H0⟩ := bS H0
 refine cw_skip (kw_nx (sr (oB2 0 ts34 rfl (oB2 1 ts41 rfl (oE (stpU_call (fun i => 2 + i) cf41 (fun w hw => c_s_l3Find fl w a0 a1 rfl (RO.pass hr0_0 hw) rfl (RO.pass hr0_1 hw) x7 e7) (yB rfl rfl)) rfl ?_)))))
 rintro _ _ ⟨_, ⟨rfl, rfl⟩, rfl⟩
 refine oM rfl (oT rfl (oT rfl (oS rfl (oS rfl (nn (cw_seq (sr (oM rfl (oW rfl (nn (cw_cond rfl (fun h8 => ?_) (fun h8 => ?_))))))))))))
 ·have H0 := cond_t H0 h8
  refine sr (oM rfl (oS rfl (oS rfl (oS rfl (nn (cw_ret (kw_nx_ret ?_)))))))
  obtain rfl := sI H0
  exact kr Tryd.results122 (.cons (.tmp rfl) (.cons (.tmp rfl) (rT rfl))) [] ⟨rfl, rfl⟩
 have H0 := cond_f H0 h8
 refine cw_skip (kw_nx (sr (oM rfl (oM rfl (oS rfl (oS rfl (oS rfl (nn (cw_ret ?_)))))))))
 obtain rfl := sI H0
 exact kr Tryd.results122 (.cons (.tmp rfl) (.cons (.tmp rfl) (rT rfl))) [] ⟨rfl, rfl⟩

theorem c_s_l3Unmap (fl : Nat) (w : World) (a0 : T) (a1 : Int) (hn0_0 : n0_0 = (a0.b).length) (hr0_0 : RO w (hkeys []) (RdL p0_0 c0_0 a0.b)) (hn0_1 : n0_1 = (a0.f).length) (hr0_1 : RO w (hkeys []) (RdL p0_1 c0_1 a0.f)) (r : T) (H0 : s_l3Unmap fl a0 a1 = some r) :
  Ct Tryd.prog 123 [.agg #[.slice p0_0 n0_0 c0_0, .slice p0_1 n0_1 c0_1], .int .i64 a1] w [] (fun rv h' => ∃ (x0 : Option Addr) (y0 z0 : Nat) (C0 : Res) (x1 : Option Addr) (y1 z1 : Nat) (C1 : Res), rv = .agg #[.slice x0 y0 z0, .slice x1 y1 z1] ∧ h' = [(0, C0), (1, C1)] ∧ y0 = (r.b).length ∧ OwnC 3 x0 z0 r.b C0 ∧ y1 = (r.f).length ∧ OwnC 71 x1 z1 r.f C1) := by
 subst hn0_0 hn0_1
 unfold s_l3Unmap at H0
 refine ct_of_cw Tryd.func123 rfl Tryd.ntmps123 rfl (Sat.refl _ _) ?_
 refine sr (oE (stpU_box 0 rfl rfl) rfl ?_)
 rintro _ _ ⟨b1, rfl, rfl⟩
 refine oE (stpU_alloc 1 tz34 rfl) rfl ?_
 rintro _ _ ⟨b2, rfl, rfl⟩
 obtain ⟨x3, e3, H0⟩ := bS H0
 refine nn (sr (oB2 0 ts34 rfl (oE (stpU_call (fun i => 2 + i) cf89 (fun w hw => c_s_l3Copy fl w a0 rfl (RO.pass hr0_0 hw) rfl (RO.pass hr0_1 hw) x3 e3) (yA rfl)) rfl ?_)))
 rintro _ _ ⟨_, ⟨p4, _, c6, C7, p8, _, c10, C11, rfl, rfl, rfl, o7, rfl, o11⟩, rfl⟩
 refine oE (stpU_alloc 4 tz34 rfl) rfl ?_
 rintro _ _ ⟨b12, rfl, rfl⟩
 obtain ⟨x13, e13, H0⟩ := bS H0
 obtain ⟨x14, e14, H0⟩ := bS H0
 refine oC2 4 ts34 rfl rfl (nn (cw_seq (rdq g_mixed [1, 2] [0] { dst := dS [12, 13, 14, 15, 16, 17, 18, 19, 20, 21, 7], pre := gA [] [[], [0], [], [0, 1, 2], rn 0 4, rn 0 5, [], [6], [6, 7], rn 0 9, rn 0 10], ids := fun _ => [], rs := rL [[(2, 0)], [(11, 1)], [(1, 0)], [(12, 2), (13, 3)], [(14, 4)], [(15, 5)], [(2, 0)], [(17, 7)], [(18, 8)], [(16, 6), (19, 9)], [(20, 10)]], rh := rL [[], [(0, 0)], [], [], [], [], [], [(0, 0)]], V := fun i g => gA undef [.pointer (some ⟨b1, 1, none⟩), .slice p0_1 ((a0.f).length) c0_1, .int .i64 a1, .pointer (some ⟨eB p0_1, eO p0_1 + Int.toNat a1 * Enc.sz F + 0, none⟩), .pointer (some ⟨eB p0_1, eO p0_1 + Int.toNat a1 * Enc.sz F + 1, none⟩), .agg #[.int .i64 x13.k.s, .int .i64 x13.k.p], .pointer (some ⟨b1, 0, none⟩), .slice p0_0 ((a0.b).length) c0_0, .int .i64 ((a0.b).length : Int), .int .i64 x14, .int .i64 x14] i, U := fun _ _ => [], Φ := fun _ _ => True } ?_ ?_)))
 ·refine ⟨lc rfl rfl fun hs hh => stp_fieldAddr (j := 1) Tryd.underlying34 rfl ts32 rfl (sv hs 2 rfl) rfl, lc rfl rfl fun hs hh => stp_load1 ts32 (sv hs 11 rfl) (Cells.box (id := 0) (hh.get 0 _ rfl) 1 rfl), lM, lc rfl rfl fun hs hh => stp_indexAddr Tryd.underlying32 ts71 (by decide) (sv hs 12 rfl) rfl (sv hs 13 rfl) (Rdb.ro hr0_1) e13, lc rfl rfl fun hs hh => stp_fieldAddr (j := 1) Tryd.underlying71 rfl ts41 rfl (sv hs 14 rfl) rfl, lc rfl rfl fun hs hh => stp_loadN (us := [_, _]) ts41 (sv hs 15 rfl) (Cells.el (Rdb.ro hr0_1) (by decide) e13 1 2 rfl), lc rfl rfl fun hs hh => stp_fieldAddr (j := 0) Tryd.underlying34 rfl ts22 rfl (sv hs 2 rfl) rfl, lc rfl rfl fun hs hh => stp_load1 ts22 (sv hs 17 rfl) (Cells.box (id := 0) (hh.get 0 _ rfl) 1 rfl), lc rfl rfl fun hs hh => stp_len Tryd.underlying22 (sv hs 18 rfl), ?_, lS, trivial⟩
  refine le rfl rfl (fun g hΦ s h hs hh => (stpU_call (fun i => 5 + i) cf91 (fun w hw => c_s_l2Hash fl w x13.k ((a0.b).length : Int) x14 e14) (yB (sv hs 16 rfl) (sv hs 19 rfl)))) ?_
  rintro g _ _ ⟨_, ⟨rfl, rfl⟩, rfl⟩
  exact ⟨⟨[], [], []⟩, trivial, .inr rfl, rfl⟩
 intro g hΦ
 refine KW.sub (s' := [(1, .int .i64 a1), (2, .pointer (some ⟨b1, 0, none⟩)), (4, .pointer (some ⟨b2, 0, none⟩)), (5, .pointer (some ⟨b12, 0, none⟩)), (6, .int .i64 x14)]) (h' := [(0, [(b1, .cells #[.slice p0_0 ((a0.b).length) c0_0, .slice p0_1 ((a0.f).length) c0_1] 34 (0, 0))]), (1, [(b2, .cells #[.slice none 0 0, .slice none 0 0] 34 (0, 0))]), (2, C7), (3, C11), (4, [(b12, .cells #[.slice p4 ((x3.b).length) c6, .slice p8 ((x3.f).length) c10] 34 (0, 0))])]) ?_ ⟨rfl, rfl, rfl, rfl, rfl, trivial⟩ ⟨rfl, rfl, rfl, rfl, rfl, trivial⟩
 refine kw_nx (sr (oA 1 Tryd.underlying34 rfl ts32 rfl (oL 0 ts32 rfl (oM rfl (oD (stp_indexAddr Tryd.underlying32 ts71 (by decide) rfl rfl rfl (Rdb.ro hr0_1) e13) rfl (oA 4 Tryd.underlying71 rfl ts3 rfl (oD (stp_load1 ts3 rfl (Cells.el (Rdb.ro hr0_1) (by decide) e13 4 1 rfl)) rfl (oS rfl (nn (sr (oA 1 Tryd.underlying34 rfl ts32 rfl (oL 4 ts32 rfl (oM rfl ?_)))))))))))))
 obtain ⟨x15, e15, H0⟩ := bS H0
 refine oD (stp_build (cs := #[.bool false, .int .i64 0, .int .i64 0, .int .i64 0, .int .i64 (-1)]) (sevp_cons rfl sevp_nil) bt71_7) rfl (oD (stp_indexAddr Tryd.underlying32 ts71 (by decide) rfl rfl rfl (Rdb.own (id := 3) rfl o11) e15) rfl (oF (stpU_storeEl (id := 3) (i := 0) (⟨false, (⟨0, 0⟩ : K), 0, (-1)⟩ : F) (by decide) ts71 rfl rfl rfl o11 e15 rfl rfl rfl rfl) ?_))
 rintro _ _ ⟨C16, rfl, o16⟩
 obtain ⟨x17, e17, H0⟩ := bS H0
 refine nn (cw_seq (sr (oA 0 Tryd.underlying34 rfl ts22 rfl (oL 0 ts22 rfl (oM rfl (oD (stp_indexAddr Tryd.underlying22 ts3 (by decide) rfl rfl rfl (Rdb.ro hr0_0) e17) rfl (oD (stp_load1 ts3 rfl (Cells.el (Rdb.ro hr0_0) (by decide) e17 0 1 rfl)) rfl (oM rfl (oQ rfl (nn (cw_cond rfl (fun h18 => ?_) (fun h18 => ?_))))))))))))
 ·have H0 := cond_t H0 h18
  obtain ⟨x19, e19, H0⟩ := bS H0
  refine sr (oA 0 Tryd.underlying34 rfl ts22 rfl (oL 4 ts22 rfl (oM rfl (oM rfl (oD (stp_indexAddr Tryd.underlying22 ts3 (by decide) rfl rfl rfl (Rdb.own (id := 2) rfl o7) e19) rfl (oF (stpU_storeEl (id := 2) (i := 0) x13.nx (by decide) ts3 rfl rfl rfl o7 e19 rfl rfl rfl rfl) ?_))))))
  rintro _ _ ⟨C20, rfl, o20⟩
  refine nn (sr (oB2 4 ts34 rfl (oC2 1 ts34 rfl rfl (nn (cw_ret (kw_nx_ret ?_))))))
  obtain rfl := sI H0
  exact kr Tryd.results123 (rC2 1 ts34 rfl rfl) [2, 3] ⟨_, _, _, _, _, _, _, _, rfl, rfl, (by simp), o20, (by simp), o16⟩
 have H0 := cond_f H0 h18
 obtain ⟨o0_0, eo0_0, H0⟩ := bS H0
 refine cw_skip (kw_nx (cw_seq (sr (oS rfl (nn (cw_join (ι := (List F) × Int × Res) (fun | (v21, v23, C22) => o0_0 = .out (v21, v23) ∧ (x3.f).length = (v21).length ∧ OwnC 71 p8 c10 v21 C22) (fun | (v21, v23, C22) => [(1, .int .i64 a1), (2, .pointer (some ⟨b1, 0, none⟩)), (4, .pointer (some ⟨b2, 0, none⟩)), (5, .pointer (some ⟨b12, 0, none⟩)), (7, .int .i64 x13.nx), (8, .int .i64 v23)]) (fun | (v21, v23, C22) => [(0, [(b1, .cells #[.slice p0_0 ((a0.b).length) c0_0, .slice p0_1 ((a0.f).length) c0_1] 34 (0, 0))]), (1, [(b2, .cells #[.slice none 0 0, .slice none 0 0] 34 (0, 0))]), (2, C7), (3, C22), (4, [(b12, .cells #[.slice p4 ((x3.b).length) c6, .slice p8 ((x3.f).length) c10] 34 (0, 0))])]) ?_ ?_))))))
 ·refine cw_block (cw_loopS (ι := Nat × (List F) × Int × Res) (js := [0, 1, 2, 3, 4]) (fun x => x.1) (fun | (fuel, v21, v23, C22) => s_l3Unmap_L0 fl a0 a1 x13 fuel v21 v23 = some o0_0 ∧ (x3.f).length = (v21).length ∧ OwnC 71 p8 c10 v21 C22) (fun | (_, v21, v23, C22) => [(1, .int .i64 a1), (2, .pointer (some ⟨b1, 0, none⟩)), (4, .pointer (some ⟨b2, 0, none⟩)), (5, .pointer (some ⟨b12, 0, none⟩)), (7, .int .i64 x13.nx), (8, .int .i64 v23)]) (fun | (_, v21, v23, C22) => [(0, [(b1, .cells #[.slice p0_0 ((a0.b).length) c0_0, .slice p0_1 ((a0.f).length) c0_1] 34 (0, 0))]), (1, [(b2, .cells #[.slice none 0 0, .slice none 0 0] 34 (0, 0))]), (2, C7), (3, C22), (4, [(b12, .cells #[.slice p4 ((x3.b).length) c6, .slice p8 ((x3.f).length) c10] 34 (0, 0))])]) (fl, (x3.f.set (Int.toNat a1) (⟨false, (⟨0, 0⟩ : K), 0, (-1)⟩ : F)), 0, C16) ⟨eo0_0, (by simp), o16⟩ ⟨rfl, rfl, rfl, rfl, rfl, rfl, trivial⟩ ⟨0, [1, 2, 3, 4], rfl, rfl, 1, [2, 3, 4], rfl, rfl, 2, [3, 4], rfl, rfl, 3, [4], rfl, rfl, 4, [], rfl, rfl, trivial⟩ (by decide) ?_)
  rintro ⟨fuel, v21, v23, C22⟩ ⟨H1, hl22, o22⟩
  have H1 : s_l3Unmap_L0 fl a0 a1 x13 fuel v21 v23 = some o0_0 := H1
  rcases fuel with _ | fuel
  ·rw [s_l3Unmap_L0.eq_1] at H1; cases H1
  rw [s_l3Unmap_L0.eq_2] at H1
  dsimp only
  refine cw_seq (sr (oM rfl (oA 1 Tryd.underlying34 rfl ts32 rfl (oL 0 ts32 rfl (oD (stp_len Tryd.underlying32 rfl) rfl (oW rfl (nn (cw_cond rfl (fun h24 => ?_) (fun h24 => ?_)))))))))
  ·have H1 := cond_t H1 h24
   obtain ⟨x25, e25, H1⟩ := bS H1
   obtain ⟨y26, ey26, H1⟩ := bS H1
   refine cw_skip (kw_nx (cw_seq (cw_block (sr (oA 1 Tryd.underlying34 rfl ts32 rfl (oL 0 ts32 rfl (oM rfl (oD (stp_indexAddr Tryd.underlying32 ts71 (by decide) rfl rfl rfl (Rdb.ro hr0_1) e25) rfl (oA 0 Tryd.underlying71 rfl ts4 rfl (oD (stp_load1 ts4 rfl (Cells.el (Rdb.ro hr0_1) (by decide) e25 0 1 rfl)) rfl (oM rfl (ow_cutY 9 67 y26 ?_ ?_))))))))))))
   ·rcases Bool.eq_false_or_eq_true x25.u with hy26 | hy26
    ·have ey26 := cond_t ey26 hy26
     refine oG rfl hy26 (fA 1 Tryd.underlying34 rfl ts32 rfl rfl rfl) rfl (oG rfl hy26 (lB 0 ts32 rfl rfl rfl) rfl (oG rfl hy26 (mv rfl) rfl (oG rfl hy26 (stp_indexAddr Tryd.underlying32 ts71 (by decide) rfl rfl rfl (Rdb.ro hr0_1) e25) rfl (oG rfl hy26 (fA 4 Tryd.underlying71 rfl ts3 rfl rfl rfl) rfl (oG rfl hy26 (stp_load1 ts3 rfl (Cells.el (Rdb.ro hr0_1) (by decide) e25 4 1 rfl)) rfl (oG rfl hy26 (mv rfl) rfl (oG rfl hy26 (stp_eql rfl rfl) rfl (oD (stp_pick_t rfl hy26 rfl) rfl ?_))))))))
     obtain rfl := sI ey26
     exact ow_nil (jy 9 0)
    have ey26 := cond_f ey26 hy26
    refine oO rfl hy26 rfl (oO rfl hy26 rfl (oO rfl hy26 rfl (oO rfl hy26 rfl (oO rfl hy26 rfl (oO rfl hy26 rfl (oO rfl hy26 rfl (oO rfl hy26 rfl (oD (stp_pick_f rfl hy26 rfl) rfl ?_))))))))
    obtain rfl := sI ey26
    exact ow_nil (jy 9 0)
   refine ow_nil (kw_nx (cw_cond rfl (fun h27 => ?_) (fun h27 => ?_)))
   ·have H1 := cond_t H1 h27
    obtain ⟨x28, e28, H1⟩ := bS H1
    refine cw_region (oA 1 Tryd.underlying34 rfl ts32 rfl (oL 4 ts32 rfl (oM rfl (oM rfl (oD (stp_indexAddr Tryd.underlying32 ts71 (by decide) rfl (by simp [hl22]) rfl (Rdb.own (id := 3) rfl o22) e28) rfl (oA 4 Tryd.underlying71 rfl ts3 rfl (oF (stpU_storeEl (id := 3) (i := 4) (⟨x28.u, x28.k, x28.r, x13.nx⟩ : F) (by decide) ts3 rfl rfl rfl o22 e28 rfl rfl rfl rfl) ?_)))))))
    rintro _ _ ⟨C29, rfl, o29⟩
    obtain ⟨x30, e30, H1⟩ := bS H1
    exact ow_nil (kw_bl_normal (kw_nx (cw_region (oM rfl (oP e30 rfl (oS rfl (ow_nil (kw_lqS (js := [0, 1, 2, 3, 4]) (fuel, (v21.set (Int.toNat v23) (⟨x28.u, x28.k, x28.r, x13.nx⟩ : F)), x30, C29) ⟨H1, (by simp [hl22]), o29⟩ (Nat.lt_succ_self _) ⟨rfl, rfl, rfl, rfl, rfl, rfl, trivial⟩ ⟨0, [1, 2, 3, 4], rfl, rfl, 1, [2, 3, 4], rfl, rfl, 2, [3, 4], rfl, rfl, 3, [4], rfl, rfl, 4, [], rfl, rfl, trivial⟩ (by decide)))))))))
   have H1 := cond_f H1 h27
   obtain ⟨x31, e31, H1⟩ := bS H1
   exact cw_skip (kw_bl_normal (kw_nx (cw_region (oM rfl (oP e31 rfl (oS rfl (ow_nil (kw_lqS (js := [0, 1, 2, 3, 4]) (fuel, v21, x31, C22) ⟨H1, (by simp [hl22]), o22⟩ (Nat.lt_succ_self _) ⟨rfl, rfl, rfl, rfl, rfl, rfl, trivial⟩ ⟨0, [1, 2, 3, 4], rfl, rfl, 1, [2, 3, 4], rfl, rfl, 2, [3, 4], rfl, rfl, 3, [4], rfl, rfl, 4, [], rfl, rfl, trivial⟩ (by decide)))))))))
  have H1 := cond_f H1 h24
  refine cw_exit (kw_nx_exit (kw_lq_exit (kw_bl ?_)))
  obtain rfl := sI H1
  exact kw_joinS (js := [0, 1, 2, 3, 4]) (v21, v23, C22) ⟨rfl, (by simp [hl22]), o22⟩ ⟨rfl, rfl, rfl, rfl, rfl, rfl, trivial⟩ ⟨0, [1, 2, 3, 4], rfl, rfl, 1, [2, 3, 4], rfl, rfl, 2, [3, 4], rfl, rfl, 3, [4], rfl, rfl, 4, [], rfl, rfl, trivial⟩ (by decide)
 rintro ⟨v21, v23, C22⟩ ⟨rfl, hl22, o22⟩
 dsimp only
 refine kw_nx (sr (oB2 4 ts34 rfl (oC2 1 ts34 rfl rfl (nn (cw_ret ?_)))))
 obtain rfl := sI H0
 exact kr Tryd.results123 (rC2 1 ts34 rfl rfl) [2, 3] ⟨_, _, _, _, _, _, _, _, rfl, rfl, rfl, o7, (by simp [hl22]), o22⟩

theorem c_s_UnmapPage (fl : Nat) (w : World) (a0 : T) (a1 : K) (hn0_0 : n0_0 = (a0.b).length) (hr0_0 : RO w (hkeys []) (RdL p0_0 c0_0 a0.b)) (hn0_1 : n0_1 = (a0.f).length) (hr0_1 : RO w (hkeys []) (RdL p0_1 c0_1 a0.f)) (r : T × Bool) (H0 : s_UnmapPage fl a0 a1 = some r) :
  Ct Tryd.prog 77 [.agg #[.slice p0_0 n0_0 c0_0, .slice p0_1 n0_1 c0_1], .agg #[.int .i64 a1.s, .int .i64 a1.p]] w [] (fun rv h' => ∃ (x0 : Option Addr) (y0 z0 : Nat) (C0 : Res) (x1 : Option Addr) (y1 z1 : Nat) (C1 : Res), rv = .tuple #[.agg #[.slice x0 y0 z0, .slice x1 y1 z1], .bool r.2] ∧ h' = [(0, C0), (1, C1)] ∧ y0 = (r.1.b).length ∧ OwnC 3 x0 z0 r.1.b C0 ∧ y1 = (r.1.f).length ∧ OwnC 71 x1 z1 r.1.f C1) := by
 subst hn0_0 hn0_1
 unfold s_UnmapPage at H0
 refine ct_of_cw Tryd.func77 rfl Tryd.ntmps77 rfl (Sat.refl _ _) ?_
 refine sr (oE (stpU_box 0 rfl rfl) rfl ?_)
 rintro _ _ ⟨b1, rfl, rfl⟩
 refine oE (stpU_box 1 rfl rfl) rfl ?_
 rintro _ _ ⟨b2, rfl, rfl⟩
 refine oE (stpU_alloc 2 tz34 rfl) rfl ?_
 rintro _ _ ⟨b3, rfl, rfl⟩
 obtain ⟨x4, e4, H0⟩ := bS H0
 refine oS rfl (nn (sr (oB2 0 ts34 rfl (oB2 1 ts41 rfl (oE (stpU_call (fun i => 3 + i) cf122 (fun w hw => c_s_FindPage fl w a0 a1 rfl (RO.pass hr0_0 hw) rfl (RO.pass hr0_1 hw) x4 e4) (yB rfl rfl)) rfl ?_)))))
 rintro _ _ ⟨_, ⟨rfl, rfl⟩, rfl⟩
 refine oM rfl (oT rfl (oT rfl (oT rfl (oS rfl (oS rfl (oS rfl (nn (cw_seq (sr (oM rfl (oK rfl (nn (cw_cond rfl (fun h5 => ?_) (fun h5 => ?_))))))))))))))
 ·have H0 := cond_t H0 h5
  refine sr (oD (stp_build (cs := #[.slice none 0 0, .slice none 0 0]) sevp_nil bt34_6) rfl (oC2 2 ts34 rfl rfl (oS rfl (nn (cw_ret (kw_nx_ret (kw_addNil 3 (kw_addNil 4 ?_))))))))
  obtain rfl := sI H0
  exact kr Tryd.results77 (.cons (.cellN (us := [_, _]) ts34 rfl (Cells.box (id := 2) rfl 2 rfl)) (rT rfl)) [3, 4] ⟨_, _, _, _, _, _, _, _, rfl, rfl, rfl, (OwnC.nil _ _), rfl, (OwnC.nil _ _)⟩
 have H0 := cond_f H0 h5
 obtain ⟨x6, e6, H0⟩ := bS H0
 refine cw_skip (kw_nx (sr (oB2 0 ts34 rfl (oM rfl (oE (stpU_call (fun i => 5 + i) cf123 (fun w hw => c_s_l3Unmap fl w a0 x4.1 rfl (RO.pass hr0_0 hw) rfl (RO.pass hr0_1 hw) x6 e6) (yB rfl rfl)) rfl ?_)))))
 rintro _ _ ⟨_, ⟨p7, _, c9, C10, p11, _, c13, C14, rfl, rfl, rfl, o10, rfl, o14⟩, rfl⟩
 refine oC2 2 ts34 rfl rfl (oS rfl (nn (cw_ret ?_)))
 obtain rfl := sI H0
 exact kr Tryd.results77 (.cons (.cellN (us := [_, _]) ts34 rfl (Cells.box (id := 2) rfl 2 rfl)) (rT rfl)) [5, 6] ⟨_, _, _, _, _, _, _, _, rfl, rfl, rfl, o10, rfl, o14⟩

theorem c_s_UnmapSystem (fl : Nat) (w : World) (a0 : Sy) (a1 : Int) (a2 : K) (hn0_0 : n0_0 = (a0.t.b).length) (hr0_0 : RO w (hkeys []) (RdL p0_0 c0_0 a0.t.b)) (hn0_1 : n0_1 = (a0.t.f).length) (hr0_1 : RO w (hkeys []) (RdL p0_1 c0_1 a0.t.f)) (hn0_2 : n0_2 = (a0.c).length) (hr0_2 : ROD w (hkeys []) p0_2 c0_2 a0.c) (r : Sy × Int × Bool) (H0 : s_UnmapSystem fl a0 a1 a2 = some r) :
  Ct Tryd.prog 25 [.agg #[.slice p0_0 n0_0 c0_0, .slice p0_1 n0_1 c0_1, .slice p0_2 n0_2 c0_2], .int .i64 a1, .agg #[.int .i64 a2.s, .int .i64 a2.p]] w [] (fun rv h' => ∃ (x0 : Option Addr) (y0 z0 : Nat) (C0 : Res) (x1 : Option Addr) (y1 z1 : Nat) (C1 : Res) (x2 : Option Addr) (y2 z2 : Nat) (C2 : Res), rv = .tuple #[.agg #[.slice x0 y0 z0, .slice x1 y1 z1, .slice x2 y2 z2], .int .i64 r.2.1, .bool r.2.2] ∧ h' = [(0, C0), (1, C1), (2, C2)] ∧ y0 = (r.1.t.b).length ∧ OwnC 3 x0 z0 r.1.t.b C0 ∧ y1 = (r.1.t.f).length ∧ OwnC 71 x1 z1 r.1.t.f C1 ∧ y2 = (r.1.c).length ∧ OwnD 53 55 x2 z2 r.1.c C2) := by
 subst hn0_0 hn0_1 hn0_2
 unfold s_UnmapSystem at H0
 refine ct_of_cw Tryd.func25 rfl Tryd.ntmps25 rfl (Sat.refl _ _) ?_
 refine sr (oE (stpU_box 0 rfl rfl) rfl ?_)
 rintro _ _ ⟨b1, rfl, rfl⟩
 refine oE (stpU_box 1 rfl rfl) rfl ?_
 rintro _ _ ⟨b2, rfl, rfl⟩
 refine oE (stpU_alloc 2 tz37 rfl) rfl ?_
 rintro _ _ ⟨b3, rfl, rfl⟩
 obtain ⟨x4, e4, H0⟩ := bS H0
 refine oS rfl (oS rfl (nn (cw_seq (sr (oB3 0 ts37 rfl (oM rfl (oE (stpU_call (fun i => 3 + i) cf37 (fun w hw => c_s_l8Right fl w a0 a1 rfl (RO.pass hr0_0 hw) rfl (RO.pass hr0_1 hw) rfl (ROD.pass hr0_2 hw) x4 e4) (yB rfl rfl)) rfl ?_)))))))
 rintro _ _ ⟨_, ⟨rfl, rfl⟩, rfl⟩
 refine oK rfl (nn (cw_cond rfl (fun h5 => ?_) (fun h5 => ?_)))
 ·have H0 := cond_t H0 h5
  refine sr (oD (stp_build (cs := #[.slice none 0 0, .slice none 0 0, .slice none 0 0]) sevp_nil bt37_0) rfl (oC3 2 ts37 rfl rfl (oS rfl (oS rfl (nn (cw_ret (kw_nx_ret (kw_addNil 3 (kw_addNil 4 (kw_addNil 5 ?_))))))))))
  obtain rfl := sI H0
  exact kr Tryd.results25 (.cons (.cellN (us := [_, _, _]) ts37 rfl (Cells.box (id := 2) rfl 3 rfl)) (.cons (.tmp rfl) (rT rfl))) [3, 4, 5] ⟨_, _, _, _, _, _, _, _, _, _, _, _, rfl, rfl, rfl, (OwnC.nil _ _), rfl, (OwnC.nil _ _), rfl, (OwnD.nil _ _ _)⟩
 have H0 := cond_f H0 h5
 obtain ⟨x6, e6, H0⟩ := bS H0
 refine cw_skip (kw_nx (sr (oA 0 Tryd.underlying37 rfl ts34 rfl (oB2 0 ts34 rfl (oB2 1 ts41 rfl (oE (stpU_call (fun i => 6 + i) cf77 (fun w hw => c_s_UnmapPage fl w a0.t a2 rfl (RO.pass hr0_0 hw) rfl (RO.pass hr0_1 hw) x6 e6) (yB rfl rfl)) rfl ?_))))))
 rintro _ _ ⟨_, ⟨p7, _, c9, C10, p11, _, c13, C14, rfl, rfl, rfl, o10, rfl, o14⟩, rfl⟩
 refine oM rfl (oT rfl (oT rfl (oE (stpU_alloc 8 tz34 rfl) rfl ?_)))
 rintro _ _ ⟨b15, rfl, rfl⟩
 refine oC2 8 ts34 rfl rfl (oS rfl (nn (cw_seq (sr (oM rfl (oK rfl (nn (cw_cond rfl (fun h16 => ?_) (fun h16 => ?_)))))))))
 ·have H0 := cond_t H0 h16
  refine sr (oD (stp_build (cs := #[.slice none 0 0, .slice none 0 0, .slice none 0 0]) sevp_nil bt37_0) rfl (oC3 2 ts37 rfl rfl (oS rfl (oS rfl (nn (cw_ret (kw_nx_ret (kw_addNil 9 (kw_addNil 10 (kw_addNil 11 ?_))))))))))
  obtain rfl := sI H0
  exact kr Tryd.results25 (.cons (.cellN (us := [_, _, _]) ts37 rfl (Cells.box (id := 2) rfl 3 rfl)) (.cons (.tmp rfl) (rT rfl))) [9, 10, 11] ⟨_, _, _, _, _, _, _, _, _, _, _, _, rfl, rfl, rfl, (OwnC.nil _ _), rfl, (OwnC.nil _ _), rfl, (OwnD.nil _ _ _)⟩
 have H0 := cond_f H0 h16
 obtain ⟨x17, e17, H0⟩ := bS H0
 refine cw_skip (kw_nx (sr (oB3 0 ts37 rfl (oE (stpU_call (fun i => 12 + i) cf39 (fun w hw => c_s_l8Copy fl w a0 rfl (RO.pass hr0_0 hw) rfl (RO.pass hr0_1 hw) rfl (ROD.pass hr0_2 hw) x17 e17) (yA rfl)) rfl ?_))))
 rintro _ _ ⟨_, ⟨p18, _, c20, C21, p22, _, c24, C25, p26, _, c28, C29, rfl, rfl, rfl, o21, rfl, o25, rfl, o29⟩, rfl⟩
 refine oE (stpU_alloc 15 tz37 rfl) rfl ?_
 rintro _ _ ⟨b30, rfl, rfl⟩
 refine oC3 15 ts37 rfl rfl (nn (sr (oB2 8 ts34 rfl (oA 0 Tryd.underlying37 rfl ts34 rfl (oC3 15 ts34 rfl rfl (nn (sr (oS rfl (nn (cw_seq (sr (oS rfl (nn ?_)))))))))))))
 obtain ⟨o0_0, eo0_0, H0⟩ := bS H0
 refine cw_join (ι := (List Cp) × Int × Int × Res) (fun | (v31, v33, v34, C32) => o0_0 = .out (v31, v33, v34) ∧ (x17.c).length = (v31).length ∧ OwnD 53 55 p26 c28 v31 C32) (fun | (v31, v33, v34, C32) => [(1, .int .i64 a1), (5, .pointer (some ⟨b2, 0, none⟩)), (6, .pointer (some ⟨b3, 0, none⟩)), (11, .pointer (some ⟨b30, 0, none⟩)), (12, .int .i64 v33), (13, .int .i64 v34)]) (fun | (v31, v33, v34, C32) => [(1, [(b2, .cells #[.int .i64 a2.s, .int .i64 a2.p] 41 (0, 0))]), (2, [(b3, .cells #[.slice none 0 0, .slice none 0 0, .slice none 0 0] 37 (0, 0))]), (6, C10), (7, C14), (14, C32), (15, [(b30, .cells #[.slice p7 ((x6.1.b).length) c9, .slice p11 ((x6.1.f).length) c13, .slice p26 ((x17.c).length) c28] 37 (0, 0))])]) ?_ ?_
 ·refine cw_block (cw_loopS (ι := Nat × (List Cp) × Int × Int × Res) (js := [1, 2, 6, 7, 14, 15]) (fun x => x.1) (fun | (fuel, v31, v33, v34, C32) => s_UnmapSystem_L0 fl a1 a2 x17 fuel v31 v33 v34 = some o0_0 ∧ (x17.c).length = (v31).length ∧ OwnD 53 55 p26 c28 v31 C32) (fun | (_, v31, v33, v34, C32) => [(1, .int .i64 a1), (5, .pointer (some ⟨b2, 0, none⟩)), (6, .pointer (some ⟨b3, 0, none⟩)), (11, .pointer (some ⟨b30, 0, none⟩)), (12, .int .i64 v33), (13, .int .i64 v34)]) (fun | (_, v31, v33, v34, C32) => [(1, [(b2, .cells #[.int .i64 a2.s, .int .i64 a2.p] 41 (0, 0))]), (2, [(b3, .cells #[.slice none 0 0, .slice none 0 0, .slice none 0 0] 37 (0, 0))]), (6, C10), (7, C14), (14, C32), (15, [(b30, .cells #[.slice p7 ((x6.1.b).length) c9, .slice p11 ((x6.1.f).length) c13, .slice p26 ((x17.c).length) c28] 37 (0, 0))])]) (fl, x17.c, 0, 0, C29) ⟨eo0_0, rfl, o29⟩ ⟨rfl, rfl, rfl, rfl, rfl, rfl, trivial⟩ ⟨1, [2, 6, 7, 14, 15], rfl, rfl, 2, [6, 7, 14, 15], rfl, rfl, 6, [7, 14, 15], rfl, rfl, 7, [14, 15], rfl, rfl, 14, [15], rfl, rfl, 15, [], rfl, rfl, trivial⟩ (by decide) ?_)
  rintro ⟨fuel, v31, v33, v34, C32⟩ ⟨H1, hl32, o32⟩
  have H1 : s_UnmapSystem_L0 fl a1 a2 x17 fuel v31 v33 v34 = some o0_0 := H1
  rcases fuel with _ | fuel
  ·rw [s_UnmapSystem_L0.eq_1] at H1; cases H1
  rw [s_UnmapSystem_L0.eq_2] at H1
  dsimp only
  refine cw_seq (sr (oM rfl (oA 2 Tryd.underlying37 rfl ts35 rfl (oL 15 ts35 rfl (oD (stp_len Tryd.underlying35 rfl) rfl (oW rfl (nn (cw_cond rfl (fun h35 => ?_) (fun h35 => ?_)))))))))
  ·have H1 := cond_t H1 h35
   obtain ⟨x36, e36, H1⟩ := bS H1
   refine cw_skip (kw_nx (cw_seq (cw_block (sr (oA 2 Tryd.underlying37 rfl ts35 rfl (oL 15 ts35 rfl (oM rfl (ow_open 14 16 17 18 rfl o32 e36 ?_))))))))
   rintro u37 p38 n39 c40 p41 n42 c43 C44 C45 C46 C47 o44 hb45 hx37 rfl o46 rfl o47
   refine oD (stp_indexAddr Tryd.underlying35 ts53 (by decide) rfl (Eq.trans (a := (x17.c).length) (b := (v31).length) (by simp [hl32]) (Bun.len hb45)) rfl (Rdb.own (id := 14) rfl o44) hx37) rfl (oD (stp_loadN (us := [_, _]) ts53 rfl (Cells.el (Rdb.own (id := 14) rfl o44) (by decide) hx37 0 2 rfl)) rfl (oE (stpU_alloc 19 tz53 rfl) rfl ?_))
   rintro _ _ ⟨b48, rfl, rfl⟩
   obtain ⟨x49, e49, H1⟩ := bS H1
   refine oC2 19 ts53 rfl rfl (nn (sr (oA 0 Tryd.underlying53 rfl ts51 rfl (oL 19 ts51 rfl (oB2 1 ts41 rfl (oE (stpU_call (fun i => 20 + i) cf40 (fun w hw => c_s_l8Find fl w x36.n a2 rfl (OwnC.pass (id := 17) rfl o46 hw) x49 e49) (yB rfl rfl)) rfl ?_))))))
   rintro _ _ ⟨_, ⟨rfl, rfl⟩, rfl⟩
   refine oS rfl (nn (cw_seq (sr (oM rfl (oW rfl (nn (cw_cond rfl (fun h50 => ?_) (fun h50 => ?_))))))))
   ·have H1 := cond_t H1 h50
    obtain ⟨x51, e51, H1⟩ := bS H1
    refine cw_exit (kw_nx_exit (kw_bl (kw_nx (cw_region (oM rfl (oP e51 rfl (oS rfl (ow_nil (kw_shut 14 16 17 18 o44 hb45 (idx_some hx37).2.2 (idx_some e36).2.2 rfl o46 rfl o47 ?_)))))))))
    rintro C52 o52
    exact kw_lqS (js := [1, 2, 6, 7, 14, 15]) (fuel, v31, v33, x51, C52) ⟨H1, (by simp [hl32]), o52⟩ (Nat.lt_succ_self _) ⟨rfl, rfl, rfl, rfl, rfl, rfl, trivial⟩ ⟨1, [2, 6, 7, 14, 15], rfl, rfl, 2, [6, 7, 14, 15], rfl, rfl, 6, [7, 14, 15], rfl, rfl, 7, [14, 15], rfl, rfl, 14, [15], rfl, rfl, 15, [], rfl, rfl, trivial⟩ (by decide)
   have H1 := cond_f H1 h50
   refine cw_skip (kw_nx (cw_seq (sr (oM rfl (oM rfl (oQ rfl (nn (cw_cond rfl (fun h53 => ?_) (fun h53 => ?_)))))))))
   ·have H1 := cond_t H1 h53
    obtain ⟨x54, e54, H1⟩ := bS H1
    refine cw_region (oA 0 Tryd.underlying53 rfl ts51 rfl (oL 19 ts51 rfl (oB2 1 ts41 rfl (oE (stpU_call (fun i => 20 + i) cf42 (fun w hw => c_s_l8Without fl w x36.n a2 rfl (OwnC.pass (id := 17) rfl o46 hw) x54 e54) (yB rfl rfl)) rfl ?_))))
    rintro _ _ ⟨_, ⟨p55, _, c57, C58, rfl, rfl, rfl, o58⟩, rfl⟩
    refine oA 0 Tryd.underlying53 rfl ts51 rfl (oC2 19 ts51 rfl rfl (nn (cw_region (oA 2 Tryd.underlying37 rfl ts35 rfl (oL 15 ts35 rfl (oM rfl (oB2 19 ts53 rfl (oD (stp_indexAddr Tryd.underlying35 ts53 (by decide) rfl (Eq.trans (a := (x17.c).length) (b := (v31).length) (by simp [hl32]) (Bun.len hb45)) rfl (Rdb.own (id := 14) rfl o44) hx37) rfl (oF (stpU_storeEl (id := 14) (i := 0) (⟨p55, (x54).length, c57, p41, (x36.w).length, c43⟩ : CpS) (by decide) ts53 rfl rfl rfl o44 hx37 rfl rfl rfl rfl) ?_)))))))))
    rintro _ _ ⟨C59, rfl, o59⟩
    obtain ⟨x60, e60, H1⟩ := bS H1
    refine ow_nil (kw_bl_normal (kw_nx (cw_region (oM rfl (oP e60 rfl (oS rfl (ow_nil (kw_shut 14 16 20 18 o59 (Bun.setL (Bun.set hb45 _) _) (idx_some (idx_set hx37)).2.2 (idx_setD e36 (⟨x54, x36.w⟩ : Cp)) rfl o58 rfl o47 ?_))))))))
    rintro C61 o61
    exact kw_lqS (js := [1, 2, 6, 7, 14, 15]) (fuel, (v31.set (Int.toNat v34) (⟨x54, x36.w⟩ : Cp)), v33, x60, C61) ⟨H1, (by simp [hl32]), o61⟩ (Nat.lt_succ_self _) ⟨rfl, rfl, rfl, rfl, rfl, rfl, trivial⟩ ⟨1, [2, 6, 7, 14, 15], rfl, rfl, 2, [6, 7, 14, 15], rfl, rfl, 6, [7, 14, 15], rfl, rfl, 7, [14, 15], rfl, rfl, 14, [15], rfl, rfl, 15, [], rfl, rfl, trivial⟩ (by decide)
   have H1 := cond_f H1 h53
   obtain ⟨x62, e62, H1⟩ := bS H1
   obtain ⟨x65, e65, H1⟩ := bS H1
   refine cw_seq (rdq g_mixed [14, 15] [17, 18, 19] { dst := dS [62, 63, 64, 65, 66, 67, 68, 69, 70, 71, 0], pre := gA [] [[], [0], [], [2], [], [2, 3, 4], rn 2 4, rn 2 5, rn 0 8, rn 0 9, rn 0 10], ids := gA [] [[], [], [], [], [], [], [], [21], [18], [], [19]], rs := rL [[(14, 0)], [(61, 1)], [(14, 0)], [(63, 3)], [(15, 0)], [(64, 4), (65, 5)], [(66, 6)], [(67, 7)], [(62, 2), (68, 8)], [(14, 0)], [(70, 10), (69, 9)]], rh := rL [[], [(19, 0)], [], [(19, 0)], [], [(17, 0)], [(17, 0)], [], [(18, 0), (21, 8)], [], [(19, 0)]], V := fun i g => gA undef [.pointer (some ⟨b48, 1, none⟩), .slice p41 ((x36.w).length) c43, .pointer (some ⟨b48, 0, none⟩), .slice p38 ((x36.n).length) c40, .int .i64 x49, .pointer (some ⟨eB p38, eO p38 + Int.toNat x49 * Enc.sz Nt + 0, none⟩), .agg #[.int .i64 x62.k.s, .int .i64 x62.k.p, .int .i64 x62.fr], .slice ((g 7).A 0) 1 1, .slice ((g 8).A 0) ((x65).length) ((g 8).C 0), .pointer (some ⟨b48, 1, none⟩)] i, U := fun i g => gA [] [[], [], [], [], [], [], [], [(21, ((g 7).R 0))], [(18, ((g 8).R 0))], [], [(19, [(b48, .cells #[.slice p38 ((x36.n).length) c40, .slice ((g 8).A 0) ((x65).length) ((g 8).C 0)] 53 (0, 0))])]] i, Φ := fun i x => match i with | 7 => OwnC (α := Nt) 55 (x.A 0) 1 ([x62]) (x.R 0) | 8 => OwnC 55 (x.A 0) (x.C 0) x65 (x.R 0) | _ => True } ?_ ?_)
   ·refine ⟨lc rfl rfl fun hs hh => stp_fieldAddr (j := 1) Tryd.underlying53 rfl ts51 rfl (sv hs 14 rfl) rfl, lc rfl rfl fun hs hh => stp_load1 ts51 (sv hs 61 rfl) (Cells.box (id := 19) (hh.get 19 _ rfl) 1 rfl), lc rfl rfl fun hs hh => stp_fieldAddr (j := 0) Tryd.underlying53 rfl ts51 rfl (sv hs 14 rfl) rfl, lc rfl rfl fun hs hh => stp_load1 ts51 (sv hs 63 rfl) (Cells.box (id := 19) (hh.get 19 _ rfl) 1 rfl), lM, lc rfl rfl fun hs hh => stp_indexAddr Tryd.underlying51 ts55 (by decide) (sv hs 64 rfl) rfl (sv hs 65 rfl) (Rdb.own (id := 17) (hh.get 17 _ rfl) o46) e62, lc rfl rfl fun hs hh => stp_loadN (us := [_, _, _]) ts55 (sv hs 66 rfl) (Cells.el (Rdb.own (id := 17) (hh.get 17 _ rfl) o46) (by decide) e62 0 3 rfl), ?_, ?_, lc rfl rfl fun hs hh => stp_fieldAddr (j := 1) Tryd.underlying53 rfl ts51 rfl (sv hs 14 rfl) rfl, ?_, trivial⟩
    ·refine le rfl rfl (fun g hΦ s h hs hh => (stpU_lit (sz := 3) (l := [x62]) [.agg #[.int .i64 x62.k.s, .int .i64 x62.k.p, .int .i64 x62.fr]] sl51 21 (sevp_cons (sv hs 67 rfl) sevp_nil) rfl rfl rfl rfl rfl rfl rfl rfl rfl)) ?_
     rintro g _ _ ⟨p63, C64, rfl, rfl, o64⟩
     exact ⟨⟨[p63], [], [C64]⟩, o64, .inr rfl, rfl⟩
    ·refine le rfl rfl (fun g hΦ s h hs hh => (stpU_append sl51 rfl (id := 18) (sv hs 62 rfl) rfl (sv hs 68 rfl) (by simp) (hh.get 18 _ rfl) o47 (Rdb.own (id := 21) (hh.get 21 _ rfl) (hΦ 7 rfl)) e65)) ?_
     rintro g _ _ ⟨p66, c67, C68, rfl, rfl, o68⟩
     exact ⟨⟨[p66], [c67], [C68]⟩, o68, .inr rfl, rfl⟩
    refine le rfl rfl (fun g hΦ s h hs hh => (stpU_store (id := 19) (cs' := [.slice p38 ((x36.n).length) c40, .slice ((g 8).A 0) ((x65).length) ((g 8).C 0)]) ts51 (sv hs 70 rfl) (sv hs 69 rfl) (hh.get 19 _ rfl) rfl rfl rfl rfl)) ?_
    rintro g _ _ rfl
    exact ⟨⟨[], [], []⟩, trivial, .inl rfl, rfl⟩
   intro g hΦ
   refine kw_gen (ι := Option Addr × Res × Option Addr × Nat × Res) (((g 7).A 0), ((g 7).R 0), ((g 8).A 0), ((g 8).C 0), ((g 8).R 0)) (fun | (p63, C64, p66, c67, C68) => OwnC (α := Nt) 55 p63 1 ([x62]) C64 ∧ OwnC 55 p66 c67 x65 C68) (fun | (p63, C64, p66, c67, C68) => [(1, .int .i64 a1), (5, .pointer (some ⟨b2, 0, none⟩)), (6, .pointer (some ⟨b3, 0, none⟩)), (11, .pointer (some ⟨b30, 0, none⟩)), (12, .int .i64 v33), (13, .int .i64 v34), (14, .pointer (some ⟨b48, 0, none⟩))]) (fun | (p63, C64, p66, c67, C68) => [(1, [(b2, .cells #[.int .i64 a2.s, .int .i64 a2.p] 41 (0, 0))]), (2, [(b3, .cells #[.slice none 0 0, .slice none 0 0, .slice none 0 0] 37 (0, 0))]), (6, C10), (7, C14), (14, C44), (15, [(b30, .cells #[.slice p7 ((x6.1.b).length) c9, .slice p11 ((x6.1.f).length) c13, .slice p26 ((x17.c).length) c28] 37 (0, 0))]), (16, C45), (17, C46), (18, C68), (19, [(b48, .cells #[.slice p38 ((x36.n).length) c40, .slice p66 ((x65).length) c67] 53 (0, 0))])]) ⟨(hΦ 7 (by decide)), (hΦ 8 (by decide))⟩ ⟨rfl, rfl, rfl, rfl, rfl, rfl, rfl, trivial⟩ ⟨rfl, rfl, rfl, rfl, rfl, rfl, rfl, rfl, rfl, rfl, trivial⟩ ?_
   rintro ⟨p63, C64, p66, c67, C68⟩ ⟨o64, o68⟩
   dsimp only
   obtain ⟨x69, e69, H1⟩ := bS H1
   refine kw_nx (cw_region (oM rfl (oP e69 rfl (oS rfl (nn (cw_region (oA 2 Tryd.underlying37 rfl ts35 rfl (oL 15 ts35 rfl (oM rfl (oB2 19 ts53 rfl (oD (stp_indexAddr Tryd.underlying35 ts53 (by decide) rfl (Eq.trans (a := (x17.c).length) (b := (v31).length) (by simp [hl32]) (Bun.len hb45)) rfl (Rdb.own (id := 14) rfl o44) hx37) rfl (oF (stpU_storeEl (id := 14) (i := 0) (⟨p38, (x36.n).length, c40, p66, (x65).length, c67⟩ : CpS) (by decide) ts53 rfl rfl rfl o44 hx37 rfl rfl rfl rfl) ?_))))))))))))
   rintro _ _ ⟨C70, rfl, o70⟩
   obtain ⟨x71, e71, H1⟩ := bS H1
   refine ow_nil (kw_bl_normal (kw_nx (cw_region (oM rfl (oP e71 rfl (oS rfl (ow_nil (kw_shut 14 16 17 18 o70 (Bun.setL (Bun.set hb45 _) _) (idx_some (idx_set hx37)).2.2 (idx_setD e36 (⟨x36.n, x65⟩ : Cp)) rfl o46 rfl o68 ?_))))))))
   rintro C72 o72
   exact kw_lqS (js := [1, 2, 6, 7, 14, 15]) (fuel, (v31.set (Int.toNat v34) (⟨x36.n, x65⟩ : Cp)), x69, x71, C72) ⟨H1, (by simp [hl32]), o72⟩ (Nat.lt_succ_self _) ⟨rfl, rfl, rfl, rfl, rfl, rfl, trivial⟩ ⟨1, [2, 6, 7, 14, 15], rfl, rfl, 2, [6, 7, 14, 15], rfl, rfl, 6, [7, 14, 15], rfl, rfl, 7, [14, 15], rfl, rfl, 14, [15], rfl, rfl, 15, [], rfl, rfl, trivial⟩ (by decide)
  have H1 := cond_f H1 h35
  refine cw_exit (kw_nx_exit (kw_lq_exit (kw_bl ?_)))
  obtain rfl := sI H1
  exact kw_joinS (js := [1, 2, 6, 7, 14, 15]) (v31, v33, v34, C32) ⟨rfl, (by simp [hl32]), o32⟩ ⟨rfl, rfl, rfl, rfl, rfl, rfl, trivial⟩ ⟨1, [2, 6, 7, 14, 15], rfl, rfl, 2, [6, 7, 14, 15], rfl, rfl, 6, [7, 14, 15], rfl, rfl, 7, [14, 15], rfl, rfl, 14, [15], rfl, rfl, 15, [], rfl, rfl, trivial⟩ (by decide)
 rintro ⟨v31, v33, v34, C32⟩ ⟨rfl, hl32, o32⟩
 dsimp only
 refine kw_nx (sr (oB3 15 ts37 rfl (oM rfl (oC3 2 ts37 rfl rfl (oS rfl (oS rfl (nn (cw_ret ?_))))))))
 obtain rfl := sI H0
 exact kr Tryd.results25 (.cons (.cellN (us := [_, _, _]) ts37 rfl (Cells.box (id := 2) rfl 3 rfl)) (.cons (.tmp rfl) (rT rfl))) [6, 7, 14] ⟨_, _, _, _, _, _, _, _, _, _, _, _, rfl, rfl, rfl, o10, rfl, o14, (by simp [hl32]), o32⟩
end Go.Proofs.YtfnliecmagnkdabDoor
