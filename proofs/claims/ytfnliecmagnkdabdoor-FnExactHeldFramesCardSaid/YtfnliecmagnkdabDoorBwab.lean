/- The walks: functions of the program return what their pure functions say. Printed by a program (gen.py). -/
import Derived.Test.YtfnliecmagnkdabDoorBp
import Derived.Test.YtfnliecmagnkdabDoorBt
import Derived.Test.YtfnliecmagnkdabDoorMan
import Derived.Test.YtfnliecmagnkdabDoorMap
import Derived.Test.YtfnliecmagnkdabDoorCpy
import Derived.Test.YtfnliecmagnkdabDoorClr
import Derived.Test.YtfnliecmagnkdabDoorDp
import Derived.Test.YtfnliecmagnkdabDoorSrt
import Derived.Test.YtfnliecmagnkdabDoorE8
set_option linter.unusedSimpArgs false
set_option linter.unusedVariables false
set_option linter.unusedSectionVars false
namespace Go.Proofs.YtfnliecmagnkdabDoor
open Go.RowKit
set_option maxHeartbeats 4000000
set_option maxRecDepth 20000
variable {p0_0 p0_1 p0_2 p1_0 p1_1 : Option Addr} {n0_0 n0_1 n0_2 n1_0 n1_1 : Nat} {c0_0 c0_1 c0_2 c1_0 c1_1 : Nat}
theorem c_s_TableValid (fl : Nat) (w : World) (a0 : T) (hn0_0 : n0_0 = (a0.b).length) (hr0_0 : RO w (hkeys []) (RdL p0_0 c0_0 a0.b)) (hn0_1 : n0_1 = (a0.f).length) (hr0_1 : RO w (hkeys []) (RdL p0_1 c0_1 a0.f)) (r : Bool) (H0 : s_TableValid fl a0 = some r) :
    Ct Tryd.prog 115 [.agg #[.slice p0_0 n0_0 c0_0, .slice p0_1 n0_1 c0_1]] w [] (fun rv h' => rv = .bool r ∧ h' = []) := by
  obtain rfl := hn0_0
  obtain rfl := hn0_1
  unfold s_TableValid at H0
  obtain rfl := Option.some.inj H0
  exact ct_of_calls (sTableValid_c _ a0 w ⟨_, _, rfl, (hr0_0 w (Fr.refl _ _)).rd, (hr0_1 w (Fr.refl _ _)).rd⟩)

theorem c_s_l1Space (fl : Nat) (w : World) (a0 : Int) (r : Bool) (H0 : s_l1Space fl a0 = some r) :
  Ct Tryd.prog 87 [.int .i64 a0] w [] (fun rv h' => rv = .bool r ∧ h' = []) := by
 unfold s_l1Space at H0
 refine ct_of_cw Tryd.func87 rfl Tryd.ntmps87 rfl (Sat.refl _ _) ?_
 obtain ⟨y1, ey1, H0⟩ := bS H0
 refine sr (oS rfl (nn (sr (oM rfl (oI rfl (oM rfl (ow_cutY 3 8 y1 ?_ ?_)))))))
 ·rcases Bool.eq_false_or_eq_true (decide (0 ≤ a0)) with hy1 | hy1
  ·have ey1 := cond_t ey1 hy1
   refine oG rfl hy1 (mv rfl) rfl (oG rfl hy1 (stp_lss rfl rfl) rfl (oD (stp_pick_t rfl hy1 rfl) rfl ?_))
   obtain rfl := sI ey1
   exact ow_nil (jy 3 0)
  have ey1 := cond_f ey1 hy1
  refine oO rfl hy1 rfl (oO rfl hy1 rfl (oD (stp_pick_f rfl hy1 rfl) rfl ?_))
  obtain rfl := sI ey1
  exact ow_nil (jy 3 0)
 refine oS rfl (nn (cw_ret ?_))
 obtain rfl := sI H0
 exact kr Tryd.results87 (rT rfl) [] ⟨rfl, rfl⟩

theorem c_s_l1Page (fl : Nat) (w : World) (a0 : Int) (r : Bool) (H0 : s_l1Page fl a0 = some r) :
  Ct Tryd.prog 88 [.int .i64 a0] w [] (fun rv h' => rv = .bool r ∧ h' = []) := by
 unfold s_l1Page at H0
 refine ct_of_cw Tryd.func88 rfl Tryd.ntmps88 rfl (Sat.refl _ _) ?_
 obtain ⟨y1, ey1, H0⟩ := bS H0
 refine sr (oS rfl (nn (sr (oM rfl (oI rfl (oM rfl (ow_cutY 3 8 y1 ?_ ?_)))))))
 ·rcases Bool.eq_false_or_eq_true (decide (0 ≤ a0)) with hy1 | hy1
  ·have ey1 := cond_t ey1 hy1
   refine oG rfl hy1 (mv rfl) rfl (oG rfl hy1 (stp_lss rfl rfl) rfl (oD (stp_pick_t rfl hy1 rfl) rfl ?_))
   obtain rfl := sI ey1
   exact ow_nil (jy 3 0)
  have ey1 := cond_f ey1 hy1
  refine oO rfl hy1 rfl (oO rfl hy1 rfl (oD (stp_pick_f rfl hy1 rfl) rfl ?_))
  obtain rfl := sI ey1
  exact ow_nil (jy 3 0)
 refine oS rfl (nn (cw_ret ?_))
 obtain rfl := sI H0
 exact kr Tryd.results88 (rT rfl) [] ⟨rfl, rfl⟩

theorem c_s_KeyValid (fl : Nat) (w : World) (a0 : K) (r : Bool) (H0 : s_KeyValid fl a0 = some r) :
  Ct Tryd.prog 38 [.agg #[.int .i64 a0.s, .int .i64 a0.p]] w [] (fun rv h' => rv = .bool r ∧ h' = []) := by
 unfold s_KeyValid at H0
 refine ct_of_cw Tryd.func38 rfl Tryd.ntmps38 rfl (Sat.refl _ _) ?_
 refine sr (oE (stpU_box 0 rfl rfl) rfl ?_)
 rintro _ _ ⟨b1, rfl, rfl⟩
 obtain ⟨x2, e2, H0⟩ := bS H0
 refine oS rfl (nn (sr (oA 0 Tryd.underlying41 rfl ts3 rfl (oL 0 ts3 rfl (oE (stpU_call (fun i => 1 + i) cf87 (fun w hw => c_s_l1Space fl w a0.s x2 e2) (yA rfl)) rfl ?_)))))
 rintro _ _ ⟨_, ⟨rfl, rfl⟩, rfl⟩
 obtain ⟨y3, ey3, H0⟩ := bS H0
 refine oM rfl (ow_cutY 4 10 y3 ?_ ?_)
 ·rcases Bool.eq_false_or_eq_true x2 with hy3 | hy3
  ·have ey3 := cond_t ey3 hy3
   obtain ⟨x4, e4, ey3⟩ := bS ey3
   refine oG rfl hy3 (fA 1 Tryd.underlying41 rfl ts3 rfl rfl rfl) rfl (oG rfl hy3 (lB 0 ts3 rfl rfl rfl) rfl (ow_eff (.some rfl hy3) (stpU_call (fun i => 1 + i) cf88 (fun w hw => c_s_l1Page fl w a0.p x4 e4) (yA rfl)) rfl ?_))
   rintro _ _ ⟨_, ⟨rfl, rfl⟩, rfl⟩
   refine oD (stp_pick_t rfl hy3 rfl) rfl ?_
   obtain rfl := sI ey3
   exact ow_nil (jy 4 0)
  have ey3 := cond_f ey3 hy3
  refine oO rfl hy3 rfl (oO rfl hy3 rfl (oO rfl hy3 rfl (oD (stp_pick_f rfl hy3 rfl) rfl ?_)))
  obtain rfl := sI ey3
  exact ow_nil (jy 4 0)
 refine oS rfl (nn (cw_ret ?_))
 obtain rfl := sI H0
 exact kr Tryd.results38 (rT rfl) [] ⟨rfl, rfl⟩

theorem c_s_l8Find (fl : Nat) (w : World) (a0 : (List Nt)) (a1 : K) (hn0_0 : n0_0 = (a0).length) (hr0_0 : RO w (hkeys []) (RdL p0_0 c0_0 a0)) (r : Int) (H0 : s_l8Find fl a0 a1 = some r) :
  Ct Tryd.prog 40 [.slice p0_0 n0_0 c0_0, .agg #[.int .i64 a1.s, .int .i64 a1.p]] w [] (fun rv h' => rv = .int .i64 r ∧ h' = []) := by
 subst hn0_0
 unfold s_l8Find at H0
 refine ct_of_cw Tryd.func40 rfl Tryd.ntmps40 rfl (Sat.refl _ _) ?_
 refine sr (oE (stpU_box 0 rfl rfl) rfl ?_)
 rintro _ _ ⟨b1, rfl, rfl⟩
 obtain ⟨o0_0, eo0_0, H0⟩ := bS H0
 refine oS rfl (nn (cw_seq (sr (oS rfl (nn (cw_join (ι := Int) (fun | v2 => o0_0 = .out v2) (fun | v2 => [(0, .slice p0_0 ((a0).length) c0_0), (3, .pointer (some ⟨b1, 0, none⟩)), (5, .int .i64 v2)]) (fun | v2 => [(0, [(b1, .cells #[.int .i64 a1.s, .int .i64 a1.p] 41 (0, 0))])]) ?_ ?_))))))
 ·refine cw_block (cw_loopS (ι := Nat × Int) (js := [0]) (fun x => x.1) (fun | (fuel, v2) => s_l8Find_L0 fl a0 a1 fuel v2 = some o0_0) (fun | (_, v2) => [(0, .slice p0_0 ((a0).length) c0_0), (3, .pointer (some ⟨b1, 0, none⟩)), (5, .int .i64 v2)]) (fun | (_, v2) => [(0, [(b1, .cells #[.int .i64 a1.s, .int .i64 a1.p] 41 (0, 0))])]) (fl, 0) eo0_0 ⟨rfl, rfl, rfl, trivial⟩ ⟨0, [], rfl, rfl, trivial⟩ (by decide) ?_)
  rintro ⟨fuel, v2⟩ H1
  have H1 : s_l8Find_L0 fl a0 a1 fuel v2 = some o0_0 := H1
  rcases fuel with _ | fuel
  ·rw [s_l8Find_L0.eq_1] at H1; cases H1
  rw [s_l8Find_L0.eq_2] at H1
  dsimp only
  refine cw_seq (sr (oM rfl (oM rfl (oD (stp_len Tryd.underlying51 rfl) rfl (oW rfl (nn (cw_cond rfl (fun h3 => ?_) (fun h3 => ?_))))))))
  ·have H1 := cond_t H1 h3
   obtain ⟨x4, e4, H1⟩ := bS H1
   refine cw_skip (kw_nx (cw_seq (cw_block (cw_seq (rdq g_mixed [0, 3, 5] [0] { dst := dS [13, 14, 15, 16, 17, 18, 19], pre := gA [] [[], [], [0, 1], [0, 1, 2], rn 0 4, [], rn 0 6], ids := fun _ => [], rs := rL [[(0, 0)], [(5, 0)], [(12, 1), (13, 2)], [(14, 3)], [(15, 4)], [(3, 0)], [(16, 5), (17, 6)]], rh := rL [[], [], [], [], [], [(0, 0)]], V := fun i g => gA undef [.slice p0_0 ((a0).length) c0_0, .int .i64 v2, .pointer (some ⟨eB p0_0, eO p0_0 + Int.toNat v2 * Enc.sz Nt + 0, none⟩), .pointer (some ⟨eB p0_0, eO p0_0 + Int.toNat v2 * Enc.sz Nt + 0, none⟩), .agg #[.int .i64 x4.k.s, .int .i64 x4.k.p], .agg #[.int .i64 a1.s, .int .i64 a1.p], .bool (x4.k == a1)] i, U := fun _ _ => [], Φ := fun _ _ => True } ?_ ?_)))))
   ·exact ⟨lM, lM, lc rfl rfl fun hs hh => stp_indexAddr Tryd.underlying51 ts55 (by decide) (sv hs 12 rfl) rfl (sv hs 13 rfl) (Rdb.ro hr0_0) e4, lc rfl rfl fun hs hh => stp_fieldAddr (j := 0) Tryd.underlying55 rfl ts41 rfl (sv hs 14 rfl) rfl, lc rfl rfl fun hs hh => stp_loadN (us := [_, _]) ts41 (sv hs 15 rfl) (Cells.el (Rdb.ro hr0_0) (by decide) e4 0 2 rfl), lc rfl rfl fun hs hh => stp_loadN (us := [_, _]) ts41 (sv hs 3 rfl) (Cells.box (id := 0) (hh.get 0 _ rfl) 2 rfl), lc rfl rfl fun hs hh => stp_eqlS te41 x4.k a1 (sv hs 16 rfl) (sv hs 17 rfl), trivial⟩
   intro g hΦ
   refine KW.sub (s' := [(0, .slice p0_0 ((a0).length) c0_0), (3, .pointer (some ⟨b1, 0, none⟩)), (5, .int .i64 v2), (18, .bool (x4.k == a1))]) (h' := [(0, [(b1, .cells #[.int .i64 a1.s, .int .i64 a1.p] 41 (0, 0))])]) ?_ ⟨rfl, rfl, rfl, rfl, trivial⟩ ⟨rfl, trivial⟩
   refine kw_nx (cw_cond rfl (fun h5 => ?_) (fun h5 => ?_))
   ·have H1 := cond_t H1 h5
    refine sr (oM rfl (oS rfl (nn (cw_ret (kw_bl_ret (kw_nx_ret (kw_lq_ret (kw_bl_ret (kw_join_ret (kw_nx_ret ?_))))))))))
    obtain rfl := sI H1
    obtain rfl := sI H0
    exact kr Tryd.results40 (rT rfl) [] ⟨rfl, rfl⟩
   have H1 := cond_f H1 h5
   obtain ⟨x6, e6, H1⟩ := bS H1
   exact cw_skip (kw_bl_normal (kw_nx (cw_region (oM rfl (oP e6 rfl (oS rfl (ow_nil (kw_lqS (js := [0]) (fuel, x6) H1 (Nat.lt_succ_self _) ⟨rfl, rfl, rfl, trivial⟩ ⟨0, [], rfl, rfl, trivial⟩ (by decide)))))))))
  have H1 := cond_f H1 h3
  refine cw_exit (kw_nx_exit (kw_lq_exit (kw_bl ?_)))
  obtain rfl := sI H1
  exact kw_joinS (js := [0]) v2 rfl ⟨rfl, rfl, rfl, trivial⟩ ⟨0, [], rfl, rfl, trivial⟩ (by decide)
 rintro v2 rfl
 dsimp only
 refine kw_nx (sr (oS rfl (nn (cw_ret ?_))))
 obtain rfl := sI H0
 exact kr Tryd.results40 (rT rfl) [] ⟨rfl, rfl⟩

theorem c_s_l2Hash (fl : Nat) (w : World) (a0 : K) (a1 : Int) (r : Int) (H0 : s_l2Hash fl a0 a1 = some r) :
  Ct Tryd.prog 91 [.agg #[.int .i64 a0.s, .int .i64 a0.p], .int .i64 a1] w [] (fun rv h' => rv = .int .i64 r ∧ h' = []) := by
 unfold s_l2Hash at H0
 refine ct_of_cw Tryd.func91 rfl Tryd.ntmps91 rfl (Sat.refl _ _) ?_
 refine sr (oE (stpU_box 0 rfl rfl) rfl ?_)
 rintro _ _ ⟨b1, rfl, rfl⟩
 obtain ⟨x2, e2, H0⟩ := bS H0
 obtain ⟨x3, e3, H0⟩ := bS H0
 obtain ⟨x4, e4, H0⟩ := bS H0
 refine oS rfl (nn (sr (oA 0 Tryd.underlying41 rfl ts3 rfl (oL 0 ts3 rfl (oD (stp_mul rfl rfl e2) rfl (oA 1 Tryd.underlying41 rfl ts3 rfl (oL 0 ts3 rfl (oP e3 rfl (oS rfl (nn (sr (oM rfl (oD (stp_mul rfl rfl e4) rfl ?_)))))))))))))
 obtain ⟨x5, e5, H0⟩ := bS H0
 obtain ⟨x6, e6, H0⟩ := bS H0
 obtain ⟨x7, e7, H0⟩ := bS H0
 refine oD (stp_rem rfl rfl e5) rfl (oM rfl (oD (stp_mul rfl rfl e6) rfl (oD (stp_quo rfl rfl e7) rfl (oS rfl (nn (cw_ret ?_))))))
 obtain rfl := sI H0
 exact kr Tryd.results91 (rT rfl) [] ⟨rfl, rfl⟩

theorem c_s_l3Chain (fl : Nat) (w : World) (a0 : T) (a1 : Int) (hn0_0 : n0_0 = (a0.b).length) (hr0_0 : RO w (hkeys []) (RdL p0_0 c0_0 a0.b)) (hn0_1 : n0_1 = (a0.f).length) (hr0_1 : RO w (hkeys []) (RdL p0_1 c0_1 a0.f)) (r : (List Int) × Bool) (H0 : s_l3Chain fl a0 a1 = some r) :
  Ct Tryd.prog 90 [.agg #[.slice p0_0 n0_0 c0_0, .slice p0_1 n0_1 c0_1], .int .i64 a1] w [] (fun rv h' => ∃ (x0 : Option Addr) (y0 z0 : Nat) (C0 : Res), rv = .tuple #[.slice x0 y0 z0, .bool r.2] ∧ h' = [(0, C0)] ∧ y0 = (r.1).length ∧ OwnC 3 x0 z0 r.1 C0) := by
 subst hn0_0 hn0_1
 unfold s_l3Chain at H0
 refine ct_of_cw Tryd.func90 rfl Tryd.ntmps90 rfl (Sat.refl _ _) ?_
 refine sr (oE (stpU_box 0 rfl rfl) rfl ?_)
 rintro _ _ ⟨b1, rfl, rfl⟩
 refine oS rfl (oS rfl (nn (sr (oE (stpU_lit0 sl22 1) rfl ?_))))
 rintro _ _ ⟨p2, C3, rfl, rfl, o3⟩
 obtain ⟨x4, e4, H0⟩ := bS H0
 obtain ⟨o0_0, eo0_0, H0⟩ := bS H0
 refine oS rfl (nn (sr (oA 0 Tryd.underlying34 rfl ts22 rfl (oL 0 ts22 rfl (oM rfl (oD (stp_indexAddr Tryd.underlying22 ts3 (by decide) rfl rfl rfl (Rdb.ro hr0_0) e4) rfl (oD (stp_load1 ts3 rfl (Cells.el (Rdb.ro hr0_0) (by decide) e4 0 1 rfl)) rfl (oS rfl (nn (cw_seq (cw_join (ι := (List Int) × Int × Option Addr × Nat × Nat × Res) (fun | (v5, v10, p6, n7, c8, C9) => o0_0 = .out (v5, v10) ∧ n7 = (v5).length ∧ OwnC 3 p6 c8 v5 C9) (fun | (v5, v10, p6, n7, c8, C9) => [(2, .pointer (some ⟨b1, 0, none⟩)), (6, .slice p6 n7 c8), (7, .int .i64 v10)]) (fun | (v5, v10, p6, n7, c8, C9) => [(0, [(b1, .cells #[.slice p0_0 ((a0.b).length) c0_0, .slice p0_1 ((a0.f).length) c0_1] 34 (0, 0))]), (1, C9)]) ?_ ?_)))))))))))
 ·refine cw_block (cw_loopS (ι := Nat × (List Int) × Int × Option Addr × Nat × Nat × Res) (js := [0, 1]) (fun x => x.1) (fun | (fuel, v5, v10, p6, n7, c8, C9) => s_l3Chain_L0 fl a0 fuel v5 v10 = some o0_0 ∧ n7 = (v5).length ∧ OwnC 3 p6 c8 v5 C9) (fun | (_, v5, v10, p6, n7, c8, C9) => [(2, .pointer (some ⟨b1, 0, none⟩)), (6, .slice p6 n7 c8), (7, .int .i64 v10)]) (fun | (_, v5, v10, p6, n7, c8, C9) => [(0, [(b1, .cells #[.slice p0_0 ((a0.b).length) c0_0, .slice p0_1 ((a0.f).length) c0_1] 34 (0, 0))]), (1, C9)]) (fl, ([] : List Int), x4, p2, 0, 0, C3) ⟨eo0_0, (by simp), o3⟩ ⟨rfl, rfl, rfl, trivial⟩ ⟨0, [1], rfl, rfl, 1, [], rfl, rfl, trivial⟩ (by decide) ?_)
  rintro ⟨fuel, v5, v10, p6, _, c8, C9⟩ ⟨H1, rfl, o9⟩
  have H1 : s_l3Chain_L0 fl a0 fuel v5 v10 = some o0_0 := H1
  rcases fuel with _ | fuel
  ·rw [s_l3Chain_L0.eq_1] at H1; cases H1
  rw [s_l3Chain_L0.eq_2] at H1
  dsimp only
  refine cw_seq (sr (oM rfl (oU rfl (nn (cw_cond rfl (fun h11 => ?_) (fun h11 => ?_))))))
  ·have H1 := cond_t H1 h11
   obtain ⟨y12, ey12, H1⟩ := bS H1
   refine cw_skip (kw_nx (cw_block (cw_seq (sr (oM rfl (oW rfl (oM rfl (ow_cutY 6 24 y12 ?_ ?_))))))))
   ·rcases Bool.eq_false_or_eq_true (decide (v10 < 0)) with hy12 | hy12
    ·have ey12 := cond_t ey12 hy12
     refine oO rfl hy12 rfl (oO rfl hy12 rfl (oO rfl hy12 rfl (oO rfl hy12 rfl (oO rfl hy12 rfl (oD (stp_pick_t rfl hy12 rfl) rfl ?_)))))
     obtain rfl := sI ey12
     exact ow_nil (jy 6 0)
    have ey12 := cond_f ey12 hy12
    refine oG rfl hy12 (mv rfl) rfl (oG rfl hy12 (fA 1 Tryd.underlying34 rfl ts32 rfl rfl rfl) rfl (oG rfl hy12 (lB 0 ts32 rfl rfl rfl) rfl (oG rfl hy12 (stp_len Tryd.underlying32 rfl) rfl (oG rfl hy12 (stp_geq rfl rfl) rfl (oD (stp_pick_f rfl hy12 rfl) rfl ?_)))))
    obtain rfl := sI ey12
    exact ow_nil (jy 6 0)
   obtain ⟨y13, ey13, H1⟩ := bS H1
   refine oM rfl (ow_cutY 7 32 y13 ?_ ?_)
   ·rcases Bool.eq_false_or_eq_true y12 with hy13 | hy13
    ·have ey13 := cond_t ey13 hy13
     refine oO rfl hy13 rfl (oO rfl hy13 rfl (oO rfl hy13 rfl (oO rfl hy13 rfl (oO rfl hy13 rfl (oO rfl hy13 rfl (oD (stp_pick_t rfl hy13 rfl) rfl ?_))))))
     obtain rfl := sI ey13
     exact ow_nil (jy 7 0)
    have ey13 := cond_f ey13 hy13
    refine oG rfl hy13 (mv rfl) rfl (oG rfl hy13 (stp_len Tryd.underlying22 rfl) rfl (oG rfl hy13 (fA 1 Tryd.underlying34 rfl ts32 rfl rfl rfl) rfl (oG rfl hy13 (lB 0 ts32 rfl rfl rfl) rfl (oG rfl hy13 (stp_len Tryd.underlying32 rfl) rfl (oG rfl hy13 (stp_geq rfl rfl) rfl (oD (stp_pick_f rfl hy13 rfl) rfl ?_))))))
    obtain rfl := sI ey13
    exact ow_nil (jy 7 0)
   obtain ⟨y14, ey14, H1⟩ := bS H1
   refine oM rfl (ow_cutY 8 41 y14 ?_ ?_)
   ·rcases Bool.eq_false_or_eq_true y13 with hy14 | hy14
    ·have ey14 := cond_t ey14 hy14
     refine oO rfl hy14 rfl (oO rfl hy14 rfl (oO rfl hy14 rfl (oO rfl hy14 rfl (oO rfl hy14 rfl (oO rfl hy14 rfl (oO rfl hy14 rfl (oD (stp_pick_t rfl hy14 rfl) rfl ?_)))))))
     obtain rfl := sI ey14
     exact ow_nil (jy 8 0)
    have ey14 := cond_f ey14 hy14
    obtain ⟨x15, e15, ey14⟩ := bS ey14
    refine oG rfl hy14 (fA 1 Tryd.underlying34 rfl ts32 rfl rfl rfl) rfl (oG rfl hy14 (lB 0 ts32 rfl rfl rfl) rfl (oG rfl hy14 (mv rfl) rfl (oG rfl hy14 (stp_indexAddr Tryd.underlying32 ts71 (by decide) rfl rfl rfl (Rdb.ro hr0_1) e15) rfl (oG rfl hy14 (fA 0 Tryd.underlying71 rfl ts4 rfl rfl rfl) rfl (oG rfl hy14 (stp_load1 ts4 rfl (Cells.el (Rdb.ro hr0_1) (by decide) e15 0 1 rfl)) rfl (oG rfl hy14 (stp_not rfl) rfl (oD (stp_pick_f rfl hy14 rfl) rfl ?_)))))))
    obtain rfl := sI ey14
    exact ow_nil (jy 8 0)
   refine ow_nil (kw_nx (cw_cond rfl (fun h16 => ?_) (fun h16 => ?_)))
   ·have H1 := cond_t H1 h16
    refine sr (oM rfl (oS rfl (oS rfl (nn (cw_ret (kw_nx_ret (kw_bl_ret (kw_lq_ret (kw_bl_ret (kw_join_ret (kw_nx_ret ?_)))))))))))
    obtain rfl := sI H1
    obtain rfl := sI H0
    exact kr Tryd.results90 (.cons (.tmp rfl) (rT rfl)) [1] ⟨_, _, _, _, rfl, rfl, rfl, o9⟩
   have H1 := cond_f H1 h16
   refine cw_skip (kw_nx (sr (oM rfl (oM rfl (oE (stpU_lit (sz := 1) (l := [v10]) [.int .i64 v10] sl22 2 (sevp_cons rfl sevp_nil) rfl rfl rfl rfl rfl rfl rfl rfl rfl) rfl ?_)))))
   rintro _ _ ⟨p17, C18, rfl, rfl, o18⟩
   obtain ⟨x19, e19, H1⟩ := bS H1
   refine oE (stpU_append sl22 rfl (id := 1) rfl rfl rfl (by simp) rfl o9 (Rdb.own (id := 2) rfl o18) e19) rfl ?_
   rintro _ _ ⟨p20, c21, C22, rfl, rfl, o22⟩
   obtain ⟨x23, e23, H1⟩ := bS H1
   exact oS rfl (nn (cw_region (oA 1 Tryd.underlying34 rfl ts32 rfl (oL 0 ts32 rfl (oM rfl (oD (stp_indexAddr Tryd.underlying32 ts71 (by decide) rfl rfl rfl (Rdb.ro hr0_1) e23) rfl (oA 4 Tryd.underlying71 rfl ts3 rfl (oD (stp_load1 ts3 rfl (Cells.el (Rdb.ro hr0_1) (by decide) e23 4 1 rfl)) rfl (oS rfl (ow_nil (kw_bl_normal (kw_lqS (js := [0, 1]) (fuel, x19, x23.nx, p20, ((x19).length), c21, C22) ⟨H1, rfl, o22⟩ (Nat.lt_succ_self _) ⟨rfl, rfl, rfl, trivial⟩ ⟨0, [1], rfl, rfl, 1, [], rfl, rfl, trivial⟩ (by decide)))))))))))))
  have H1 := cond_f H1 h11
  refine cw_exit (kw_nx_exit (kw_lq_exit (kw_bl ?_)))
  obtain rfl := sI H1
  exact kw_joinS (js := [0, 1]) (v5, v10, p6, ((v5).length), c8, C9) ⟨rfl, rfl, o9⟩ ⟨rfl, rfl, rfl, trivial⟩ ⟨0, [1], rfl, rfl, 1, [], rfl, rfl, trivial⟩ (by decide)
 rintro ⟨v5, v10, p6, _, c8, C9⟩ ⟨rfl, rfl, o9⟩
 dsimp only
 refine kw_nx (sr (oM rfl (oS rfl (oS rfl (nn (cw_ret ?_))))))
 obtain rfl := sI H0
 exact kr Tryd.results90 (.cons (.tmp rfl) (rT rfl)) [1] ⟨_, _, _, _, rfl, rfl, rfl, o9⟩

theorem c_s_l3Find (fl : Nat) (w : World) (a0 : T) (a1 : K) (hn0_0 : n0_0 = (a0.b).length) (hr0_0 : RO w (hkeys []) (RdL p0_0 c0_0 a0.b)) (hn0_1 : n0_1 = (a0.f).length) (hr0_1 : RO w (hkeys []) (RdL p0_1 c0_1 a0.f)) (r : Int × Int) (H0 : s_l3Find fl a0 a1 = some r) :
  Ct Tryd.prog 41 [.agg #[.slice p0_0 n0_0 c0_0, .slice p0_1 n0_1 c0_1], .agg #[.int .i64 a1.s, .int .i64 a1.p]] w [] (fun rv h' => rv = .tuple #[.int .i64 r.1, .int .i64 r.2] ∧ h' = []) := by
 subst hn0_0 hn0_1
 unfold s_l3Find at H0
 refine ct_of_cw Tryd.func41 rfl Tryd.ntmps41 rfl (Sat.refl _ _) ?_
 refine sr (oE (stpU_box 0 rfl rfl) rfl ?_)
 rintro _ _ ⟨b1, rfl, rfl⟩
 refine oE (stpU_box 1 rfl rfl) rfl ?_
 rintro _ _ ⟨b2, rfl, rfl⟩
 obtain ⟨x3, e3, H0⟩ := bS H0
 obtain ⟨x4, e4, H0⟩ := bS H0
 refine oS rfl (oS rfl (nn (cw_seq (rdq g_mixed [2, 3] [0, 1] { dst := dS [11, 12, 13, 14, 15, 16, 17, 10, 18, 19, 7, 8], pre := gA [] [[], [], [], [2], [2, 3], rn 1 4, rn 0 6, rn 0 7, rn 0 8, rn 0 8, rn 0 9, rn 0 11], ids := gA [] [[], [], [], [], [], [], [2]], rs := rL [[(2, 0)], [(3, 0)], [(2, 0)], [(12, 3)], [(13, 4)], [(11, 2), (14, 5)], [(10, 1), (15, 6)], [(16, 7)], [(9, 8)], [(9, 8)], [(17, 9)], [(18, 10)]], rh := rL [[(0, 0)], [(1, 0)], [], [(0, 0)]], V := fun i g => gA undef [.agg #[.slice p0_0 ((a0.b).length) c0_0, .slice p0_1 ((a0.f).length) c0_1], .agg #[.int .i64 a1.s, .int .i64 a1.p], .pointer (some ⟨b1, 0, none⟩), .slice p0_0 ((a0.b).length) c0_0, .int .i64 ((a0.b).length : Int), .int .i64 x3, .tuple #[.slice ((g 6).A 0) ((x4.1).length) ((g 6).C 0), .bool x4.2], .tuple #[.slice ((g 6).A 0) ((x4.1).length) ((g 6).C 0), .bool x4.2], .slice ((g 6).A 0) ((x4.1).length) ((g 6).C 0), .bool x4.2, .slice ((g 6).A 0) ((x4.1).length) ((g 6).C 0), .bool x4.2] i, U := fun i g => match i with | 6 => [(2, ((g 6).R 0))] | _ => [], Φ := fun i x => match i with | 6 => OwnC 3 (x.A 0) (x.C 0) x4.1 (x.R 0) | _ => True } ?_ ?_))))
 ·refine ⟨lc rfl rfl fun hs hh => stp_loadN (us := [_, _]) ts34 (sv hs 2 rfl) (Cells.box (id := 0) (hh.get 0 _ rfl) 2 rfl), lc rfl rfl fun hs hh => stp_loadN (us := [_, _]) ts41 (sv hs 3 rfl) (Cells.box (id := 1) (hh.get 1 _ rfl) 2 rfl), lc rfl rfl fun hs hh => stp_fieldAddr (j := 0) Tryd.underlying34 rfl ts22 rfl (sv hs 2 rfl) rfl, lc rfl rfl fun hs hh => stp_load1 ts22 (sv hs 12 rfl) (Cells.box (id := 0) (hh.get 0 _ rfl) 1 rfl), lc rfl rfl fun hs hh => stp_len Tryd.underlying22 (sv hs 13 rfl), ?_, ?_, lM, lT, lT, lS, lS, trivial⟩
  ·refine le rfl rfl (fun g hΦ s h hs hh => (stpU_call (fun i => 2 + i) cf91 (fun w hw => c_s_l2Hash fl w a1 ((a0.b).length : Int) x3 e3) (yB (sv hs 11 rfl) (sv hs 14 rfl)))) ?_
   rintro g _ _ ⟨_, ⟨rfl, rfl⟩, rfl⟩
   exact ⟨⟨[], [], []⟩, trivial, .inr rfl, rfl⟩
  refine le rfl rfl (fun g hΦ s h hs hh => (stpU_call (fun i => 2 + i) cf90 (fun w hw => c_s_l3Chain fl w a0 x3 rfl (RO.pass hr0_0 hw) rfl (RO.pass hr0_1 hw) x4 e4) (yB (sv hs 10 rfl) (sv hs 15 rfl)))) ?_
  rintro g _ _ ⟨_, ⟨p5, _, c7, C8, rfl, rfl, rfl, o8⟩, rfl⟩
  exact ⟨⟨[p5], [c7], [C8]⟩, o8, .inr rfl, rfl⟩
 intro g hΦ
 refine kw_gen (ι := Option Addr × Nat × Res) (((g 6).A 0), ((g 6).C 0), ((g 6).R 0)) (fun | (p5, c7, C8) => OwnC 3 p5 c7 x4.1 C8) (fun | (p5, c7, C8) => [(2, .pointer (some ⟨b1, 0, none⟩)), (3, .pointer (some ⟨b2, 0, none⟩)), (6, .slice p5 ((x4.1).length) c7)]) (fun | (p5, c7, C8) => [(0, [(b1, .cells #[.slice p0_0 ((a0.b).length) c0_0, .slice p0_1 ((a0.f).length) c0_1] 34 (0, 0))]), (1, [(b2, .cells #[.int .i64 a1.s, .int .i64 a1.p] 41 (0, 0))]), (2, C8)]) (hΦ 6 (by decide)) ⟨rfl, rfl, rfl, trivial⟩ ⟨rfl, rfl, rfl, trivial⟩ ?_
 rintro ⟨p5, c7, C8⟩ o8
 have o8 : OwnC 3 p5 c7 x4.1 C8 := o8
 dsimp only
 obtain ⟨o0_0, eo0_0, H0⟩ := bS H0
 refine kw_nx (cw_seq (sr (oS rfl (nn (cw_join (ι := Int) (fun | v9 => o0_0 = .out v9) (fun | v9 => [(2, .pointer (some ⟨b1, 0, none⟩)), (3, .pointer (some ⟨b2, 0, none⟩)), (6, .slice p5 ((x4.1).length) c7), (8, .int .i64 v9)]) (fun | v9 => [(0, [(b1, .cells #[.slice p0_0 ((a0.b).length) c0_0, .slice p0_1 ((a0.f).length) c0_1] 34 (0, 0))]), (1, [(b2, .cells #[.int .i64 a1.s, .int .i64 a1.p] 41 (0, 0))]), (2, C8)]) ?_ ?_)))))
 ·refine cw_block (cw_loopS (ι := Nat × Int) (js := [0, 1, 2]) (fun x => x.1) (fun | (fuel, v9) => s_l3Find_L0 fl a0 a1 x4 fuel v9 = some o0_0) (fun | (_, v9) => [(2, .pointer (some ⟨b1, 0, none⟩)), (3, .pointer (some ⟨b2, 0, none⟩)), (6, .slice p5 ((x4.1).length) c7), (8, .int .i64 v9)]) (fun | (_, v9) => [(0, [(b1, .cells #[.slice p0_0 ((a0.b).length) c0_0, .slice p0_1 ((a0.f).length) c0_1] 34 (0, 0))]), (1, [(b2, .cells #[.int .i64 a1.s, .int .i64 a1.p] 41 (0, 0))]), (2, C8)]) (fl, 0) eo0_0 ⟨rfl, rfl, rfl, rfl, trivial⟩ ⟨0, [1, 2], rfl, rfl, 1, [2], rfl, rfl, 2, [], rfl, rfl, trivial⟩ (by decide) ?_)
  rintro ⟨fuel, v9⟩ H1
  have H1 : s_l3Find_L0 fl a0 a1 x4 fuel v9 = some o0_0 := H1
  rcases fuel with _ | fuel
  ·rw [s_l3Find_L0.eq_1] at H1; cases H1
  rw [s_l3Find_L0.eq_2] at H1
  dsimp only
  refine cw_seq (sr (oM rfl (oM rfl (oD (stp_len Tryd.underlying22 rfl) rfl (oW rfl (nn (cw_cond rfl (fun h10 => ?_) (fun h10 => ?_))))))))
  ·have H1 := cond_t H1 h10
   obtain ⟨x11, e11, H1⟩ := bS H1
   obtain ⟨x12, e12, H1⟩ := bS H1
   refine cw_skip (kw_nx (cw_seq (cw_block (cw_seq (rdq g_mixed [2, 3, 6, 8] [0, 1, 2] { dst := dS [26, 27, 28, 29, 30, 31, 32, 33, 34, 35, 36], pre := gA [] [[], [0], [], [], [2, 3], [2, 3, 4], rn 0 6, rn 0 7, rn 0 8, [], rn 0 10], ids := fun _ => [], rs := rL [[(2, 0)], [(25, 1)], [(6, 0)], [(8, 0)], [(27, 3), (28, 4)], [(29, 5)], [(26, 2), (30, 6)], [(31, 7)], [(32, 8)], [(3, 0)], [(33, 9), (34, 10)]], rh := rL [[], [(0, 0)], [], [], [(2, 0)], [(2, 0)], [], [], [], [(1, 0)]], V := fun i g => gA undef [.pointer (some ⟨b1, 1, none⟩), .slice p0_1 ((a0.f).length) c0_1, .slice p5 ((x4.1).length) c7, .int .i64 v9, .pointer (some ⟨eB p5, eO p5 + Int.toNat v9 * Enc.sz Int + 0, none⟩), .int .i64 x11, .pointer (some ⟨eB p0_1, eO p0_1 + Int.toNat x11 * Enc.sz F + 0, none⟩), .pointer (some ⟨eB p0_1, eO p0_1 + Int.toNat x11 * Enc.sz F + 1, none⟩), .agg #[.int .i64 x12.k.s, .int .i64 x12.k.p], .agg #[.int .i64 a1.s, .int .i64 a1.p], .bool (x12.k == a1)] i, U := fun _ _ => [], Φ := fun _ _ => True } ?_ ?_)))))
   ·exact ⟨lc rfl rfl fun hs hh => stp_fieldAddr (j := 1) Tryd.underlying34 rfl ts32 rfl (sv hs 2 rfl) rfl, lc rfl rfl fun hs hh => stp_load1 ts32 (sv hs 25 rfl) (Cells.box (id := 0) (hh.get 0 _ rfl) 1 rfl), lM, lM, lc rfl rfl fun hs hh => stp_indexAddr Tryd.underlying22 ts3 (by decide) (sv hs 27 rfl) rfl (sv hs 28 rfl) (Rdb.own (id := 2) (hh.get 2 _ rfl) o8) e11, lc rfl rfl fun hs hh => stp_load1 ts3 (sv hs 29 rfl) (Cells.el (Rdb.own (id := 2) (hh.get 2 _ rfl) o8) (by decide) e11 0 1 rfl), lc rfl rfl fun hs hh => stp_indexAddr Tryd.underlying32 ts71 (by decide) (sv hs 26 rfl) rfl (sv hs 30 rfl) (Rdb.ro hr0_1) e12, lc rfl rfl fun hs hh => stp_fieldAddr (j := 1) Tryd.underlying71 rfl ts41 rfl (sv hs 31 rfl) rfl, lc rfl rfl fun hs hh => stp_loadN (us := [_, _]) ts41 (sv hs 32 rfl) (Cells.el (Rdb.ro hr0_1) (by decide) e12 1 2 rfl), lc rfl rfl fun hs hh => stp_loadN (us := [_, _]) ts41 (sv hs 3 rfl) (Cells.box (id := 1) (hh.get 1 _ rfl) 2 rfl), lc rfl rfl fun hs hh => stp_eqlS te41 x12.k a1 (sv hs 33 rfl) (sv hs 34 rfl), trivial⟩
   intro g hΦ
   refine KW.sub (s' := [(2, .pointer (some ⟨b1, 0, none⟩)), (3, .pointer (some ⟨b2, 0, none⟩)), (6, .slice p5 ((x4.1).length) c7), (8, .int .i64 v9), (35, .bool (x12.k == a1))]) (h' := [(0, [(b1, .cells #[.slice p0_0 ((a0.b).length) c0_0, .slice p0_1 ((a0.f).length) c0_1] 34 (0, 0))]), (1, [(b2, .cells #[.int .i64 a1.s, .int .i64 a1.p] 41 (0, 0))]), (2, C8)]) ?_ ⟨rfl, rfl, rfl, rfl, rfl, trivial⟩ ⟨rfl, rfl, rfl, trivial⟩
   refine kw_nx (cw_cond rfl (fun h13 => ?_) (fun h13 => ?_))
   ·have H1 := cond_t H1 h13
    obtain ⟨x14, e14, H1⟩ := bS H1
    refine sr (oM rfl (oM rfl (oD (stp_indexAddr Tryd.underlying22 ts3 (by decide) rfl rfl rfl (Rdb.own (id := 2) rfl o8) e11) rfl (oD (stp_load1 ts3 rfl (Cells.el (Rdb.own (id := 2) rfl o8) (by decide) e11 0 1 rfl)) rfl (oM rfl (oP e14 rfl (oS rfl (oS rfl (nn (cw_ret (kw_bl_ret (kw_nx_ret (kw_lq_ret ?_)))))))))))))
    refine kw_bl_ret (kw_join_ret (kw_nx_ret ?_))
    obtain rfl := sI H1
    obtain rfl := sI H0
    exact kr Tryd.results41 (.cons (.tmp rfl) (rT rfl)) [] ⟨rfl, rfl⟩
   have H1 := cond_f H1 h13
   obtain ⟨x15, e15, H1⟩ := bS H1
   exact cw_skip (kw_bl_normal (kw_nx (cw_region (oM rfl (oP e15 rfl (oS rfl (ow_nil (kw_lqS (js := [0, 1, 2]) (fuel, x15) H1 (Nat.lt_succ_self _) ⟨rfl, rfl, rfl, rfl, trivial⟩ ⟨0, [1, 2], rfl, rfl, 1, [2], rfl, rfl, 2, [], rfl, rfl, trivial⟩ (by decide)))))))))
  have H1 := cond_f H1 h10
  refine cw_exit (kw_nx_exit (kw_lq_exit (kw_bl ?_)))
  obtain rfl := sI H1
  exact kw_joinS (js := [0, 1, 2]) v9 rfl ⟨rfl, rfl, rfl, rfl, trivial⟩ ⟨0, [1, 2], rfl, rfl, 1, [2], rfl, rfl, 2, [], rfl, rfl, trivial⟩ (by decide)
 rintro v9 rfl
 dsimp only
 refine kw_nx (sr (oM rfl (oD (stp_len Tryd.underlying22 rfl) rfl (oS rfl (oS rfl (nn (cw_ret ?_)))))))
 obtain rfl := sI H0
 exact kr Tryd.results41 (.cons (.tmp rfl) (rT rfl)) [] ⟨rfl, rfl⟩

theorem c_s_l8Cpu (fl : Nat) (w : World) (a0 : T) (a1 : Cp) (hn0_0 : n0_0 = (a0.b).length) (hr0_0 : RO w (hkeys []) (RdL p0_0 c0_0 a0.b)) (hn0_1 : n0_1 = (a0.f).length) (hr0_1 : RO w (hkeys []) (RdL p0_1 c0_1 a0.f)) (hn1_0 : n1_0 = (a1.n).length) (hr1_0 : RO w (hkeys []) (RdL p1_0 c1_0 a1.n)) (hn1_1 : n1_1 = (a1.w).length) (hr1_1 : RO w (hkeys []) (RdL p1_1 c1_1 a1.w)) (r : Bool) (H0 : s_l8Cpu fl a0 a1 = some r) :
  Ct Tryd.prog 116 [.agg #[.slice p0_0 n0_0 c0_0, .slice p0_1 n0_1 c0_1], .agg #[.slice p1_0 n1_0 c1_0, .slice p1_1 n1_1 c1_1]] w [] (fun rv h' => rv = .bool r ∧ h' = []) := by
 subst hn0_0 hn0_1 hn1_0 hn1_1
 unfold s_l8Cpu at H0
 refine ct_of_cw Tryd.func116 rfl Tryd.ntmps116 rfl (Sat.refl _ _) ?_
 refine sr (oE (stpU_box 0 rfl rfl) rfl ?_)
 rintro _ _ ⟨b1, rfl, rfl⟩
 refine oE (stpU_box 1 rfl rfl) rfl ?_
 rintro _ _ ⟨b2, rfl, rfl⟩
 obtain ⟨y3, ey3, H0⟩ := bS H0
 refine oS rfl (nn (cw_seq (sr (oA 0 Tryd.underlying53 rfl ts51 rfl (oL 1 ts51 rfl (oD (stp_len Tryd.underlying51 rfl) rfl (oJ rfl (oM rfl (ow_cutY 5 21 y3 ?_ ?_)))))))))
 ·rcases Bool.eq_false_or_eq_true (decide (4 < ((a1.n).length : Int))) with hy3 | hy3
  ·have ey3 := cond_t ey3 hy3
   refine oO rfl hy3 rfl (oO rfl hy3 rfl (oO rfl hy3 rfl (oO rfl hy3 rfl (oD (stp_pick_t rfl hy3 rfl) rfl ?_))))
   obtain rfl := sI ey3
   exact ow_nil (jy 5 0)
  have ey3 := cond_f ey3 hy3
  refine oG rfl hy3 (fA 1 Tryd.underlying53 rfl ts51 rfl rfl rfl) rfl (oG rfl hy3 (lB 1 ts51 rfl rfl rfl) rfl (oG rfl hy3 (stp_len Tryd.underlying51 rfl) rfl (oG rfl hy3 (stp_gtr rfl rfl) rfl (oD (stp_pick_f rfl hy3 rfl) rfl ?_))))
  obtain rfl := sI ey3
  exact ow_nil (jy 5 0)
 refine ow_nil (kw_nx (cw_cond rfl (fun h4 => ?_) (fun h4 => ?_)))
 ·have H0 := cond_t H0 h4
  refine sr (oS rfl (nn (cw_ret (kw_nx_ret ?_))))
  obtain rfl := sI H0
  exact kr Tryd.results116 (rT rfl) [] ⟨rfl, rfl⟩
 have H0 := cond_f H0 h4
 obtain ⟨o0_0, eo0_0, H0⟩ := bS H0
 refine cw_skip (kw_nx (cw_seq (sr (oS rfl (nn (cw_join (ι := Int) (fun | v5 => o0_0 = .out v5) (fun | v5 => [(2, .pointer (some ⟨b1, 0, none⟩)), (3, .pointer (some ⟨b2, 0, none⟩)), (5, .int .i64 v5)]) (fun | v5 => [(0, [(b1, .cells #[.slice p0_0 ((a0.b).length) c0_0, .slice p0_1 ((a0.f).length) c0_1] 34 (0, 0))]), (1, [(b2, .cells #[.slice p1_0 ((a1.n).length) c1_0, .slice p1_1 ((a1.w).length) c1_1] 53 (0, 0))])]) ?_ ?_))))))
 ·refine cw_block (cw_loopS (ι := Nat × Int) (js := [0, 1]) (fun x => x.1) (fun | (fuel, v5) => s_l8Cpu_L0 fl a0 a1 fuel v5 = some o0_0) (fun | (_, v5) => [(2, .pointer (some ⟨b1, 0, none⟩)), (3, .pointer (some ⟨b2, 0, none⟩)), (5, .int .i64 v5)]) (fun | (_, v5) => [(0, [(b1, .cells #[.slice p0_0 ((a0.b).length) c0_0, .slice p0_1 ((a0.f).length) c0_1] 34 (0, 0))]), (1, [(b2, .cells #[.slice p1_0 ((a1.n).length) c1_0, .slice p1_1 ((a1.w).length) c1_1] 53 (0, 0))])]) (fl, 0) eo0_0 ⟨rfl, rfl, rfl, trivial⟩ ⟨0, [1], rfl, rfl, 1, [], rfl, rfl, trivial⟩ (by decide) ?_)
  rintro ⟨fuel, v5⟩ H1
  have H1 : s_l8Cpu_L0 fl a0 a1 fuel v5 = some o0_0 := H1
  rcases fuel with _ | fuel
  ·rw [s_l8Cpu_L0.eq_1] at H1; cases H1
  rw [s_l8Cpu_L0.eq_2] at H1
  dsimp only
  refine cw_seq (sr (oM rfl (oA 0 Tryd.underlying53 rfl ts51 rfl (oL 1 ts51 rfl (oD (stp_len Tryd.underlying51 rfl) rfl (oW rfl (nn (cw_cond rfl (fun h6 => ?_) (fun h6 => ?_)))))))))
  ·have H1 := cond_t H1 h6
   obtain ⟨x7, e7, H1⟩ := bS H1
   refine cw_skip (kw_nx (cw_seq (cw_block (sr (oA 0 Tryd.underlying53 rfl ts51 rfl (oL 1 ts51 rfl (oM rfl (oD (stp_indexAddr Tryd.underlying51 ts55 (by decide) rfl rfl rfl (Rdb.ro hr1_0) e7) rfl (oD (stp_loadN (us := [_, _, _]) ts55 rfl (Cells.el (Rdb.ro hr1_0) (by decide) e7 0 3 rfl)) rfl (oE (stpU_alloc 2 tz55 rfl) rfl ?_))))))))))
   rintro _ _ ⟨b8, rfl, rfl⟩
   obtain ⟨x9, e9, H1⟩ := bS H1
   obtain ⟨y10, ey10, H1⟩ := bS H1
   refine oC3 2 ts55 rfl rfl (nn (cw_seq (cw_seq (cw_join (ι := Unit) (fun | _ => True) (fun | _ => [(2, .pointer (some ⟨b1, 0, none⟩)), (3, .pointer (some ⟨b2, 0, none⟩)), (5, .int .i64 v5), (6, .pointer (some ⟨b8, 0, none⟩)), (47, .bool y10)]) (fun | _ => [(0, [(b1, .cells #[.slice p0_0 ((a0.b).length) c0_0, .slice p0_1 ((a0.f).length) c0_1] 34 (0, 0))]), (1, [(b2, .cells #[.slice p1_0 ((a1.n).length) c1_0, .slice p1_1 ((a1.w).length) c1_1] 53 (0, 0))]), (2, [(b8, .cells #[.int .i64 x7.k.s, .int .i64 x7.k.p, .int .i64 x7.fr] 55 (0, 0))])]) ?_ ?_))))
   ·rcases Bool.eq_false_or_eq_true (!x9) with hy10 | hy10
    ·have ey10 := cond_t ey10 hy10
     have qy10 := sI ey10
     refine rdq g_mixed [6] [2] { dst := dS [35, 36, 37, 38, 39, 40, 41, 42, 43, 44, 45, 46, 47, 48], pre := gA [] [[], [0], [0, 1], [0, 1, 2], rn 0 4, rn 0 5, rn 0 6, rn 0 5, rn 0 8, rn 0 5, [0, 1, 2, 3, 4, 9], rn 0 11, rn 0 12, rn 0 13], ids := fun _ => [], rs := rL [[(6, 0)], [(34, 1)], [(35, 2)], [(36, 3)], [(37, 4)], [(38, 5)], [(38, 5)], [(38, 5)], [(38, 5)], [(38, 5)], [(38, 5)], [(38, 5)], [(38, 5)], [(38, 5), (46, 13)]], rh := rL [[], [(2, 0)]], V := fun i g => gA undef [.pointer (some ⟨b8, 0, none⟩), .agg #[.int .i64 x7.k.s, .int .i64 x7.k.p], .bool x9, .bool (!x9), .bool (!x9), undef, undef, undef, undef, undef, undef, undef, undef, .bool y10] i, U := fun _ _ => [], Φ := fun _ _ => True } ?_ ?_
     ·refine ⟨lc rfl rfl fun hs hh => stp_fieldAddr (j := 0) Tryd.underlying55 rfl ts41 rfl (sv hs 6 rfl) rfl, lc rfl rfl fun hs hh => stp_loadN (us := [_, _]) ts41 (sv hs 34 rfl) (Cells.box (id := 2) (hh.get 2 _ rfl) 2 rfl), ?_, lc rfl rfl fun hs hh => stp_not (sv hs 36 rfl), lM, lo rfl rfl 38 hy10, lo rfl rfl 38 hy10, lo rfl rfl 38 hy10, lo rfl rfl 38 hy10, lo rfl rfl 38 hy10, lo rfl rfl 38 hy10, lo rfl rfl 38 hy10, lo rfl rfl 38 hy10, lc rfl rfl fun hs hh => stp_pick_tB (sv hs 38 rfl) hy10 rfl qy10, trivial⟩
      refine le rfl rfl (fun g hΦ s h hs hh => (stpU_call (fun i => 3 + i) cf38 (fun w hw => c_s_KeyValid fl w x7.k x9 e9) (yA (sv hs 35 rfl)))) ?_
      rintro g _ _ ⟨_, ⟨rfl, rfl⟩, rfl⟩
      exact ⟨⟨[], [], []⟩, trivial, .inr rfl, rfl⟩
     intro g hΦ
     exact kw_join () trivial ⟨rfl, rfl, rfl, rfl, rfl, trivial⟩ ⟨rfl, rfl, rfl, trivial⟩
    have ey10 := cond_f ey10 hy10
    obtain ⟨x11, e11, ey10⟩ := bS ey10
    obtain ⟨x12, e12, ey10⟩ := bS ey10
    have qy10 := sI ey10
    refine rdq g_mixed [3, 5, 6] [1, 2] { dst := dS [35, 36, 37, 38, 39, 40, 41, 42, 43, 44, 45, 46, 47, 48], pre := gA [] [[], [0], [0, 1], [0, 1, 2], rn 0 4, rn 0 5, rn 0 6, rn 0 5, rn 0 8, rn 0 5, [0, 1, 2, 3, 4, 9], rn 0 11, rn 0 12, rn 0 13], ids := fun _ => [], rs := rL [[(6, 0)], [(34, 1)], [(35, 2)], [(36, 3)], [(37, 4)], [(3, 0), (38, 5)], [(39, 6), (38, 5)], [(5, 0), (38, 5)], [(40, 7), (41, 8), (38, 5)], [(6, 0), (38, 5)], [(43, 10), (38, 5)], [(42, 9), (44, 11), (38, 5)], [(45, 12), (38, 5)], [(38, 5), (46, 13)]], rh := rL [[], [(2, 0)], [], [], [], [], [(1, 0)], [], [], [], [(2, 0)]], V := fun i g => gA undef [.pointer (some ⟨b8, 0, none⟩), .agg #[.int .i64 x7.k.s, .int .i64 x7.k.p], .bool x9, .bool (!x9), .bool (!x9), .pointer (some ⟨b2, 0, none⟩), .slice p1_0 ((a1.n).length) c1_0, .int .i64 v5, .slice p1_0 ((x11).length) c1_0, .pointer (some ⟨b8, 0, none⟩), .agg #[.int .i64 x7.k.s, .int .i64 x7.k.p], .int .i64 x12, .bool (decide (0 ≤ x12)), .bool y10] i, U := fun _ _ => [], Φ := fun _ _ => True } ?_ ?_
    ·refine ⟨lc rfl rfl fun hs hh => stp_fieldAddr (j := 0) Tryd.underlying55 rfl ts41 rfl (sv hs 6 rfl) rfl, lc rfl rfl fun hs hh => stp_loadN (us := [_, _]) ts41 (sv hs 34 rfl) (Cells.box (id := 2) (hh.get 2 _ rfl) 2 rfl), ?_, lc rfl rfl fun hs hh => stp_not (sv hs 36 rfl), lM, lg rfl rfl 38 hy10 fun hs hh => stp_fieldAddr (j := 0) Tryd.underlying53 rfl ts51 rfl (sv hs 3 rfl) rfl, lg rfl rfl 38 hy10 fun hs hh => stp_load1 ts51 (sv hs 39 rfl) (Cells.box (id := 1) (hh.get 1 _ rfl) 1 rfl), lg rfl rfl 38 hy10 fun hs hh => stp_move (sv hs 5 rfl), lg rfl rfl 38 hy10 fun hs hh => stp_take Tryd.underlying51 ts55 (sv hs 40 rfl) rfl (sv hs 41 rfl) (Rdb.ro hr1_0) e11, lg rfl rfl 38 hy10 fun hs hh => stp_fieldAddr (j := 0) Tryd.underlying55 rfl ts41 rfl (sv hs 6 rfl) rfl, lg rfl rfl 38 hy10 fun hs hh => stp_loadN (us := [_, _]) ts41 (sv hs 43 rfl) (Cells.box (id := 2) (hh.get 2 _ rfl) 2 rfl), ?_, lg rfl rfl 38 hy10 fun hs hh => stp_geq (sv hs 45 rfl) rfl, lc rfl rfl fun hs hh => stp_pick_fB (sv hs 38 rfl) hy10 (sv hs 46 rfl) qy10, trivial⟩
     ·refine le rfl rfl (fun g hΦ s h hs hh => (stpU_call (fun i => 3 + i) cf38 (fun w hw => c_s_KeyValid fl w x7.k x9 e9) (yA (sv hs 35 rfl)))) ?_
      rintro g _ _ ⟨_, ⟨rfl, rfl⟩, rfl⟩
      exact ⟨⟨[], [], []⟩, trivial, .inr rfl, rfl⟩
     refine loc_eff rfl rfl (fun g hΦ s h hs hh => ⟨(.some (gval_of rfl (sv hs 38 rfl)) hy10), (stpU_call (fun i => 3 + i) cf40 (fun w hw => c_s_l8Find fl w x11 x7.k rfl (RO.pass (RO.take hr1_0 e11) hw) x12 e12) (yB (sv hs 42 rfl) (sv hs 44 rfl)))⟩) ?_
     rintro g _ _ ⟨_, ⟨rfl, rfl⟩, rfl⟩
     exact ⟨⟨[], [], []⟩, trivial, .inr rfl, rfl⟩
    intro g hΦ
    exact kw_join () trivial ⟨rfl, rfl, rfl, rfl, rfl, trivial⟩ ⟨rfl, rfl, rfl, trivial⟩
   rintro _ -
   dsimp only
   refine kw_nx (cw_cond rfl (fun h13 => ?_) (fun h13 => ?_))
   ·have H1 := cond_t H1 h13
    refine sr (oS rfl (nn (cw_ret (kw_nx_ret (kw_bl_ret (kw_nx_ret (kw_lq_ret (kw_bl_ret (kw_join_ret (kw_nx_ret ?_))))))))))
    obtain rfl := sI H1
    obtain rfl := sI H0
    exact kr Tryd.results116 (rT rfl) [] ⟨rfl, rfl⟩
   have H1 := cond_f H1 h13
   obtain ⟨x14, e14, H1⟩ := bS H1
   refine cw_skip (kw_nx (sr (oB2 0 ts34 rfl (oA 0 Tryd.underlying55 rfl ts41 rfl (oB2 2 ts41 rfl (oE (stpU_call (fun i => 3 + i) cf41 (fun w hw => c_s_l3Find fl w a0 x7.k rfl (RO.pass hr0_0 hw) rfl (RO.pass hr0_1 hw) x14 e14) (yB rfl rfl)) rfl ?_))))))
   rintro _ _ ⟨_, ⟨rfl, rfl⟩, rfl⟩
   obtain ⟨x15, e15, H1⟩ := bS H1
   refine oM rfl (oT rfl (oT rfl (oS rfl (oS rfl (nn (sr (oA 1 Tryd.underlying53 rfl ts51 rfl (oL 1 ts51 rfl (oA 0 Tryd.underlying55 rfl ts41 rfl (oB2 2 ts41 rfl (oE (stpU_call (fun i => 3 + i) cf40 (fun w hw => c_s_l8Find fl w a1.w x7.k rfl (RO.pass hr1_1 hw) x15 e15) (yB rfl rfl)) rfl ?_)))))))))))
   rintro _ _ ⟨_, ⟨rfl, rfl⟩, rfl⟩
   obtain ⟨y16, ey16, H1⟩ := bS H1
   obtain ⟨y18, ey18, H1⟩ := bS H1
   refine oS rfl (nn (cw_seq (cw_join (ι := Unit) (fun | _ => True) (fun | _ => [(2, .pointer (some ⟨b1, 0, none⟩)), (3, .pointer (some ⟨b2, 0, none⟩)), (5, .int .i64 v5), (88, .bool y18)]) (fun | _ => [(0, [(b1, .cells #[.slice p0_0 ((a0.b).length) c0_0, .slice p0_1 ((a0.f).length) c0_1] 34 (0, 0))]), (1, [(b2, .cells #[.slice p1_0 ((a1.n).length) c1_0, .slice p1_1 ((a1.w).length) c1_1] 53 (0, 0))])]) ?_ ?_)))
   ·rcases Bool.eq_false_or_eq_true (decide (x15 < 0)) with hy16 | hy16
    ·have ey16 := cond_t ey16 hy16
     obtain ⟨y17, ey17, ey16⟩ := bS ey16
     rcases Bool.eq_false_or_eq_true (decide (x14.1 < 0)) with hy17 | hy17
     ·have ey17 := cond_t ey17 hy17
      have qy17 := sI ey17
      have qy16 := sI ey16
      have hy18 : y16 = true := by rw [← qy16, ← qy17]
      have ey18 := cond_t ey18 hy18
      have qy18 := sI ey18
      refine rdq g_mixed [7, 9] [] { dst := dS [61, 62, 63, 64, 65, 66, 67, 68, 69, 70, 71, 72, 73, 74, 75, 76, 77, 78, 79, 80, 81, 82, 83, 84, 85, 86, 87, 88, 89], pre := gA [] [[], [0], [0, 1], [0, 1, 2], rn 0 4, rn 0 5, rn 0 6, rn 0 6, [0, 1, 2, 3, 4, 5, 7], rn 0 9, rn 0 10, rn 0 11, rn 0 12, rn 0 13, rn 0 14, rn 0 15, rn 0 16, rn 0 17, rn 0 18, rn 0 19, rn 0 20, rn 0 19, rn 0 22, rn 0 23, rn 0 19, rn 0 25, rn 0 26, rn 0 27, rn 0 28], ids := fun _ => [], rs := rL [[(9, 0)], [(60, 1)], [(61, 2)], [(7, 0), (62, 3)], [(63, 4), (62, 3)], [(64, 5), (62, 3)], [(65, 6)], [(65, 6)], [(65, 6)], [(65, 6)], [(65, 6), (69, 10), (62, 3)], [(62, 3), (70, 11)], [(71, 12)], [(72, 13)], [(72, 13)], [(72, 13)], [(75, 16)], [(75, 16)], [(75, 16)], [(78, 19)], [(78, 19)], [(78, 19)], [(78, 19)], [(78, 19)], [(78, 19)], [(78, 19)], [(75, 16)], [(72, 13)], [(72, 13), (87, 28)]], rh := fun _ => [], V := fun i g => gA undef [.int .i64 x15, .bool (decide (x15 < 0)), .bool (decide (x15 < 0)), .int .i64 x14.1, .bool (decide (x14.1 < 0)), .bool (decide (x14.1 < 0)), undef, undef, undef, undef, .bool y17, .bool y16, .bool y16, undef, undef, undef, undef, undef, undef, undef, undef, undef, undef, undef, undef, undef, undef, undef, .bool y18] i, U := fun _ _ => [], Φ := fun _ _ => True } ?_ ?_
      ·exact ⟨lM, lc rfl rfl fun hs hh => stp_lss (sv hs 60 rfl) rfl, lM, lg rfl rfl 62 hy16 fun hs hh => stp_move (sv hs 7 rfl), lg rfl rfl 62 hy16 fun hs hh => stp_lss (sv hs 63 rfl) rfl, lg rfl rfl 62 hy16 fun hs hh => stp_move (sv hs 64 rfl), lo rfl rfl 65 hy17, lo rfl rfl 65 hy17, lo rfl rfl 65 hy17, lo rfl rfl 65 hy17, lg rfl rfl 62 hy16 fun hs hh => stp_pick_tB (sv hs 65 rfl) hy17 rfl qy17, lc rfl rfl fun hs hh => stp_pick_tB (sv hs 62 rfl) hy16 (sv hs 70 rfl) qy16, lM, lo rfl rfl 72 hy18, lo rfl rfl 72 hy18, lo rfl rfl 72 hy18, lx rfl rfl 75, lx rfl rfl 75, lx rfl rfl 75, lx rfl rfl 78, lx rfl rfl 78, lx rfl rfl 78, lx rfl rfl 78, lx rfl rfl 78, lx rfl rfl 78, lx rfl rfl 78, lx rfl rfl 75, lo rfl rfl 72 hy18, lc rfl rfl fun hs hh => stp_pick_tB (sv hs 72 rfl) hy18 rfl qy18, trivial⟩
      intro g hΦ
      exact kw_join () trivial ⟨rfl, rfl, rfl, rfl, trivial⟩ ⟨rfl, rfl, trivial⟩
     have ey17 := cond_f ey17 hy17
     have qy17 := sI ey17
     have qy16 := sI ey16
     rcases Bool.eq_false_or_eq_true y16 with hy18 | hy18
     ·have ey18 := cond_t ey18 hy18
      have qy18 := sI ey18
      refine rdq g_mixed [6, 7, 9] [2] { dst := dS [61, 62, 63, 64, 65, 66, 67, 68, 69, 70, 71, 72, 73, 74, 75, 76, 77, 78, 79, 80, 81, 82, 83, 84, 85, 86, 87, 88, 89], pre := gA [] [[], [0], [0, 1], [0, 1, 2], rn 0 4, rn 0 5, rn 0 6, rn 0 6, [0, 1, 2, 3, 4, 5, 7], rn 0 9, rn 0 10, rn 0 11, rn 0 12, rn 0 13, rn 0 14, rn 0 15, rn 0 16, rn 0 17, rn 0 18, rn 0 19, rn 0 20, rn 0 19, rn 0 22, rn 0 23, rn 0 19, rn 0 25, rn 0 26, rn 0 27, rn 0 28], ids := fun _ => [], rs := rL [[(9, 0)], [(60, 1)], [(61, 2)], [(7, 0), (62, 3)], [(63, 4), (62, 3)], [(64, 5), (62, 3)], [(7, 0), (65, 6)], [(6, 0), (65, 6)], [(67, 8), (65, 6)], [(66, 7), (68, 9), (65, 6)], [(65, 6), (69, 10), (62, 3)], [(62, 3), (70, 11)], [(71, 12)], [(72, 13)], [(72, 13)], [(72, 13)], [(75, 16)], [(75, 16)], [(75, 16)], [(78, 19)], [(78, 19)], [(78, 19)], [(78, 19)], [(78, 19)], [(78, 19)], [(78, 19)], [(75, 16)], [(72, 13)], [(72, 13), (87, 28)]], rh := rL [[], [], [], [], [], [], [], [], [(2, 0)]], V := fun i g => gA undef [.int .i64 x15, .bool (decide (x15 < 0)), .bool (decide (x15 < 0)), .int .i64 x14.1, .bool (decide (x14.1 < 0)), .bool (decide (x14.1 < 0)), .int .i64 x14.1, .pointer (some ⟨b8, 2, none⟩), .int .i64 x7.fr, .bool (x14.1 != x7.fr), .bool y17, .bool y16, .bool y16, undef, undef, undef, undef, undef, undef, undef, undef, undef, undef, undef, undef, undef, undef, undef, .bool y18] i, U := fun _ _ => [], Φ := fun _ _ => True } ?_ ?_
      ·exact ⟨lM, lc rfl rfl fun hs hh => stp_lss (sv hs 60 rfl) rfl, lM, lg rfl rfl 62 hy16 fun hs hh => stp_move (sv hs 7 rfl), lg rfl rfl 62 hy16 fun hs hh => stp_lss (sv hs 63 rfl) rfl, lg rfl rfl 62 hy16 fun hs hh => stp_move (sv hs 64 rfl), lg rfl rfl 65 hy17 fun hs hh => stp_move (sv hs 7 rfl), lg rfl rfl 65 hy17 fun hs hh => stp_fieldAddr (j := 2) Tryd.underlying55 rfl ts3 rfl (sv hs 6 rfl) rfl, lg rfl rfl 65 hy17 fun hs hh => stp_load1 ts3 (sv hs 67 rfl) (Cells.box (id := 2) (hh.get 2 _ rfl) 1 rfl), lg rfl rfl 65 hy17 fun hs hh => stp_neq (sv hs 66 rfl) (sv hs 68 rfl), lg rfl rfl 62 hy16 fun hs hh => stp_pick_fB (sv hs 65 rfl) hy17 (sv hs 69 rfl) qy17, lc rfl rfl fun hs hh => stp_pick_tB (sv hs 62 rfl) hy16 (sv hs 70 rfl) qy16, lM, lo rfl rfl 72 hy18, lo rfl rfl 72 hy18, lo rfl rfl 72 hy18, lx rfl rfl 75, lx rfl rfl 75, lx rfl rfl 75, lx rfl rfl 78, lx rfl rfl 78, lx rfl rfl 78, lx rfl rfl 78, lx rfl rfl 78, lx rfl rfl 78, lx rfl rfl 78, lx rfl rfl 75, lo rfl rfl 72 hy18, lc rfl rfl fun hs hh => stp_pick_tB (sv hs 72 rfl) hy18 rfl qy18, trivial⟩
      intro g hΦ
      exact kw_join () trivial ⟨rfl, rfl, rfl, rfl, trivial⟩ ⟨rfl, rfl, trivial⟩
     have ey18 := cond_f ey18 hy18
     obtain ⟨y19, ey19, ey18⟩ := bS ey18
     rcases Bool.eq_false_or_eq_true (decide (0 ≤ x15)) with hy19 | hy19
     ·have ey19 := cond_t ey19 hy19
      obtain ⟨y20, ey20, ey19⟩ := bS ey19
      rcases Bool.eq_false_or_eq_true (decide (0 ≤ x14.1)) with hy20 | hy20
      ·have ey20 := cond_t ey20 hy20
       have qy20 := sI ey20
       have qy19 := sI ey19
       have qy18 := sI ey18
       refine rdq g_mixed [6, 7, 9] [2] { dst := dS [61, 62, 63, 64, 65, 66, 67, 68, 69, 70, 71, 72, 73, 74, 75, 76, 77, 78, 79, 80, 81, 82, 83, 84, 85, 86, 87, 88, 89], pre := gA [] [[], [0], [0, 1], [0, 1, 2], rn 0 4, rn 0 5, rn 0 6, rn 0 6, [0, 1, 2, 3, 4, 5, 7], rn 0 9, rn 0 10, rn 0 11, rn 0 12, rn 0 13, rn 0 14, rn 0 15, rn 0 16, rn 0 17, rn 0 18, rn 0 19, rn 0 20, rn 0 19, rn 0 22, rn 0 23, rn 0 19, rn 0 25, rn 0 26, rn 0 27, rn 0 28], ids := fun _ => [], rs := rL [[(9, 0)], [(60, 1)], [(61, 2)], [(7, 0), (62, 3)], [(63, 4), (62, 3)], [(64, 5), (62, 3)], [(7, 0), (65, 6)], [(6, 0), (65, 6)], [(67, 8), (65, 6)], [(66, 7), (68, 9), (65, 6)], [(65, 6), (69, 10), (62, 3)], [(62, 3), (70, 11)], [(71, 12)], [(9, 0), (72, 13)], [(73, 14), (72, 13)], [(74, 15), (72, 13)], [(7, 0), (75, 16)], [(76, 17), (75, 16)], [(77, 18), (75, 16)], [(78, 19)], [(78, 19)], [(78, 19)], [(78, 19)], [(78, 19)], [(78, 19)], [(78, 19)], [(78, 19), (85, 26), (75, 16)], [(75, 16), (86, 27), (72, 13)], [(72, 13), (87, 28)]], rh := rL [[], [], [], [], [], [], [], [], [(2, 0)]], V := fun i g => gA undef [.int .i64 x15, .bool (decide (x15 < 0)), .bool (decide (x15 < 0)), .int .i64 x14.1, .bool (decide (x14.1 < 0)), .bool (decide (x14.1 < 0)), .int .i64 x14.1, .pointer (some ⟨b8, 2, none⟩), .int .i64 x7.fr, .bool (x14.1 != x7.fr), .bool y17, .bool y16, .bool y16, .int .i64 x15, .bool (decide (0 ≤ x15)), .bool (decide (0 ≤ x15)), .int .i64 x14.1, .bool (decide (0 ≤ x14.1)), .bool (decide (0 ≤ x14.1)), undef, undef, undef, undef, undef, undef, undef, .bool y20, .bool y19, .bool y18] i, U := fun _ _ => [], Φ := fun _ _ => True } ?_ ?_
       ·exact ⟨lM, lc rfl rfl fun hs hh => stp_lss (sv hs 60 rfl) rfl, lM, lg rfl rfl 62 hy16 fun hs hh => stp_move (sv hs 7 rfl), lg rfl rfl 62 hy16 fun hs hh => stp_lss (sv hs 63 rfl) rfl, lg rfl rfl 62 hy16 fun hs hh => stp_move (sv hs 64 rfl), lg rfl rfl 65 hy17 fun hs hh => stp_move (sv hs 7 rfl), lg rfl rfl 65 hy17 fun hs hh => stp_fieldAddr (j := 2) Tryd.underlying55 rfl ts3 rfl (sv hs 6 rfl) rfl, lg rfl rfl 65 hy17 fun hs hh => stp_load1 ts3 (sv hs 67 rfl) (Cells.box (id := 2) (hh.get 2 _ rfl) 1 rfl), lg rfl rfl 65 hy17 fun hs hh => stp_neq (sv hs 66 rfl) (sv hs 68 rfl), lg rfl rfl 62 hy16 fun hs hh => stp_pick_fB (sv hs 65 rfl) hy17 (sv hs 69 rfl) qy17, lc rfl rfl fun hs hh => stp_pick_tB (sv hs 62 rfl) hy16 (sv hs 70 rfl) qy16, lM, lg rfl rfl 72 hy18 fun hs hh => stp_move (sv hs 9 rfl), lg rfl rfl 72 hy18 fun hs hh => stp_geq (sv hs 73 rfl) rfl, lg rfl rfl 72 hy18 fun hs hh => stp_move (sv hs 74 rfl), lg rfl rfl 75 hy19 fun hs hh => stp_move (sv hs 7 rfl), lg rfl rfl 75 hy19 fun hs hh => stp_geq (sv hs 76 rfl) rfl, lg rfl rfl 75 hy19 fun hs hh => stp_move (sv hs 77 rfl), lo rfl rfl 78 hy20, lo rfl rfl 78 hy20, lo rfl rfl 78 hy20, lo rfl rfl 78 hy20, lo rfl rfl 78 hy20, lo rfl rfl 78 hy20, lo rfl rfl 78 hy20, lg rfl rfl 75 hy19 fun hs hh => stp_pick_tB (sv hs 78 rfl) hy20 rfl qy20, lg rfl rfl 72 hy18 fun hs hh => stp_pick_tB (sv hs 75 rfl) hy19 (sv hs 86 rfl) qy19, lc rfl rfl fun hs hh => stp_pick_fB (sv hs 72 rfl) hy18 (sv hs 87 rfl) qy18, trivial⟩
       intro g hΦ
       exact kw_join () trivial ⟨rfl, rfl, rfl, rfl, trivial⟩ ⟨rfl, rfl, trivial⟩
      have ey20 := cond_f ey20 hy20
      obtain ⟨x21, e21, ey20⟩ := bS ey20
      have qy20 := sI ey20
      have qy19 := sI ey19
      have qy18 := sI ey18
      refine rdq g_mixed [3, 6, 7, 9] [1, 2] { dst := dS [61, 62, 63, 64, 65, 66, 67, 68, 69, 70, 71, 72, 73, 74, 75, 76, 77, 78, 79, 80, 81, 82, 83, 84, 85, 86, 87, 88, 89], pre := gA [] [[], [0], [0, 1], [0, 1, 2], rn 0 4, rn 0 5, rn 0 6, rn 0 6, [0, 1, 2, 3, 4, 5, 7], rn 0 9, rn 0 10, rn 0 11, rn 0 12, rn 0 13, rn 0 14, rn 0 15, rn 0 16, rn 0 17, rn 0 18, rn 0 19, rn 0 20, rn 0 19, rn 0 22, rn 0 23, rn 0 19, rn 0 25, rn 0 26, rn 0 27, rn 0 28], ids := fun _ => [], rs := rL [[(9, 0)], [(60, 1)], [(61, 2)], [(7, 0), (62, 3)], [(63, 4), (62, 3)], [(64, 5), (62, 3)], [(7, 0), (65, 6)], [(6, 0), (65, 6)], [(67, 8), (65, 6)], [(66, 7), (68, 9), (65, 6)], [(65, 6), (69, 10), (62, 3)], [(62, 3), (70, 11)], [(71, 12)], [(9, 0), (72, 13)], [(73, 14), (72, 13)], [(74, 15), (72, 13)], [(7, 0), (75, 16)], [(76, 17), (75, 16)], [(77, 18), (75, 16)], [(3, 0), (78, 19)], [(79, 20), (78, 19)], [(9, 0), (78, 19)], [(80, 21), (81, 22), (78, 19)], [(82, 23), (78, 19)], [(6, 0), (78, 19)], [(83, 24), (84, 25), (78, 19)], [(78, 19), (85, 26), (75, 16)], [(75, 16), (86, 27), (72, 13)], [(72, 13), (87, 28)]], rh := rL [[], [], [], [], [], [], [], [], [(2, 0)], [], [], [], [], [], [], [], [], [], [], [], [(1, 0)], [], [], [], [(2, 0)]], V := fun i g => gA undef [.int .i64 x15, .bool (decide (x15 < 0)), .bool (decide (x15 < 0)), .int .i64 x14.1, .bool (decide (x14.1 < 0)), .bool (decide (x14.1 < 0)), .int .i64 x14.1, .pointer (some ⟨b8, 2, none⟩), .int .i64 x7.fr, .bool (x14.1 != x7.fr), .bool y17, .bool y16, .bool y16, .int .i64 x15, .bool (decide (0 ≤ x15)), .bool (decide (0 ≤ x15)), .int .i64 x14.1, .bool (decide (0 ≤ x14.1)), .bool (decide (0 ≤ x14.1)), .pointer (some ⟨b2, 1, none⟩), .slice p1_1 ((a1.w).length) c1_1, .int .i64 x15, .pointer (some ⟨eB p1_1, eO p1_1 + Int.toNat x15 * Enc.sz Nt + 0, none⟩), .agg #[.int .i64 x21.k.s, .int .i64 x21.k.p, .int .i64 x21.fr], .agg #[.int .i64 x7.k.s, .int .i64 x7.k.p, .int .i64 x7.fr], .bool (x21 != x7), .bool y20, .bool y19, .bool y18] i, U := fun _ _ => [], Φ := fun _ _ => True } ?_ ?_
      ·exact ⟨lM, lc rfl rfl fun hs hh => stp_lss (sv hs 60 rfl) rfl, lM, lg rfl rfl 62 hy16 fun hs hh => stp_move (sv hs 7 rfl), lg rfl rfl 62 hy16 fun hs hh => stp_lss (sv hs 63 rfl) rfl, lg rfl rfl 62 hy16 fun hs hh => stp_move (sv hs 64 rfl), lg rfl rfl 65 hy17 fun hs hh => stp_move (sv hs 7 rfl), lg rfl rfl 65 hy17 fun hs hh => stp_fieldAddr (j := 2) Tryd.underlying55 rfl ts3 rfl (sv hs 6 rfl) rfl, lg rfl rfl 65 hy17 fun hs hh => stp_load1 ts3 (sv hs 67 rfl) (Cells.box (id := 2) (hh.get 2 _ rfl) 1 rfl), lg rfl rfl 65 hy17 fun hs hh => stp_neq (sv hs 66 rfl) (sv hs 68 rfl), lg rfl rfl 62 hy16 fun hs hh => stp_pick_fB (sv hs 65 rfl) hy17 (sv hs 69 rfl) qy17, lc rfl rfl fun hs hh => stp_pick_tB (sv hs 62 rfl) hy16 (sv hs 70 rfl) qy16, lM, lg rfl rfl 72 hy18 fun hs hh => stp_move (sv hs 9 rfl), lg rfl rfl 72 hy18 fun hs hh => stp_geq (sv hs 73 rfl) rfl, lg rfl rfl 72 hy18 fun hs hh => stp_move (sv hs 74 rfl), lg rfl rfl 75 hy19 fun hs hh => stp_move (sv hs 7 rfl), lg rfl rfl 75 hy19 fun hs hh => stp_geq (sv hs 76 rfl) rfl, lg rfl rfl 75 hy19 fun hs hh => stp_move (sv hs 77 rfl), lg rfl rfl 78 hy20 fun hs hh => stp_fieldAddr (j := 1) Tryd.underlying53 rfl ts51 rfl (sv hs 3 rfl) rfl, lg rfl rfl 78 hy20 fun hs hh => stp_load1 ts51 (sv hs 79 rfl) (Cells.box (id := 1) (hh.get 1 _ rfl) 1 rfl), lg rfl rfl 78 hy20 fun hs hh => stp_move (sv hs 9 rfl), lg rfl rfl 78 hy20 fun hs hh => stp_indexAddr Tryd.underlying51 ts55 (by decide) (sv hs 80 rfl) rfl (sv hs 81 rfl) (Rdb.ro hr1_1) e21, lg rfl rfl 78 hy20 fun hs hh => stp_loadN (us := [_, _, _]) ts55 (sv hs 82 rfl) (Cells.el (Rdb.ro hr1_1) (by decide) e21 0 3 rfl), lg rfl rfl 78 hy20 fun hs hh => stp_loadN (us := [_, _, _]) ts55 (sv hs 6 rfl) (Cells.box (id := 2) (hh.get 2 _ rfl) 3 rfl), lg rfl rfl 78 hy20 fun hs hh => stp_neqS te55 x21 x7 (sv hs 83 rfl) (sv hs 84 rfl), lg rfl rfl 75 hy19 fun hs hh => stp_pick_fB (sv hs 78 rfl) hy20 (sv hs 85 rfl) qy20, lg rfl rfl 72 hy18 fun hs hh => stp_pick_tB (sv hs 75 rfl) hy19 (sv hs 86 rfl) qy19, lc rfl rfl fun hs hh => stp_pick_fB (sv hs 72 rfl) hy18 (sv hs 87 rfl) qy18, trivial⟩
      intro g hΦ
      exact kw_join () trivial ⟨rfl, rfl, rfl, rfl, trivial⟩ ⟨rfl, rfl, trivial⟩
     have ey19 := cond_f ey19 hy19
     have qy19 := sI ey19
     have qy18 := sI ey18
     refine rdq g_mixed [6, 7, 9] [2] { dst := dS [61, 62, 63, 64, 65, 66, 67, 68, 69, 70, 71, 72, 73, 74, 75, 76, 77, 78, 79, 80, 81, 82, 83, 84, 85, 86, 87, 88, 89], pre := gA [] [[], [0], [0, 1], [0, 1, 2], rn 0 4, rn 0 5, rn 0 6, rn 0 6, [0, 1, 2, 3, 4, 5, 7], rn 0 9, rn 0 10, rn 0 11, rn 0 12, rn 0 13, rn 0 14, rn 0 15, rn 0 16, rn 0 17, rn 0 18, rn 0 19, rn 0 20, rn 0 19, rn 0 22, rn 0 23, rn 0 19, rn 0 25, rn 0 26, rn 0 27, rn 0 28], ids := fun _ => [], rs := rL [[(9, 0)], [(60, 1)], [(61, 2)], [(7, 0), (62, 3)], [(63, 4), (62, 3)], [(64, 5), (62, 3)], [(7, 0), (65, 6)], [(6, 0), (65, 6)], [(67, 8), (65, 6)], [(66, 7), (68, 9), (65, 6)], [(65, 6), (69, 10), (62, 3)], [(62, 3), (70, 11)], [(71, 12)], [(9, 0), (72, 13)], [(73, 14), (72, 13)], [(74, 15), (72, 13)], [(75, 16)], [(75, 16)], [(75, 16)], [(78, 19)], [(78, 19)], [(78, 19)], [(78, 19)], [(78, 19)], [(78, 19)], [(78, 19)], [(75, 16)], [(75, 16), (86, 27), (72, 13)], [(72, 13), (87, 28)]], rh := rL [[], [], [], [], [], [], [], [], [(2, 0)]], V := fun i g => gA undef [.int .i64 x15, .bool (decide (x15 < 0)), .bool (decide (x15 < 0)), .int .i64 x14.1, .bool (decide (x14.1 < 0)), .bool (decide (x14.1 < 0)), .int .i64 x14.1, .pointer (some ⟨b8, 2, none⟩), .int .i64 x7.fr, .bool (x14.1 != x7.fr), .bool y17, .bool y16, .bool y16, .int .i64 x15, .bool (decide (0 ≤ x15)), .bool (decide (0 ≤ x15)), undef, undef, undef, undef, undef, undef, undef, undef, undef, undef, undef, .bool y19, .bool y18] i, U := fun _ _ => [], Φ := fun _ _ => True } ?_ ?_
     ·exact ⟨lM, lc rfl rfl fun hs hh => stp_lss (sv hs 60 rfl) rfl, lM, lg rfl rfl 62 hy16 fun hs hh => stp_move (sv hs 7 rfl), lg rfl rfl 62 hy16 fun hs hh => stp_lss (sv hs 63 rfl) rfl, lg rfl rfl 62 hy16 fun hs hh => stp_move (sv hs 64 rfl), lg rfl rfl 65 hy17 fun hs hh => stp_move (sv hs 7 rfl), lg rfl rfl 65 hy17 fun hs hh => stp_fieldAddr (j := 2) Tryd.underlying55 rfl ts3 rfl (sv hs 6 rfl) rfl, lg rfl rfl 65 hy17 fun hs hh => stp_load1 ts3 (sv hs 67 rfl) (Cells.box (id := 2) (hh.get 2 _ rfl) 1 rfl), lg rfl rfl 65 hy17 fun hs hh => stp_neq (sv hs 66 rfl) (sv hs 68 rfl), lg rfl rfl 62 hy16 fun hs hh => stp_pick_fB (sv hs 65 rfl) hy17 (sv hs 69 rfl) qy17, lc rfl rfl fun hs hh => stp_pick_tB (sv hs 62 rfl) hy16 (sv hs 70 rfl) qy16, lM, lg rfl rfl 72 hy18 fun hs hh => stp_move (sv hs 9 rfl), lg rfl rfl 72 hy18 fun hs hh => stp_geq (sv hs 73 rfl) rfl, lg rfl rfl 72 hy18 fun hs hh => stp_move (sv hs 74 rfl), lo rfl rfl 75 hy19, lo rfl rfl 75 hy19, lo rfl rfl 75 hy19, lx rfl rfl 78, lx rfl rfl 78, lx rfl rfl 78, lx rfl rfl 78, lx rfl rfl 78, lx rfl rfl 78, lx rfl rfl 78, lo rfl rfl 75 hy19, lg rfl rfl 72 hy18 fun hs hh => stp_pick_fB (sv hs 75 rfl) hy19 rfl qy19, lc rfl rfl fun hs hh => stp_pick_fB (sv hs 72 rfl) hy18 (sv hs 87 rfl) qy18, trivial⟩
     intro g hΦ
     exact kw_join () trivial ⟨rfl, rfl, rfl, rfl, trivial⟩ ⟨rfl, rfl, trivial⟩
    have ey16 := cond_f ey16 hy16
    have qy16 := sI ey16
    have hy18 : y16 = false := by rw [← qy16]
    have ey18 := cond_f ey18 hy18
    obtain ⟨y19, ey19, ey18⟩ := bS ey18
    rcases Bool.eq_false_or_eq_true (decide (0 ≤ x15)) with hy19 | hy19
    ·have ey19 := cond_t ey19 hy19
     obtain ⟨y20, ey20, ey19⟩ := bS ey19
     rcases Bool.eq_false_or_eq_true (decide (0 ≤ x14.1)) with hy20 | hy20
     ·have ey20 := cond_t ey20 hy20
      have qy20 := sI ey20
      have qy19 := sI ey19
      have qy18 := sI ey18
      refine rdq g_mixed [7, 9] [] { dst := dS [61, 62, 63, 64, 65, 66, 67, 68, 69, 70, 71, 72, 73, 74, 75, 76, 77, 78, 79, 80, 81, 82, 83, 84, 85, 86, 87, 88, 89], pre := gA [] [[], [0], [0, 1], [0, 1, 2], rn 0 4, rn 0 5, rn 0 6, rn 0 6, [0, 1, 2, 3, 4, 5, 7], rn 0 9, rn 0 10, rn 0 11, rn 0 12, rn 0 13, rn 0 14, rn 0 15, rn 0 16, rn 0 17, rn 0 18, rn 0 19, rn 0 20, rn 0 19, rn 0 22, rn 0 23, rn 0 19, rn 0 25, rn 0 26, rn 0 27, rn 0 28], ids := fun _ => [], rs := rL [[(9, 0)], [(60, 1)], [(61, 2)], [(62, 3)], [(62, 3)], [(62, 3)], [(65, 6)], [(65, 6)], [(65, 6)], [(65, 6)], [(62, 3)], [(62, 3), (70, 11)], [(71, 12)], [(9, 0), (72, 13)], [(73, 14), (72, 13)], [(74, 15), (72, 13)], [(7, 0), (75, 16)], [(76, 17), (75, 16)], [(77, 18), (75, 16)], [(78, 19)], [(78, 19)], [(78, 19)], [(78, 19)], [(78, 19)], [(78, 19)], [(78, 19)], [(78, 19), (85, 26), (75, 16)], [(75, 16), (86, 27), (72, 13)], [(72, 13), (87, 28)]], rh := fun _ => [], V := fun i g => gA undef [.int .i64 x15, .bool (decide (x15 < 0)), .bool (decide (x15 < 0)), undef, undef, undef, undef, undef, undef, undef, undef, .bool y16, .bool y16, .int .i64 x15, .bool (decide (0 ≤ x15)), .bool (decide (0 ≤ x15)), .int .i64 x14.1, .bool (decide (0 ≤ x14.1)), .bool (decide (0 ≤ x14.1)), undef, undef, undef, undef, undef, undef, undef, .bool y20, .bool y19, .bool y18] i, U := fun _ _ => [], Φ := fun _ _ => True } ?_ ?_
      ·exact ⟨lM, lc rfl rfl fun hs hh => stp_lss (sv hs 60 rfl) rfl, lM, lo rfl rfl 62 hy16, lo rfl rfl 62 hy16, lo rfl rfl 62 hy16, lx rfl rfl 65, lx rfl rfl 65, lx rfl rfl 65, lx rfl rfl 65, lo rfl rfl 62 hy16, lc rfl rfl fun hs hh => stp_pick_fB (sv hs 62 rfl) hy16 rfl qy16, lM, lg rfl rfl 72 hy18 fun hs hh => stp_move (sv hs 9 rfl), lg rfl rfl 72 hy18 fun hs hh => stp_geq (sv hs 73 rfl) rfl, lg rfl rfl 72 hy18 fun hs hh => stp_move (sv hs 74 rfl), lg rfl rfl 75 hy19 fun hs hh => stp_move (sv hs 7 rfl), lg rfl rfl 75 hy19 fun hs hh => stp_geq (sv hs 76 rfl) rfl, lg rfl rfl 75 hy19 fun hs hh => stp_move (sv hs 77 rfl), lo rfl rfl 78 hy20, lo rfl rfl 78 hy20, lo rfl rfl 78 hy20, lo rfl rfl 78 hy20, lo rfl rfl 78 hy20, lo rfl rfl 78 hy20, lo rfl rfl 78 hy20, lg rfl rfl 75 hy19 fun hs hh => stp_pick_tB (sv hs 78 rfl) hy20 rfl qy20, lg rfl rfl 72 hy18 fun hs hh => stp_pick_tB (sv hs 75 rfl) hy19 (sv hs 86 rfl) qy19, lc rfl rfl fun hs hh => stp_pick_fB (sv hs 72 rfl) hy18 (sv hs 87 rfl) qy18, trivial⟩
      intro g hΦ
      exact kw_join () trivial ⟨rfl, rfl, rfl, rfl, trivial⟩ ⟨rfl, rfl, trivial⟩
     have ey20 := cond_f ey20 hy20
     obtain ⟨x21, e21, ey20⟩ := bS ey20
     have qy20 := sI ey20
     have qy19 := sI ey19
     have qy18 := sI ey18
     refine rdq g_mixed [3, 6, 7, 9] [1, 2] { dst := dS [61, 62, 63, 64, 65, 66, 67, 68, 69, 70, 71, 72, 73, 74, 75, 76, 77, 78, 79, 80, 81, 82, 83, 84, 85, 86, 87, 88, 89], pre := gA [] [[], [0], [0, 1], [0, 1, 2], rn 0 4, rn 0 5, rn 0 6, rn 0 6, [0, 1, 2, 3, 4, 5, 7], rn 0 9, rn 0 10, rn 0 11, rn 0 12, rn 0 13, rn 0 14, rn 0 15, rn 0 16, rn 0 17, rn 0 18, rn 0 19, rn 0 20, rn 0 19, rn 0 22, rn 0 23, rn 0 19, rn 0 25, rn 0 26, rn 0 27, rn 0 28], ids := fun _ => [], rs := rL [[(9, 0)], [(60, 1)], [(61, 2)], [(62, 3)], [(62, 3)], [(62, 3)], [(65, 6)], [(65, 6)], [(65, 6)], [(65, 6)], [(62, 3)], [(62, 3), (70, 11)], [(71, 12)], [(9, 0), (72, 13)], [(73, 14), (72, 13)], [(74, 15), (72, 13)], [(7, 0), (75, 16)], [(76, 17), (75, 16)], [(77, 18), (75, 16)], [(3, 0), (78, 19)], [(79, 20), (78, 19)], [(9, 0), (78, 19)], [(80, 21), (81, 22), (78, 19)], [(82, 23), (78, 19)], [(6, 0), (78, 19)], [(83, 24), (84, 25), (78, 19)], [(78, 19), (85, 26), (75, 16)], [(75, 16), (86, 27), (72, 13)], [(72, 13), (87, 28)]], rh := rL [[], [], [], [], [], [], [], [], [], [], [], [], [], [], [], [], [], [], [], [], [(1, 0)], [], [], [], [(2, 0)]], V := fun i g => gA undef [.int .i64 x15, .bool (decide (x15 < 0)), .bool (decide (x15 < 0)), undef, undef, undef, undef, undef, undef, undef, undef, .bool y16, .bool y16, .int .i64 x15, .bool (decide (0 ≤ x15)), .bool (decide (0 ≤ x15)), .int .i64 x14.1, .bool (decide (0 ≤ x14.1)), .bool (decide (0 ≤ x14.1)), .pointer (some ⟨b2, 1, none⟩), .slice p1_1 ((a1.w).length) c1_1, .int .i64 x15, .pointer (some ⟨eB p1_1, eO p1_1 + Int.toNat x15 * Enc.sz Nt + 0, none⟩), .agg #[.int .i64 x21.k.s, .int .i64 x21.k.p, .int .i64 x21.fr], .agg #[.int .i64 x7.k.s, .int .i64 x7.k.p, .int .i64 x7.fr], .bool (x21 != x7), .bool y20, .bool y19, .bool y18] i, U := fun _ _ => [], Φ := fun _ _ => True } ?_ ?_
     ·exact ⟨lM, lc rfl rfl fun hs hh => stp_lss (sv hs 60 rfl) rfl, lM, lo rfl rfl 62 hy16, lo rfl rfl 62 hy16, lo rfl rfl 62 hy16, lx rfl rfl 65, lx rfl rfl 65, lx rfl rfl 65, lx rfl rfl 65, lo rfl rfl 62 hy16, lc rfl rfl fun hs hh => stp_pick_fB (sv hs 62 rfl) hy16 rfl qy16, lM, lg rfl rfl 72 hy18 fun hs hh => stp_move (sv hs 9 rfl), lg rfl rfl 72 hy18 fun hs hh => stp_geq (sv hs 73 rfl) rfl, lg rfl rfl 72 hy18 fun hs hh => stp_move (sv hs 74 rfl), lg rfl rfl 75 hy19 fun hs hh => stp_move (sv hs 7 rfl), lg rfl rfl 75 hy19 fun hs hh => stp_geq (sv hs 76 rfl) rfl, lg rfl rfl 75 hy19 fun hs hh => stp_move (sv hs 77 rfl), lg rfl rfl 78 hy20 fun hs hh => stp_fieldAddr (j := 1) Tryd.underlying53 rfl ts51 rfl (sv hs 3 rfl) rfl, lg rfl rfl 78 hy20 fun hs hh => stp_load1 ts51 (sv hs 79 rfl) (Cells.box (id := 1) (hh.get 1 _ rfl) 1 rfl), lg rfl rfl 78 hy20 fun hs hh => stp_move (sv hs 9 rfl), lg rfl rfl 78 hy20 fun hs hh => stp_indexAddr Tryd.underlying51 ts55 (by decide) (sv hs 80 rfl) rfl (sv hs 81 rfl) (Rdb.ro hr1_1) e21, lg rfl rfl 78 hy20 fun hs hh => stp_loadN (us := [_, _, _]) ts55 (sv hs 82 rfl) (Cells.el (Rdb.ro hr1_1) (by decide) e21 0 3 rfl), lg rfl rfl 78 hy20 fun hs hh => stp_loadN (us := [_, _, _]) ts55 (sv hs 6 rfl) (Cells.box (id := 2) (hh.get 2 _ rfl) 3 rfl), lg rfl rfl 78 hy20 fun hs hh => stp_neqS te55 x21 x7 (sv hs 83 rfl) (sv hs 84 rfl), lg rfl rfl 75 hy19 fun hs hh => stp_pick_fB (sv hs 78 rfl) hy20 (sv hs 85 rfl) qy20, lg rfl rfl 72 hy18 fun hs hh => stp_pick_tB (sv hs 75 rfl) hy19 (sv hs 86 rfl) qy19, lc rfl rfl fun hs hh => stp_pick_fB (sv hs 72 rfl) hy18 (sv hs 87 rfl) qy18, trivial⟩
     intro g hΦ
     exact kw_join () trivial ⟨rfl, rfl, rfl, rfl, trivial⟩ ⟨rfl, rfl, trivial⟩
    have ey19 := cond_f ey19 hy19
    have qy19 := sI ey19
    have qy18 := sI ey18
    refine rdq g_mixed [9] [] { dst := dS [61, 62, 63, 64, 65, 66, 67, 68, 69, 70, 71, 72, 73, 74, 75, 76, 77, 78, 79, 80, 81, 82, 83, 84, 85, 86, 87, 88, 89], pre := gA [] [[], [0], [0, 1], [0, 1, 2], rn 0 4, rn 0 5, rn 0 6, rn 0 6, [0, 1, 2, 3, 4, 5, 7], rn 0 9, rn 0 10, rn 0 11, rn 0 12, rn 0 13, rn 0 14, rn 0 15, rn 0 16, rn 0 17, rn 0 18, rn 0 19, rn 0 20, rn 0 19, rn 0 22, rn 0 23, rn 0 19, rn 0 25, rn 0 26, rn 0 27, rn 0 28], ids := fun _ => [], rs := rL [[(9, 0)], [(60, 1)], [(61, 2)], [(62, 3)], [(62, 3)], [(62, 3)], [(65, 6)], [(65, 6)], [(65, 6)], [(65, 6)], [(62, 3)], [(62, 3), (70, 11)], [(71, 12)], [(9, 0), (72, 13)], [(73, 14), (72, 13)], [(74, 15), (72, 13)], [(75, 16)], [(75, 16)], [(75, 16)], [(78, 19)], [(78, 19)], [(78, 19)], [(78, 19)], [(78, 19)], [(78, 19)], [(78, 19)], [(75, 16)], [(75, 16), (86, 27), (72, 13)], [(72, 13), (87, 28)]], rh := fun _ => [], V := fun i g => gA undef [.int .i64 x15, .bool (decide (x15 < 0)), .bool (decide (x15 < 0)), undef, undef, undef, undef, undef, undef, undef, undef, .bool y16, .bool y16, .int .i64 x15, .bool (decide (0 ≤ x15)), .bool (decide (0 ≤ x15)), undef, undef, undef, undef, undef, undef, undef, undef, undef, undef, undef, .bool y19, .bool y18] i, U := fun _ _ => [], Φ := fun _ _ => True } ?_ ?_
    ·exact ⟨lM, lc rfl rfl fun hs hh => stp_lss (sv hs 60 rfl) rfl, lM, lo rfl rfl 62 hy16, lo rfl rfl 62 hy16, lo rfl rfl 62 hy16, lx rfl rfl 65, lx rfl rfl 65, lx rfl rfl 65, lx rfl rfl 65, lo rfl rfl 62 hy16, lc rfl rfl fun hs hh => stp_pick_fB (sv hs 62 rfl) hy16 rfl qy16, lM, lg rfl rfl 72 hy18 fun hs hh => stp_move (sv hs 9 rfl), lg rfl rfl 72 hy18 fun hs hh => stp_geq (sv hs 73 rfl) rfl, lg rfl rfl 72 hy18 fun hs hh => stp_move (sv hs 74 rfl), lo rfl rfl 75 hy19, lo rfl rfl 75 hy19, lo rfl rfl 75 hy19, lx rfl rfl 78, lx rfl rfl 78, lx rfl rfl 78, lx rfl rfl 78, lx rfl rfl 78, lx rfl rfl 78, lx rfl rfl 78, lo rfl rfl 75 hy19, lg rfl rfl 72 hy18 fun hs hh => stp_pick_fB (sv hs 75 rfl) hy19 rfl qy19, lc rfl rfl fun hs hh => stp_pick_fB (sv hs 72 rfl) hy18 (sv hs 87 rfl) qy18, trivial⟩
    intro g hΦ
    exact kw_join () trivial ⟨rfl, rfl, rfl, rfl, trivial⟩ ⟨rfl, rfl, trivial⟩
   rintro _ -
   dsimp only
   refine kw_nx (cw_cond rfl (fun h22 => ?_) (fun h22 => ?_))
   ·have H1 := cond_t H1 h22
    refine sr (oS rfl (nn (cw_ret (kw_bl_ret (kw_nx_ret (kw_lq_ret (kw_bl_ret (kw_join_ret (kw_nx_ret ?_)))))))))
    obtain rfl := sI H1
    obtain rfl := sI H0
    exact kr Tryd.results116 (rT rfl) [] ⟨rfl, rfl⟩
   have H1 := cond_f H1 h22
   obtain ⟨x23, e23, H1⟩ := bS H1
   exact cw_skip (kw_bl_normal (kw_nx (cw_region (oM rfl (oP e23 rfl (oS rfl (ow_nil (kw_lqS (js := [0, 1]) (fuel, x23) H1 (Nat.lt_succ_self _) ⟨rfl, rfl, rfl, trivial⟩ ⟨0, [1], rfl, rfl, 1, [], rfl, rfl, trivial⟩ (by decide)))))))))
  have H1 := cond_f H1 h6
  refine cw_exit (kw_nx_exit (kw_lq_exit (kw_bl ?_)))
  obtain rfl := sI H1
  exact kw_joinS (js := [0, 1]) v5 rfl ⟨rfl, rfl, rfl, trivial⟩ ⟨0, [1], rfl, rfl, 1, [], rfl, rfl, trivial⟩ (by decide)
 rintro v5 rfl
 dsimp only
 obtain ⟨o0_1, eo0_1, H0⟩ := bS H0
 refine kw_nx (cw_seq (sr (oS rfl (nn (cw_join (ι := Int) (fun | v24 => o0_1 = .out v24) (fun | v24 => [(2, .pointer (some ⟨b1, 0, none⟩)), (3, .pointer (some ⟨b2, 0, none⟩)), (10, .int .i64 v24)]) (fun | v24 => [(0, [(b1, .cells #[.slice p0_0 ((a0.b).length) c0_0, .slice p0_1 ((a0.f).length) c0_1] 34 (0, 0))]), (1, [(b2, .cells #[.slice p1_0 ((a1.n).length) c1_0, .slice p1_1 ((a1.w).length) c1_1] 53 (0, 0))])]) ?_ ?_)))))
 ·refine cw_block (cw_loopS (ι := Nat × Int) (js := [0, 1]) (fun x => x.1) (fun | (fuel, v24) => s_l8Cpu_L1 fl a0 a1 fuel v24 = some o0_1) (fun | (_, v24) => [(2, .pointer (some ⟨b1, 0, none⟩)), (3, .pointer (some ⟨b2, 0, none⟩)), (10, .int .i64 v24)]) (fun | (_, v24) => [(0, [(b1, .cells #[.slice p0_0 ((a0.b).length) c0_0, .slice p0_1 ((a0.f).length) c0_1] 34 (0, 0))]), (1, [(b2, .cells #[.slice p1_0 ((a1.n).length) c1_0, .slice p1_1 ((a1.w).length) c1_1] 53 (0, 0))])]) (fl, 0) eo0_1 ⟨rfl, rfl, rfl, trivial⟩ ⟨0, [1], rfl, rfl, 1, [], rfl, rfl, trivial⟩ (by decide) ?_)
  rintro ⟨fuel, v24⟩ H1
  have H1 : s_l8Cpu_L1 fl a0 a1 fuel v24 = some o0_1 := H1
  rcases fuel with _ | fuel
  ·rw [s_l8Cpu_L1.eq_1] at H1; cases H1
  rw [s_l8Cpu_L1.eq_2] at H1
  dsimp only
  refine cw_seq (sr (oM rfl (oA 1 Tryd.underlying53 rfl ts51 rfl (oL 1 ts51 rfl (oD (stp_len Tryd.underlying51 rfl) rfl (oW rfl (nn (cw_cond rfl (fun h25 => ?_) (fun h25 => ?_)))))))))
  ·have H1 := cond_t H1 h25
   obtain ⟨x26, e26, H1⟩ := bS H1
   refine cw_skip (kw_nx (cw_seq (cw_block (sr (oA 1 Tryd.underlying53 rfl ts51 rfl (oL 1 ts51 rfl (oM rfl (oD (stp_indexAddr Tryd.underlying51 ts55 (by decide) rfl rfl rfl (Rdb.ro hr1_1) e26) rfl (oD (stp_loadN (us := [_, _, _]) ts55 rfl (Cells.el (Rdb.ro hr1_1) (by decide) e26 0 3 rfl)) rfl (oE (stpU_alloc 3 tz55 rfl) rfl ?_))))))))))
   rintro _ _ ⟨b27, rfl, rfl⟩
   obtain ⟨x28, e28, H1⟩ := bS H1
   obtain ⟨y29, ey29, H1⟩ := bS H1
   obtain ⟨y32, ey32, H1⟩ := bS H1
   obtain ⟨y33, ey33, H1⟩ := bS H1
   obtain ⟨y34, ey34, H1⟩ := bS H1
   refine oC3 3 ts55 rfl rfl (nn (cw_seq (cw_join (ι := Unit) (fun | _ => True) (fun | _ => [(2, .pointer (some ⟨b1, 0, none⟩)), (3, .pointer (some ⟨b2, 0, none⟩)), (10, .int .i64 v24), (138, .bool y34)]) (fun | _ => [(0, [(b1, .cells #[.slice p0_0 ((a0.b).length) c0_0, .slice p0_1 ((a0.f).length) c0_1] 34 (0, 0))]), (1, [(b2, .cells #[.slice p1_0 ((a1.n).length) c1_0, .slice p1_1 ((a1.w).length) c1_1] 53 (0, 0))])]) ?_ ?_)))
   ·rcases Bool.eq_false_or_eq_true (decide (x28 < 0)) with hy29 | hy29
    ·have ey29 := cond_t ey29 hy29
     have qy29 := sI ey29
     have hy32 : y29 = true := by rw [← qy29]
     have ey32 := cond_t ey32 hy32
     have qy32 := sI ey32
     have hy33 : y32 = true := by rw [← qy32]
     have ey33 := cond_t ey33 hy33
     have qy33 := sI ey33
     have hy34 : y33 = true := by rw [← qy33]
     have ey34 := cond_t ey34 hy34
     have qy34 := sI ey34
     refine rdq g_mixed [3, 11] [1, 3] { dst := dS [102, 103, 104, 105, 106, 107, 108, 109, 110, 111, 112, 113, 114, 115, 116, 117, 118, 119, 120, 121, 122, 123, 124, 125, 126, 127, 128, 129, 130, 131, 132, 133, 134, 135, 136, 137, 138, 139], pre := gA [] [[], [0], [], [2], rn 0 4, rn 0 5, rn 0 6, rn 0 7, rn 0 8, rn 0 7, rn 0 10, rn 0 7, [0, 1, 2, 3, 4, 5, 6, 11], rn 0 13, rn 0 14, rn 0 15, rn 0 16, rn 0 17, rn 0 18, rn 0 19, rn 0 20, rn 0 21, rn 0 22, rn 0 23, rn 0 22, [0, 1, 2, 3, 4, 5, 6, 7, 8, 9, 10, 11, 12, 13, 14, 15, 16, 17, 18, 19, 20, 21, 24], [0, 1, 2, 3, 4, 5, 6, 7, 8, 9, 10, 11, 12, 13, 14, 15, 16, 17, 18, 19, 20, 21, 24, 25], rn 0 27, rn 0 28, rn 0 29, rn 0 30, rn 0 31, rn 0 30, [0, 1, 2, 3, 4, 5, 6, 7, 8, 9, 10, 11, 12, 13, 14, 15, 16, 17, 18, 19, 20, 21, 22, 23, 24, 25, 26, 27, 28, 29, 32], rn 0 34, rn 0 35, rn 0 36, rn 0 37], ids := fun _ => [], rs := rL [[(3, 0)], [(101, 1)], [(11, 0)], [(103, 3)], [(102, 2), (104, 4)], [(105, 5)], [(106, 6)], [(107, 7)], [(107, 7)], [(107, 7)], [(107, 7)], [(107, 7)], [(107, 7)], [(107, 7)], [(107, 7)], [(107, 7), (115, 15)], [(116, 16)], [(117, 17)], [(117, 17)], [(117, 17)], [(117, 17), (120, 20)], [(121, 21)], [(122, 22)], [(122, 22)], [(122, 22)], [(122, 22)], [(122, 22)], [(122, 22)], [(122, 22), (128, 28)], [(129, 29)], [(130, 30)], [(130, 30)], [(130, 30)], [(130, 30)], [(130, 30)], [(130, 30)], [(130, 30)], [(130, 30), (137, 37)]], rh := rL [[], [(1, 0)], [], [(3, 0)]], V := fun i g => gA undef [.pointer (some ⟨b2, 0, none⟩), .slice p1_0 ((a1.n).length) c1_0, .pointer (some ⟨b27, 0, none⟩), .agg #[.int .i64 x26.k.s, .int .i64 x26.k.p], .int .i64 x28, .bool (decide (x28 < 0)), .bool (decide (x28 < 0)), undef, undef, undef, undef, undef, undef, undef, undef, .bool y29, .bool y29, undef, undef, undef, .bool y32, .bool y32, undef, undef, undef, undef, undef, undef, .bool y33, .bool y33, undef, undef, undef, undef, undef, undef, undef, .bool y34] i, U := fun _ _ => [], Φ := fun _ _ => True } ?_ ?_
     ·refine ⟨lc rfl rfl fun hs hh => stp_fieldAddr (j := 0) Tryd.underlying53 rfl ts51 rfl (sv hs 3 rfl) rfl, lc rfl rfl fun hs hh => stp_load1 ts51 (sv hs 101 rfl) (Cells.box (id := 1) (hh.get 1 _ rfl) 1 rfl), lc rfl rfl fun hs hh => stp_fieldAddr (j := 0) Tryd.underlying55 rfl ts41 rfl (sv hs 11 rfl) rfl, lc rfl rfl fun hs hh => stp_loadN (us := [_, _]) ts41 (sv hs 103 rfl) (Cells.box (id := 3) (hh.get 3 _ rfl) 2 rfl), ?_, lc rfl rfl fun hs hh => stp_lss (sv hs 105 rfl) rfl, lM, lo rfl rfl 107 hy29, lo rfl rfl 107 hy29, lo rfl rfl 107 hy29, lo rfl rfl 107 hy29, lo rfl rfl 107 hy29, lo rfl rfl 107 hy29, lo rfl rfl 107 hy29, lo rfl rfl 107 hy29, lc rfl rfl fun hs hh => stp_pick_tB (sv hs 107 rfl) hy29 rfl qy29, lM, lo rfl rfl 117 hy32, lo rfl rfl 117 hy32, lo rfl rfl 117 hy32, lc rfl rfl fun hs hh => stp_pick_tB (sv hs 117 rfl) hy32 rfl qy32, lM, lo rfl rfl 122 hy33, lo rfl rfl 122 hy33, lo rfl rfl 122 hy33, lo rfl rfl 122 hy33, lo rfl rfl 122 hy33, lo rfl rfl 122 hy33, lc rfl rfl fun hs hh => stp_pick_tB (sv hs 122 rfl) hy33 rfl qy33, lM, lo rfl rfl 130 hy34, lo rfl rfl 130 hy34, lo rfl rfl 130 hy34, lo rfl rfl 130 hy34, lo rfl rfl 130 hy34, lo rfl rfl 130 hy34, lo rfl rfl 130 hy34, lc rfl rfl fun hs hh => stp_pick_tB (sv hs 130 rfl) hy34 rfl qy34, trivial⟩
      refine le rfl rfl (fun g hΦ s h hs hh => (stpU_call (fun i => 4 + i) cf40 (fun w hw => c_s_l8Find fl w a1.n x26.k rfl (RO.pass hr1_0 hw) x28 e28) (yB (sv hs 102 rfl) (sv hs 104 rfl)))) ?_
      rintro g _ _ ⟨_, ⟨rfl, rfl⟩, rfl⟩
      exact ⟨⟨[], [], []⟩, trivial, .inr rfl, rfl⟩
     intro g hΦ
     exact kw_join () trivial ⟨rfl, rfl, rfl, rfl, trivial⟩ ⟨rfl, rfl, trivial⟩
    have ey29 := cond_f ey29 hy29
    obtain ⟨x30, e30, ey29⟩ := bS ey29
    obtain ⟨x31, e31, ey29⟩ := bS ey29
    have qy29 := sI ey29
    rcases Bool.eq_false_or_eq_true y29 with hy32 | hy32
    ·have ey32 := cond_t ey32 hy32
     have qy32 := sI ey32
     have hy33 : y32 = true := by rw [← qy32]
     have ey33 := cond_t ey33 hy33
     have qy33 := sI ey33
     have hy34 : y33 = true := by rw [← qy33]
     have ey34 := cond_t ey34 hy34
     have qy34 := sI ey34
     refine rdq g_mixed [3, 10, 11] [1, 3] { dst := dS [102, 103, 104, 105, 106, 107, 108, 109, 110, 111, 112, 113, 114, 115, 116, 117, 118, 119, 120, 121, 122, 123, 124, 125, 126, 127, 128, 129, 130, 131, 132, 133, 134, 135, 136, 137, 138, 139], pre := gA [] [[], [0], [], [2], rn 0 4, rn 0 5, rn 0 6, rn 0 7, rn 0 8, rn 0 7, rn 0 10, rn 0 7, [0, 1, 2, 3, 4, 5, 6, 11], rn 0 13, rn 0 14, rn 0 15, rn 0 16, rn 0 17, rn 0 18, rn 0 19, rn 0 20, rn 0 21, rn 0 22, rn 0 23, rn 0 22, [0, 1, 2, 3, 4, 5, 6, 7, 8, 9, 10, 11, 12, 13, 14, 15, 16, 17, 18, 19, 20, 21, 24], [0, 1, 2, 3, 4, 5, 6, 7, 8, 9, 10, 11, 12, 13, 14, 15, 16, 17, 18, 19, 20, 21, 24, 25], rn 0 27, rn 0 28, rn 0 29, rn 0 30, rn 0 31, rn 0 30, [0, 1, 2, 3, 4, 5, 6, 7, 8, 9, 10, 11, 12, 13, 14, 15, 16, 17, 18, 19, 20, 21, 22, 23, 24, 25, 26, 27, 28, 29, 32], rn 0 34, rn 0 35, rn 0 36, rn 0 37], ids := fun _ => [], rs := rL [[(3, 0)], [(101, 1)], [(11, 0)], [(103, 3)], [(102, 2), (104, 4)], [(105, 5)], [(106, 6)], [(3, 0), (107, 7)], [(108, 8), (107, 7)], [(10, 0), (107, 7)], [(109, 9), (110, 10), (107, 7)], [(11, 0), (107, 7)], [(112, 12), (107, 7)], [(111, 11), (113, 13), (107, 7)], [(114, 14), (107, 7)], [(107, 7), (115, 15)], [(116, 16)], [(117, 17)], [(117, 17)], [(117, 17)], [(117, 17), (120, 20)], [(121, 21)], [(122, 22)], [(122, 22)], [(122, 22)], [(122, 22)], [(122, 22)], [(122, 22)], [(122, 22), (128, 28)], [(129, 29)], [(130, 30)], [(130, 30)], [(130, 30)], [(130, 30)], [(130, 30)], [(130, 30)], [(130, 30)], [(130, 30), (137, 37)]], rh := rL [[], [(1, 0)], [], [(3, 0)], [], [], [], [], [(1, 0)], [], [], [], [(3, 0)]], V := fun i g => gA undef [.pointer (some ⟨b2, 0, none⟩), .slice p1_0 ((a1.n).length) c1_0, .pointer (some ⟨b27, 0, none⟩), .agg #[.int .i64 x26.k.s, .int .i64 x26.k.p], .int .i64 x28, .bool (decide (x28 < 0)), .bool (decide (x28 < 0)), .pointer (some ⟨b2, 1, none⟩), .slice p1_1 ((a1.w).length) c1_1, .int .i64 v24, .slice p1_1 ((x30).length) c1_1, .pointer (some ⟨b27, 0, none⟩), .agg #[.int .i64 x26.k.s, .int .i64 x26.k.p], .int .i64 x31, .bool (decide (0 ≤ x31)), .bool y29, .bool y29, undef, undef, undef, .bool y32, .bool y32, undef, undef, undef, undef, undef, undef, .bool y33, .bool y33, undef, undef, undef, undef, undef, undef, undef, .bool y34] i, U := fun _ _ => [], Φ := fun _ _ => True } ?_ ?_
     ·refine ⟨lc rfl rfl fun hs hh => stp_fieldAddr (j := 0) Tryd.underlying53 rfl ts51 rfl (sv hs 3 rfl) rfl, lc rfl rfl fun hs hh => stp_load1 ts51 (sv hs 101 rfl) (Cells.box (id := 1) (hh.get 1 _ rfl) 1 rfl), lc rfl rfl fun hs hh => stp_fieldAddr (j := 0) Tryd.underlying55 rfl ts41 rfl (sv hs 11 rfl) rfl, lc rfl rfl fun hs hh => stp_loadN (us := [_, _]) ts41 (sv hs 103 rfl) (Cells.box (id := 3) (hh.get 3 _ rfl) 2 rfl), ?_, lc rfl rfl fun hs hh => stp_lss (sv hs 105 rfl) rfl, lM, lg rfl rfl 107 hy29 fun hs hh => stp_fieldAddr (j := 1) Tryd.underlying53 rfl ts51 rfl (sv hs 3 rfl) rfl, lg rfl rfl 107 hy29 fun hs hh => stp_load1 ts51 (sv hs 108 rfl) (Cells.box (id := 1) (hh.get 1 _ rfl) 1 rfl), lg rfl rfl 107 hy29 fun hs hh => stp_move (sv hs 10 rfl), lg rfl rfl 107 hy29 fun hs hh => stp_take Tryd.underlying51 ts55 (sv hs 109 rfl) rfl (sv hs 110 rfl) (Rdb.ro hr1_1) e30, lg rfl rfl 107 hy29 fun hs hh => stp_fieldAddr (j := 0) Tryd.underlying55 rfl ts41 rfl (sv hs 11 rfl) rfl, lg rfl rfl 107 hy29 fun hs hh => stp_loadN (us := [_, _]) ts41 (sv hs 112 rfl) (Cells.box (id := 3) (hh.get 3 _ rfl) 2 rfl), ?_, lg rfl rfl 107 hy29 fun hs hh => stp_geq (sv hs 114 rfl) rfl, lc rfl rfl fun hs hh => stp_pick_fB (sv hs 107 rfl) hy29 (sv hs 115 rfl) qy29, lM, lo rfl rfl 117 hy32, lo rfl rfl 117 hy32, lo rfl rfl 117 hy32, lc rfl rfl fun hs hh => stp_pick_tB (sv hs 117 rfl) hy32 rfl qy32, lM, lo rfl rfl 122 hy33, lo rfl rfl 122 hy33, lo rfl rfl 122 hy33, lo rfl rfl 122 hy33, lo rfl rfl 122 hy33, lo rfl rfl 122 hy33, lc rfl rfl fun hs hh => stp_pick_tB (sv hs 122 rfl) hy33 rfl qy33, lM, lo rfl rfl 130 hy34, lo rfl rfl 130 hy34, lo rfl rfl 130 hy34, lo rfl rfl 130 hy34, lo rfl rfl 130 hy34, lo rfl rfl 130 hy34, lo rfl rfl 130 hy34, lc rfl rfl fun hs hh => stp_pick_tB (sv hs 130 rfl) hy34 rfl qy34, trivial⟩
      ·refine le rfl rfl (fun g hΦ s h hs hh => (stpU_call (fun i => 4 + i) cf40 (fun w hw => c_s_l8Find fl w a1.n x26.k rfl (RO.pass hr1_0 hw) x28 e28) (yB (sv hs 102 rfl) (sv hs 104 rfl)))) ?_
       rintro g _ _ ⟨_, ⟨rfl, rfl⟩, rfl⟩
       exact ⟨⟨[], [], []⟩, trivial, .inr rfl, rfl⟩
      refine loc_eff rfl rfl (fun g hΦ s h hs hh => ⟨(.some (gval_of rfl (sv hs 107 rfl)) hy29), (stpU_call (fun i => 4 + i) cf40 (fun w hw => c_s_l8Find fl w x30 x26.k rfl (RO.pass (RO.take hr1_1 e30) hw) x31 e31) (yB (sv hs 111 rfl) (sv hs 113 rfl)))⟩) ?_
      rintro g _ _ ⟨_, ⟨rfl, rfl⟩, rfl⟩
      exact ⟨⟨[], [], []⟩, trivial, .inr rfl, rfl⟩
     intro g hΦ
     exact kw_join () trivial ⟨rfl, rfl, rfl, rfl, trivial⟩ ⟨rfl, rfl, trivial⟩
    have ey32 := cond_f ey32 hy32
    have qy32 := sI ey32
    rcases Bool.eq_false_or_eq_true y32 with hy33 | hy33
    ·have ey33 := cond_t ey33 hy33
     have qy33 := sI ey33
     have hy34 : y33 = true := by rw [← qy33]
     have ey34 := cond_t ey34 hy34
     have qy34 := sI ey34
     refine rdq g_mixed [3, 10, 11] [1, 3] { dst := dS [102, 103, 104, 105, 106, 107, 108, 109, 110, 111, 112, 113, 114, 115, 116, 117, 118, 119, 120, 121, 122, 123, 124, 125, 126, 127, 128, 129, 130, 131, 132, 133, 134, 135, 136, 137, 138, 139], pre := gA [] [[], [0], [], [2], rn 0 4, rn 0 5, rn 0 6, rn 0 7, rn 0 8, rn 0 7, rn 0 10, rn 0 7, [0, 1, 2, 3, 4, 5, 6, 11], rn 0 13, rn 0 14, rn 0 15, rn 0 16, rn 0 17, rn 0 18, rn 0 19, rn 0 20, rn 0 21, rn 0 22, rn 0 23, rn 0 22, [0, 1, 2, 3, 4, 5, 6, 7, 8, 9, 10, 11, 12, 13, 14, 15, 16, 17, 18, 19, 20, 21, 24], [0, 1, 2, 3, 4, 5, 6, 7, 8, 9, 10, 11, 12, 13, 14, 15, 16, 17, 18, 19, 20, 21, 24, 25], rn 0 27, rn 0 28, rn 0 29, rn 0 30, rn 0 31, rn 0 30, [0, 1, 2, 3, 4, 5, 6, 7, 8, 9, 10, 11, 12, 13, 14, 15, 16, 17, 18, 19, 20, 21, 22, 23, 24, 25, 26, 27, 28, 29, 32], rn 0 34, rn 0 35, rn 0 36, rn 0 37], ids := fun _ => [], rs := rL [[(3, 0)], [(101, 1)], [(11, 0)], [(103, 3)], [(102, 2), (104, 4)], [(105, 5)], [(106, 6)], [(3, 0), (107, 7)], [(108, 8), (107, 7)], [(10, 0), (107, 7)], [(109, 9), (110, 10), (107, 7)], [(11, 0), (107, 7)], [(112, 12), (107, 7)], [(111, 11), (113, 13), (107, 7)], [(114, 14), (107, 7)], [(107, 7), (115, 15)], [(116, 16)], [(11, 0), (117, 17)], [(118, 18), (117, 17)], [(119, 19), (117, 17)], [(117, 17), (120, 20)], [(121, 21)], [(122, 22)], [(122, 22)], [(122, 22)], [(122, 22)], [(122, 22)], [(122, 22)], [(122, 22), (128, 28)], [(129, 29)], [(130, 30)], [(130, 30)], [(130, 30)], [(130, 30)], [(130, 30)], [(130, 30)], [(130, 30)], [(130, 30), (137, 37)]], rh := rL [[], [(1, 0)], [], [(3, 0)], [], [], [], [], [(1, 0)], [], [], [], [(3, 0)], [], [], [], [], [], [(3, 0)]], V := fun i g => gA undef [.pointer (some ⟨b2, 0, none⟩), .slice p1_0 ((a1.n).length) c1_0, .pointer (some ⟨b27, 0, none⟩), .agg #[.int .i64 x26.k.s, .int .i64 x26.k.p], .int .i64 x28, .bool (decide (x28 < 0)), .bool (decide (x28 < 0)), .pointer (some ⟨b2, 1, none⟩), .slice p1_1 ((a1.w).length) c1_1, .int .i64 v24, .slice p1_1 ((x30).length) c1_1, .pointer (some ⟨b27, 0, none⟩), .agg #[.int .i64 x26.k.s, .int .i64 x26.k.p], .int .i64 x31, .bool (decide (0 ≤ x31)), .bool y29, .bool y29, .pointer (some ⟨b27, 2, none⟩), .int .i64 x26.fr, .bool (decide (x26.fr < 0)), .bool y32, .bool y32, undef, undef, undef, undef, undef, undef, .bool y33, .bool y33, undef, undef, undef, undef, undef, undef, undef, .bool y34] i, U := fun _ _ => [], Φ := fun _ _ => True } ?_ ?_
     ·refine ⟨lc rfl rfl fun hs hh => stp_fieldAddr (j := 0) Tryd.underlying53 rfl ts51 rfl (sv hs 3 rfl) rfl, lc rfl rfl fun hs hh => stp_load1 ts51 (sv hs 101 rfl) (Cells.box (id := 1) (hh.get 1 _ rfl) 1 rfl), lc rfl rfl fun hs hh => stp_fieldAddr (j := 0) Tryd.underlying55 rfl ts41 rfl (sv hs 11 rfl) rfl, lc rfl rfl fun hs hh => stp_loadN (us := [_, _]) ts41 (sv hs 103 rfl) (Cells.box (id := 3) (hh.get 3 _ rfl) 2 rfl), ?_, lc rfl rfl fun hs hh => stp_lss (sv hs 105 rfl) rfl, lM, lg rfl rfl 107 hy29 fun hs hh => stp_fieldAddr (j := 1) Tryd.underlying53 rfl ts51 rfl (sv hs 3 rfl) rfl, lg rfl rfl 107 hy29 fun hs hh => stp_load1 ts51 (sv hs 108 rfl) (Cells.box (id := 1) (hh.get 1 _ rfl) 1 rfl), lg rfl rfl 107 hy29 fun hs hh => stp_move (sv hs 10 rfl), lg rfl rfl 107 hy29 fun hs hh => stp_take Tryd.underlying51 ts55 (sv hs 109 rfl) rfl (sv hs 110 rfl) (Rdb.ro hr1_1) e30, lg rfl rfl 107 hy29 fun hs hh => stp_fieldAddr (j := 0) Tryd.underlying55 rfl ts41 rfl (sv hs 11 rfl) rfl, lg rfl rfl 107 hy29 fun hs hh => stp_loadN (us := [_, _]) ts41 (sv hs 112 rfl) (Cells.box (id := 3) (hh.get 3 _ rfl) 2 rfl), ?_, lg rfl rfl 107 hy29 fun hs hh => stp_geq (sv hs 114 rfl) rfl, lc rfl rfl fun hs hh => stp_pick_fB (sv hs 107 rfl) hy29 (sv hs 115 rfl) qy29, lM, lg rfl rfl 117 hy32 fun hs hh => stp_fieldAddr (j := 2) Tryd.underlying55 rfl ts3 rfl (sv hs 11 rfl) rfl, lg rfl rfl 117 hy32 fun hs hh => stp_load1 ts3 (sv hs 118 rfl) (Cells.box (id := 3) (hh.get 3 _ rfl) 1 rfl), lg rfl rfl 117 hy32 fun hs hh => stp_lss (sv hs 119 rfl) rfl, lc rfl rfl fun hs hh => stp_pick_fB (sv hs 117 rfl) hy32 (sv hs 120 rfl) qy32, lM, lo rfl rfl 122 hy33, lo rfl rfl 122 hy33, lo rfl rfl 122 hy33, lo rfl rfl 122 hy33, lo rfl rfl 122 hy33, lo rfl rfl 122 hy33, lc rfl rfl fun hs hh => stp_pick_tB (sv hs 122 rfl) hy33 rfl qy33, lM, lo rfl rfl 130 hy34, lo rfl rfl 130 hy34, lo rfl rfl 130 hy34, lo rfl rfl 130 hy34, lo rfl rfl 130 hy34, lo rfl rfl 130 hy34, lo rfl rfl 130 hy34, lc rfl rfl fun hs hh => stp_pick_tB (sv hs 130 rfl) hy34 rfl qy34, trivial⟩
      ·refine le rfl rfl (fun g hΦ s h hs hh => (stpU_call (fun i => 4 + i) cf40 (fun w hw => c_s_l8Find fl w a1.n x26.k rfl (RO.pass hr1_0 hw) x28 e28) (yB (sv hs 102 rfl) (sv hs 104 rfl)))) ?_
       rintro g _ _ ⟨_, ⟨rfl, rfl⟩, rfl⟩
       exact ⟨⟨[], [], []⟩, trivial, .inr rfl, rfl⟩
      refine loc_eff rfl rfl (fun g hΦ s h hs hh => ⟨(.some (gval_of rfl (sv hs 107 rfl)) hy29), (stpU_call (fun i => 4 + i) cf40 (fun w hw => c_s_l8Find fl w x30 x26.k rfl (RO.pass (RO.take hr1_1 e30) hw) x31 e31) (yB (sv hs 111 rfl) (sv hs 113 rfl)))⟩) ?_
      rintro g _ _ ⟨_, ⟨rfl, rfl⟩, rfl⟩
      exact ⟨⟨[], [], []⟩, trivial, .inr rfl, rfl⟩
     intro g hΦ
     exact kw_join () trivial ⟨rfl, rfl, rfl, rfl, trivial⟩ ⟨rfl, rfl, trivial⟩
    have ey33 := cond_f ey33 hy33
    have qy33 := sI ey33
    rcases Bool.eq_false_or_eq_true y33 with hy34 | hy34
    ·have ey34 := cond_t ey34 hy34
     have qy34 := sI ey34
     refine rdq g_mixed [2, 3, 10, 11] [0, 1, 3] { dst := dS [102, 103, 104, 105, 106, 107, 108, 109, 110, 111, 112, 113, 114, 115, 116, 117, 118, 119, 120, 121, 122, 123, 124, 125, 126, 127, 128, 129, 130, 131, 132, 133, 134, 135, 136, 137, 138, 139], pre := gA [] [[], [0], [], [2], rn 0 4, rn 0 5, rn 0 6, rn 0 7, rn 0 8, rn 0 7, rn 0 10, rn 0 7, [0, 1, 2, 3, 4, 5, 6, 11], rn 0 13, rn 0 14, rn 0 15, rn 0 16, rn 0 17, rn 0 18, rn 0 19, rn 0 20, rn 0 21, rn 0 22, rn 0 23, rn 0 22, [0, 1, 2, 3, 4, 5, 6, 7, 8, 9, 10, 11, 12, 13, 14, 15, 16, 17, 18, 19, 20, 21, 24], [0, 1, 2, 3, 4, 5, 6, 7, 8, 9, 10, 11, 12, 13, 14, 15, 16, 17, 18, 19, 20, 21, 24, 25], rn 0 27, rn 0 28, rn 0 29, rn 0 30, rn 0 31, rn 0 30, [0, 1, 2, 3, 4, 5, 6, 7, 8, 9, 10, 11, 12, 13, 14, 15, 16, 17, 18, 19, 20, 21, 22, 23, 24, 25, 26, 27, 28, 29, 32], rn 0 34, rn 0 35, rn 0 36, rn 0 37], ids := fun _ => [], rs := rL [[(3, 0)], [(101, 1)], [(11, 0)], [(103, 3)], [(102, 2), (104, 4)], [(105, 5)], [(106, 6)], [(3, 0), (107, 7)], [(108, 8), (107, 7)], [(10, 0), (107, 7)], [(109, 9), (110, 10), (107, 7)], [(11, 0), (107, 7)], [(112, 12), (107, 7)], [(111, 11), (113, 13), (107, 7)], [(114, 14), (107, 7)], [(107, 7), (115, 15)], [(116, 16)], [(11, 0), (117, 17)], [(118, 18), (117, 17)], [(119, 19), (117, 17)], [(117, 17), (120, 20)], [(121, 21)], [(11, 0), (122, 22)], [(123, 23), (122, 22)], [(2, 0), (122, 22)], [(125, 25), (122, 22)], [(126, 26), (122, 22)], [(124, 24), (127, 27), (122, 22)], [(122, 22), (128, 28)], [(129, 29)], [(130, 30)], [(130, 30)], [(130, 30)], [(130, 30)], [(130, 30)], [(130, 30)], [(130, 30)], [(130, 30), (137, 37)]], rh := rL [[], [(1, 0)], [], [(3, 0)], [], [], [], [], [(1, 0)], [], [], [], [(3, 0)], [], [], [], [], [], [(3, 0)], [], [], [], [], [(3, 0)], [], [(0, 0)]], V := fun i g => gA undef [.pointer (some ⟨b2, 0, none⟩), .slice p1_0 ((a1.n).length) c1_0, .pointer (some ⟨b27, 0, none⟩), .agg #[.int .i64 x26.k.s, .int .i64 x26.k.p], .int .i64 x28, .bool (decide (x28 < 0)), .bool (decide (x28 < 0)), .pointer (some ⟨b2, 1, none⟩), .slice p1_1 ((a1.w).length) c1_1, .int .i64 v24, .slice p1_1 ((x30).length) c1_1, .pointer (some ⟨b27, 0, none⟩), .agg #[.int .i64 x26.k.s, .int .i64 x26.k.p], .int .i64 x31, .bool (decide (0 ≤ x31)), .bool y29, .bool y29, .pointer (some ⟨b27, 2, none⟩), .int .i64 x26.fr, .bool (decide (x26.fr < 0)), .bool y32, .bool y32, .pointer (some ⟨b27, 2, none⟩), .int .i64 x26.fr, .pointer (some ⟨b1, 1, none⟩), .slice p0_1 ((a0.f).length) c0_1, .int .i64 ((a0.f).length : Int), .bool (decide (((a0.f).length : Int) ≤ x26.fr)), .bool y33, .bool y33, undef, undef, undef, undef, undef, undef, undef, .bool y34] i, U := fun _ _ => [], Φ := fun _ _ => True } ?_ ?_
     ·refine ⟨lc rfl rfl fun hs hh => stp_fieldAddr (j := 0) Tryd.underlying53 rfl ts51 rfl (sv hs 3 rfl) rfl, lc rfl rfl fun hs hh => stp_load1 ts51 (sv hs 101 rfl) (Cells.box (id := 1) (hh.get 1 _ rfl) 1 rfl), lc rfl rfl fun hs hh => stp_fieldAddr (j := 0) Tryd.underlying55 rfl ts41 rfl (sv hs 11 rfl) rfl, lc rfl rfl fun hs hh => stp_loadN (us := [_, _]) ts41 (sv hs 103 rfl) (Cells.box (id := 3) (hh.get 3 _ rfl) 2 rfl), ?_, lc rfl rfl fun hs hh => stp_lss (sv hs 105 rfl) rfl, lM, lg rfl rfl 107 hy29 fun hs hh => stp_fieldAddr (j := 1) Tryd.underlying53 rfl ts51 rfl (sv hs 3 rfl) rfl, lg rfl rfl 107 hy29 fun hs hh => stp_load1 ts51 (sv hs 108 rfl) (Cells.box (id := 1) (hh.get 1 _ rfl) 1 rfl), lg rfl rfl 107 hy29 fun hs hh => stp_move (sv hs 10 rfl), lg rfl rfl 107 hy29 fun hs hh => stp_take Tryd.underlying51 ts55 (sv hs 109 rfl) rfl (sv hs 110 rfl) (Rdb.ro hr1_1) e30, lg rfl rfl 107 hy29 fun hs hh => stp_fieldAddr (j := 0) Tryd.underlying55 rfl ts41 rfl (sv hs 11 rfl) rfl, lg rfl rfl 107 hy29 fun hs hh => stp_loadN (us := [_, _]) ts41 (sv hs 112 rfl) (Cells.box (id := 3) (hh.get 3 _ rfl) 2 rfl), ?_, lg rfl rfl 107 hy29 fun hs hh => stp_geq (sv hs 114 rfl) rfl, lc rfl rfl fun hs hh => stp_pick_fB (sv hs 107 rfl) hy29 (sv hs 115 rfl) qy29, lM, lg rfl rfl 117 hy32 fun hs hh => stp_fieldAddr (j := 2) Tryd.underlying55 rfl ts3 rfl (sv hs 11 rfl) rfl, lg rfl rfl 117 hy32 fun hs hh => stp_load1 ts3 (sv hs 118 rfl) (Cells.box (id := 3) (hh.get 3 _ rfl) 1 rfl), lg rfl rfl 117 hy32 fun hs hh => stp_lss (sv hs 119 rfl) rfl, lc rfl rfl fun hs hh => stp_pick_fB (sv hs 117 rfl) hy32 (sv hs 120 rfl) qy32, lM, lg rfl rfl 122 hy33 fun hs hh => stp_fieldAddr (j := 2) Tryd.underlying55 rfl ts3 rfl (sv hs 11 rfl) rfl, lg rfl rfl 122 hy33 fun hs hh => stp_load1 ts3 (sv hs 123 rfl) (Cells.box (id := 3) (hh.get 3 _ rfl) 1 rfl), lg rfl rfl 122 hy33 fun hs hh => stp_fieldAddr (j := 1) Tryd.underlying34 rfl ts32 rfl (sv hs 2 rfl) rfl, lg rfl rfl 122 hy33 fun hs hh => stp_load1 ts32 (sv hs 125 rfl) (Cells.box (id := 0) (hh.get 0 _ rfl) 1 rfl), lg rfl rfl 122 hy33 fun hs hh => stp_len Tryd.underlying32 (sv hs 126 rfl), lg rfl rfl 122 hy33 fun hs hh => stp_geq (sv hs 124 rfl) (sv hs 127 rfl), lc rfl rfl fun hs hh => stp_pick_fB (sv hs 122 rfl) hy33 (sv hs 128 rfl) qy33, lM, lo rfl rfl 130 hy34, lo rfl rfl 130 hy34, lo rfl rfl 130 hy34, lo rfl rfl 130 hy34, lo rfl rfl 130 hy34, lo rfl rfl 130 hy34, lo rfl rfl 130 hy34, lc rfl rfl fun hs hh => stp_pick_tB (sv hs 130 rfl) hy34 rfl qy34, trivial⟩
      ·refine le rfl rfl (fun g hΦ s h hs hh => (stpU_call (fun i => 4 + i) cf40 (fun w hw => c_s_l8Find fl w a1.n x26.k rfl (RO.pass hr1_0 hw) x28 e28) (yB (sv hs 102 rfl) (sv hs 104 rfl)))) ?_
       rintro g _ _ ⟨_, ⟨rfl, rfl⟩, rfl⟩
       exact ⟨⟨[], [], []⟩, trivial, .inr rfl, rfl⟩
      refine loc_eff rfl rfl (fun g hΦ s h hs hh => ⟨(.some (gval_of rfl (sv hs 107 rfl)) hy29), (stpU_call (fun i => 4 + i) cf40 (fun w hw => c_s_l8Find fl w x30 x26.k rfl (RO.pass (RO.take hr1_1 e30) hw) x31 e31) (yB (sv hs 111 rfl) (sv hs 113 rfl)))⟩) ?_
      rintro g _ _ ⟨_, ⟨rfl, rfl⟩, rfl⟩
      exact ⟨⟨[], [], []⟩, trivial, .inr rfl, rfl⟩
     intro g hΦ
     exact kw_join () trivial ⟨rfl, rfl, rfl, rfl, trivial⟩ ⟨rfl, rfl, trivial⟩
    have ey34 := cond_f ey34 hy34
    obtain ⟨x35, e35, ey34⟩ := bS ey34
    have qy34 := sI ey34
    refine rdq g_mixed [2, 3, 10, 11] [0, 1, 3] { dst := dS [102, 103, 104, 105, 106, 107, 108, 109, 110, 111, 112, 113, 114, 115, 116, 117, 118, 119, 120, 121, 122, 123, 124, 125, 126, 127, 128, 129, 130, 131, 132, 133, 134, 135, 136, 137, 138, 139], pre := gA [] [[], [0], [], [2], rn 0 4, rn 0 5, rn 0 6, rn 0 7, rn 0 8, rn 0 7, rn 0 10, rn 0 7, [0, 1, 2, 3, 4, 5, 6, 11], rn 0 13, rn 0 14, rn 0 15, rn 0 16, rn 0 17, rn 0 18, rn 0 19, rn 0 20, rn 0 21, rn 0 22, rn 0 23, rn 0 22, [0, 1, 2, 3, 4, 5, 6, 7, 8, 9, 10, 11, 12, 13, 14, 15, 16, 17, 18, 19, 20, 21, 24], [0, 1, 2, 3, 4, 5, 6, 7, 8, 9, 10, 11, 12, 13, 14, 15, 16, 17, 18, 19, 20, 21, 24, 25], rn 0 27, rn 0 28, rn 0 29, rn 0 30, rn 0 31, rn 0 30, [0, 1, 2, 3, 4, 5, 6, 7, 8, 9, 10, 11, 12, 13, 14, 15, 16, 17, 18, 19, 20, 21, 22, 23, 24, 25, 26, 27, 28, 29, 32], rn 0 34, rn 0 35, rn 0 36, rn 0 37], ids := fun _ => [], rs := rL [[(3, 0)], [(101, 1)], [(11, 0)], [(103, 3)], [(102, 2), (104, 4)], [(105, 5)], [(106, 6)], [(3, 0), (107, 7)], [(108, 8), (107, 7)], [(10, 0), (107, 7)], [(109, 9), (110, 10), (107, 7)], [(11, 0), (107, 7)], [(112, 12), (107, 7)], [(111, 11), (113, 13), (107, 7)], [(114, 14), (107, 7)], [(107, 7), (115, 15)], [(116, 16)], [(11, 0), (117, 17)], [(118, 18), (117, 17)], [(119, 19), (117, 17)], [(117, 17), (120, 20)], [(121, 21)], [(11, 0), (122, 22)], [(123, 23), (122, 22)], [(2, 0), (122, 22)], [(125, 25), (122, 22)], [(126, 26), (122, 22)], [(124, 24), (127, 27), (122, 22)], [(122, 22), (128, 28)], [(129, 29)], [(2, 0), (130, 30)], [(131, 31), (130, 30)], [(11, 0), (130, 30)], [(133, 33), (130, 30)], [(132, 32), (134, 34), (130, 30)], [(135, 35), (130, 30)], [(136, 36), (130, 30)], [(130, 30), (137, 37)]], rh := rL [[], [(1, 0)], [], [(3, 0)], [], [], [], [], [(1, 0)], [], [], [], [(3, 0)], [], [], [], [], [], [(3, 0)], [], [], [], [], [(3, 0)], [], [(0, 0)], [], [], [], [], [], [(0, 0)], [], [(3, 0)]], V := fun i g => gA undef [.pointer (some ⟨b2, 0, none⟩), .slice p1_0 ((a1.n).length) c1_0, .pointer (some ⟨b27, 0, none⟩), .agg #[.int .i64 x26.k.s, .int .i64 x26.k.p], .int .i64 x28, .bool (decide (x28 < 0)), .bool (decide (x28 < 0)), .pointer (some ⟨b2, 1, none⟩), .slice p1_1 ((a1.w).length) c1_1, .int .i64 v24, .slice p1_1 ((x30).length) c1_1, .pointer (some ⟨b27, 0, none⟩), .agg #[.int .i64 x26.k.s, .int .i64 x26.k.p], .int .i64 x31, .bool (decide (0 ≤ x31)), .bool y29, .bool y29, .pointer (some ⟨b27, 2, none⟩), .int .i64 x26.fr, .bool (decide (x26.fr < 0)), .bool y32, .bool y32, .pointer (some ⟨b27, 2, none⟩), .int .i64 x26.fr, .pointer (some ⟨b1, 1, none⟩), .slice p0_1 ((a0.f).length) c0_1, .int .i64 ((a0.f).length : Int), .bool (decide (((a0.f).length : Int) ≤ x26.fr)), .bool y33, .bool y33, .pointer (some ⟨b1, 1, none⟩), .slice p0_1 ((a0.f).length) c0_1, .pointer (some ⟨b27, 2, none⟩), .int .i64 x26.fr, .pointer (some ⟨eB p0_1, eO p0_1 + Int.toNat x26.fr * Enc.sz F + 0, none⟩), .pointer (some ⟨eB p0_1, eO p0_1 + Int.toNat x26.fr * Enc.sz F + 0, none⟩), .bool x35.u, .bool y34] i, U := fun _ _ => [], Φ := fun _ _ => True } ?_ ?_
    ·refine ⟨lc rfl rfl fun hs hh => stp_fieldAddr (j := 0) Tryd.underlying53 rfl ts51 rfl (sv hs 3 rfl) rfl, lc rfl rfl fun hs hh => stp_load1 ts51 (sv hs 101 rfl) (Cells.box (id := 1) (hh.get 1 _ rfl) 1 rfl), lc rfl rfl fun hs hh => stp_fieldAddr (j := 0) Tryd.underlying55 rfl ts41 rfl (sv hs 11 rfl) rfl, lc rfl rfl fun hs hh => stp_loadN (us := [_, _]) ts41 (sv hs 103 rfl) (Cells.box (id := 3) (hh.get 3 _ rfl) 2 rfl), ?_, lc rfl rfl fun hs hh => stp_lss (sv hs 105 rfl) rfl, lM, lg rfl rfl 107 hy29 fun hs hh => stp_fieldAddr (j := 1) Tryd.underlying53 rfl ts51 rfl (sv hs 3 rfl) rfl, lg rfl rfl 107 hy29 fun hs hh => stp_load1 ts51 (sv hs 108 rfl) (Cells.box (id := 1) (hh.get 1 _ rfl) 1 rfl), lg rfl rfl 107 hy29 fun hs hh => stp_move (sv hs 10 rfl), lg rfl rfl 107 hy29 fun hs hh => stp_take Tryd.underlying51 ts55 (sv hs 109 rfl) rfl (sv hs 110 rfl) (Rdb.ro hr1_1) e30, lg rfl rfl 107 hy29 fun hs hh => stp_fieldAddr (j := 0) Tryd.underlying55 rfl ts41 rfl (sv hs 11 rfl) rfl, lg rfl rfl 107 hy29 fun hs hh => stp_loadN (us := [_, _]) ts41 (sv hs 112 rfl) (Cells.box (id := 3) (hh.get 3 _ rfl) 2 rfl), ?_, lg rfl rfl 107 hy29 fun hs hh => stp_geq (sv hs 114 rfl) rfl, lc rfl rfl fun hs hh => stp_pick_fB (sv hs 107 rfl) hy29 (sv hs 115 rfl) qy29, lM, lg rfl rfl 117 hy32 fun hs hh => stp_fieldAddr (j := 2) Tryd.underlying55 rfl ts3 rfl (sv hs 11 rfl) rfl, lg rfl rfl 117 hy32 fun hs hh => stp_load1 ts3 (sv hs 118 rfl) (Cells.box (id := 3) (hh.get 3 _ rfl) 1 rfl), lg rfl rfl 117 hy32 fun hs hh => stp_lss (sv hs 119 rfl) rfl, lc rfl rfl fun hs hh => stp_pick_fB (sv hs 117 rfl) hy32 (sv hs 120 rfl) qy32, lM, lg rfl rfl 122 hy33 fun hs hh => stp_fieldAddr (j := 2) Tryd.underlying55 rfl ts3 rfl (sv hs 11 rfl) rfl, lg rfl rfl 122 hy33 fun hs hh => stp_load1 ts3 (sv hs 123 rfl) (Cells.box (id := 3) (hh.get 3 _ rfl) 1 rfl), lg rfl rfl 122 hy33 fun hs hh => stp_fieldAddr (j := 1) Tryd.underlying34 rfl ts32 rfl (sv hs 2 rfl) rfl, lg rfl rfl 122 hy33 fun hs hh => stp_load1 ts32 (sv hs 125 rfl) (Cells.box (id := 0) (hh.get 0 _ rfl) 1 rfl), lg rfl rfl 122 hy33 fun hs hh => stp_len Tryd.underlying32 (sv hs 126 rfl), lg rfl rfl 122 hy33 fun hs hh => stp_geq (sv hs 124 rfl) (sv hs 127 rfl), lc rfl rfl fun hs hh => stp_pick_fB (sv hs 122 rfl) hy33 (sv hs 128 rfl) qy33, lM, lg rfl rfl 130 hy34 fun hs hh => stp_fieldAddr (j := 1) Tryd.underlying34 rfl ts32 rfl (sv hs 2 rfl) rfl, lg rfl rfl 130 hy34 fun hs hh => stp_load1 ts32 (sv hs 131 rfl) (Cells.box (id := 0) (hh.get 0 _ rfl) 1 rfl), lg rfl rfl 130 hy34 fun hs hh => stp_fieldAddr (j := 2) Tryd.underlying55 rfl ts3 rfl (sv hs 11 rfl) rfl, lg rfl rfl 130 hy34 fun hs hh => stp_load1 ts3 (sv hs 133 rfl) (Cells.box (id := 3) (hh.get 3 _ rfl) 1 rfl), lg rfl rfl 130 hy34 fun hs hh => stp_indexAddr Tryd.underlying32 ts71 (by decide) (sv hs 132 rfl) rfl (sv hs 134 rfl) (Rdb.ro hr0_1) e35, lg rfl rfl 130 hy34 fun hs hh => stp_fieldAddr (j := 0) Tryd.underlying71 rfl ts4 rfl (sv hs 135 rfl) rfl, lg rfl rfl 130 hy34 fun hs hh => stp_load1 ts4 (sv hs 136 rfl) (Cells.el (Rdb.ro hr0_1) (by decide) e35 0 1 rfl), lc rfl rfl fun hs hh => stp_pick_fB (sv hs 130 rfl) hy34 (sv hs 137 rfl) qy34, trivial⟩
     ·refine le rfl rfl (fun g hΦ s h hs hh => (stpU_call (fun i => 4 + i) cf40 (fun w hw => c_s_l8Find fl w a1.n x26.k rfl (RO.pass hr1_0 hw) x28 e28) (yB (sv hs 102 rfl) (sv hs 104 rfl)))) ?_
      rintro g _ _ ⟨_, ⟨rfl, rfl⟩, rfl⟩
      exact ⟨⟨[], [], []⟩, trivial, .inr rfl, rfl⟩
     refine loc_eff rfl rfl (fun g hΦ s h hs hh => ⟨(.some (gval_of rfl (sv hs 107 rfl)) hy29), (stpU_call (fun i => 4 + i) cf40 (fun w hw => c_s_l8Find fl w x30 x26.k rfl (RO.pass (RO.take hr1_1 e30) hw) x31 e31) (yB (sv hs 111 rfl) (sv hs 113 rfl)))⟩) ?_
     rintro g _ _ ⟨_, ⟨rfl, rfl⟩, rfl⟩
     exact ⟨⟨[], [], []⟩, trivial, .inr rfl, rfl⟩
    intro g hΦ
    exact kw_join () trivial ⟨rfl, rfl, rfl, rfl, trivial⟩ ⟨rfl, rfl, trivial⟩
   rintro _ -
   dsimp only
   refine kw_nx (cw_cond rfl (fun h36 => ?_) (fun h36 => ?_))
   ·have H1 := cond_t H1 h36
    refine sr (oS rfl (nn (cw_ret (kw_bl_ret (kw_nx_ret (kw_lq_ret (kw_bl_ret (kw_join_ret (kw_nx_ret ?_)))))))))
    obtain rfl := sI H1
    obtain rfl := sI H0
    exact kr Tryd.results116 (rT rfl) [] ⟨rfl, rfl⟩
   have H1 := cond_f H1 h36
   obtain ⟨x37, e37, H1⟩ := bS H1
   exact cw_skip (kw_bl_normal (kw_nx (cw_region (oM rfl (oP e37 rfl (oS rfl (ow_nil (kw_lqS (js := [0, 1]) (fuel, x37) H1 (Nat.lt_succ_self _) ⟨rfl, rfl, rfl, trivial⟩ ⟨0, [1], rfl, rfl, 1, [], rfl, rfl, trivial⟩ (by decide)))))))))
  have H1 := cond_f H1 h25
  refine cw_exit (kw_nx_exit (kw_lq_exit (kw_bl ?_)))
  obtain rfl := sI H1
  exact kw_joinS (js := [0, 1]) v24 rfl ⟨rfl, rfl, rfl, trivial⟩ ⟨0, [1], rfl, rfl, 1, [], rfl, rfl, trivial⟩ (by decide)
 rintro v24 rfl
 dsimp only
 refine kw_nx (sr (oS rfl (nn (cw_ret ?_))))
 obtain rfl := sI H0
 exact kr Tryd.results116 (rT rfl) [] ⟨rfl, rfl⟩

theorem c_s_SystemValid (fl : Nat) (w : World) (a0 : Sy) (hn0_0 : n0_0 = (a0.t.b).length) (hr0_0 : RO w (hkeys []) (RdL p0_0 c0_0 a0.t.b)) (hn0_1 : n0_1 = (a0.t.f).length) (hr0_1 : RO w (hkeys []) (RdL p0_1 c0_1 a0.t.f)) (hn0_2 : n0_2 = (a0.c).length) (hr0_2 : ROD w (hkeys []) p0_2 c0_2 a0.c) (r : Bool) (H0 : s_SystemValid fl a0 = some r) :
  Ct Tryd.prog 66 [.agg #[.slice p0_0 n0_0 c0_0, .slice p0_1 n0_1 c0_1, .slice p0_2 n0_2 c0_2]] w [] (fun rv h' => rv = .bool r ∧ h' = []) := by
 subst hn0_0 hn0_1 hn0_2
 unfold s_SystemValid at H0
 refine ct_of_cw Tryd.func66 rfl Tryd.ntmps66 rfl (Sat.refl _ _) ?_
 refine sr (oE (stpU_box 0 rfl rfl) rfl ?_)
 rintro _ _ ⟨b1, rfl, rfl⟩
 obtain ⟨x2, e2, H0⟩ := bS H0
 refine oS rfl (nn (cw_seq (sr (oA 0 Tryd.underlying37 rfl ts34 rfl (oB2 0 ts34 rfl (oE (stpU_call (fun i => 1 + i) cf115 (fun w hw => c_s_TableValid fl w a0.t rfl (RO.pass hr0_0 hw) rfl (RO.pass hr0_1 hw) x2 e2) (yA rfl)) rfl ?_))))))
 rintro _ _ ⟨_, ⟨rfl, rfl⟩, rfl⟩
 obtain ⟨y3, ey3, H0⟩ := bS H0
 refine oK rfl (oM rfl (ow_cutY 5 13 y3 ?_ ?_))
 ·rcases Bool.eq_false_or_eq_true (!x2) with hy3 | hy3
  ·have ey3 := cond_t ey3 hy3
   refine oO rfl hy3 rfl (oO rfl hy3 rfl (oO rfl hy3 rfl (oO rfl hy3 rfl (oD (stp_pick_t rfl hy3 rfl) rfl ?_))))
   obtain rfl := sI ey3
   exact ow_nil (jy 5 0)
  have ey3 := cond_f ey3 hy3
  refine oG rfl hy3 (fA 2 Tryd.underlying37 rfl ts35 rfl rfl rfl) rfl (oG rfl hy3 (lB 0 ts35 rfl rfl rfl) rfl (oG rfl hy3 (stp_len Tryd.underlying35 rfl) rfl (oG rfl hy3 (stp_lss rfl rfl) rfl (oD (stp_pick_f rfl hy3 rfl) rfl ?_))))
  obtain rfl := sI ey3
  exact ow_nil (jy 5 0)
 obtain ⟨y4, ey4, H0⟩ := bS H0
 refine oM rfl (ow_cutY 5 19 y4 ?_ ?_)
 ·rcases Bool.eq_false_or_eq_true y3 with hy4 | hy4
  ·have ey4 := cond_t ey4 hy4
   refine oO rfl hy4 rfl (oO rfl hy4 rfl (oO rfl hy4 rfl (oO rfl hy4 rfl (oD (stp_pick_t rfl hy4 rfl) rfl ?_))))
   obtain rfl := sI ey4
   exact ow_nil (jy 5 0)
  have ey4 := cond_f ey4 hy4
  refine oG rfl hy4 (fA 2 Tryd.underlying37 rfl ts35 rfl rfl rfl) rfl (oG rfl hy4 (lB 0 ts35 rfl rfl rfl) rfl (oG rfl hy4 (stp_len Tryd.underlying35 rfl) rfl (oG rfl hy4 (stp_gtr rfl rfl) rfl (oD (stp_pick_f rfl hy4 rfl) rfl ?_))))
  obtain rfl := sI ey4
  exact ow_nil (jy 5 0)
 refine ow_nil (kw_nx (cw_cond rfl (fun h5 => ?_) (fun h5 => ?_)))
 ·have H0 := cond_t H0 h5
  refine sr (oS rfl (nn (cw_ret (kw_nx_ret ?_))))
  obtain rfl := sI H0
  exact kr Tryd.results66 (rT rfl) [] ⟨rfl, rfl⟩
 have H0 := cond_f H0 h5
 obtain ⟨o0_0, eo0_0, H0⟩ := bS H0
 refine cw_skip (kw_nx (cw_seq (sr (oS rfl (nn (cw_join (ι := Int) (fun | v6 => o0_0 = .out v6) (fun | v6 => [(1, .pointer (some ⟨b1, 0, none⟩)), (3, .int .i64 v6)]) (fun | v6 => [(0, [(b1, .cells #[.slice p0_0 ((a0.t.b).length) c0_0, .slice p0_1 ((a0.t.f).length) c0_1, .slice p0_2 ((a0.c).length) c0_2] 37 (0, 0))])]) ?_ ?_))))))
 ·refine cw_block (cw_loopS (ι := Nat × Int) (js := [0]) (fun x => x.1) (fun | (fuel, v6) => s_SystemValid_L0 fl a0 fuel v6 = some o0_0) (fun | (_, v6) => [(1, .pointer (some ⟨b1, 0, none⟩)), (3, .int .i64 v6)]) (fun | (_, v6) => [(0, [(b1, .cells #[.slice p0_0 ((a0.t.b).length) c0_0, .slice p0_1 ((a0.t.f).length) c0_1, .slice p0_2 ((a0.c).length) c0_2] 37 (0, 0))])]) (fl, 0) eo0_0 ⟨rfl, rfl, trivial⟩ ⟨0, [], rfl, rfl, trivial⟩ (by decide) ?_)
  rintro ⟨fuel, v6⟩ H1
  have H1 : s_SystemValid_L0 fl a0 fuel v6 = some o0_0 := H1
  rcases fuel with _ | fuel
  ·rw [s_SystemValid_L0.eq_1] at H1; cases H1
  rw [s_SystemValid_L0.eq_2] at H1
  dsimp only
  refine cw_seq (sr (oM rfl (oA 2 Tryd.underlying37 rfl ts35 rfl (oL 0 ts35 rfl (oD (stp_len Tryd.underlying35 rfl) rfl (oW rfl (nn (cw_cond rfl (fun h7 => ?_) (fun h7 => ?_)))))))))
  ·have H1 := cond_t H1 h7
   obtain ⟨x8, e8, H1⟩ := bS H1
   refine cw_skip (kw_nx (cw_seq (cw_block (cw_seq ?_))))
   obtain ⟨u9, p10, n11, c12, p13, n14, c15, hw9, hl9, hx9, rfl, hr9, rfl, hs9⟩ := ROD.get hr0_2 e8
   obtain ⟨x16, e16, H1⟩ := bS H1
   refine rdq g_mixed [1, 3] [0] { dst := dS [28, 29, 30, 31, 32, 33, 34, 35, 36], pre := gA [] [[], [0], [], [2], [], [2, 3, 4], rn 2 4, rn 0 7, rn 0 8], ids := fun _ => [], rs := rL [[(1, 0)], [(27, 1)], [(1, 0)], [(29, 3)], [(3, 0)], [(30, 4), (31, 5)], [(32, 6)], [(28, 2), (33, 7)], [(34, 8)]], rh := rL [[], [(0, 0)], [], [(0, 0)]], V := fun i g => gA undef [.pointer (some ⟨b1, 0, none⟩), .agg #[.slice p0_0 ((a0.t.b).length) c0_0, .slice p0_1 ((a0.t.f).length) c0_1], .pointer (some ⟨b1, 2, none⟩), .slice p0_2 ((a0.c).length) c0_2, .int .i64 v6, .pointer (some ⟨eB p0_2, eO p0_2 + Int.toNat v6 * Enc.sz CpS + 0, none⟩), .agg #[.slice p10 ((x8.n).length) c12, .slice p13 ((x8.w).length) c15], .bool x16, .bool (!x16)] i, U := fun _ _ => [], Φ := fun _ _ => True } ?_ ?_
   ·refine ⟨lc rfl rfl fun hs hh => stp_fieldAddr (j := 0) Tryd.underlying37 rfl ts34 rfl (sv hs 1 rfl) rfl, lc rfl rfl fun hs hh => stp_loadN (us := [_, _]) ts34 (sv hs 27 rfl) (Cells.box (id := 0) (hh.get 0 _ rfl) 2 rfl), lc rfl rfl fun hs hh => stp_fieldAddr (j := 2) Tryd.underlying37 rfl ts35 rfl (sv hs 1 rfl) rfl, lc rfl rfl fun hs hh => stp_load1 ts35 (sv hs 29 rfl) (Cells.box (id := 0) (hh.get 0 _ rfl) 1 rfl), lM, lc rfl rfl fun hs hh => stp_indexAddr Tryd.underlying35 ts53 (by decide) (sv hs 30 rfl) hl9 (sv hs 31 rfl) (Rdb.ro hw9) hx9, lc rfl rfl fun hs hh => stp_loadN (us := [_, _]) ts53 (sv hs 32 rfl) (Cells.el (Rdb.ro hw9) (by decide) hx9 0 2 rfl), ?_, lc rfl rfl fun hs hh => stp_not (sv hs 34 rfl), trivial⟩
    refine le rfl rfl (fun g hΦ s h hs hh => (stpU_call (fun i => 1 + i) cf116 (fun w hw => c_s_l8Cpu fl w a0.t x8 rfl (RO.pass hr0_0 hw) rfl (RO.pass hr0_1 hw) rfl (RO.pass hr9 hw) rfl (RO.pass hs9 hw) x16 e16) (yB (sv hs 28 rfl) (sv hs 33 rfl)))) ?_
    rintro g _ _ ⟨_, ⟨rfl, rfl⟩, rfl⟩
    exact ⟨⟨[], [], []⟩, trivial, .inr rfl, rfl⟩
   intro g hΦ
   refine KW.sub (s' := [(1, .pointer (some ⟨b1, 0, none⟩)), (3, .int .i64 v6), (35, .bool (!x16))]) (h' := [(0, [(b1, .cells #[.slice p0_0 ((a0.t.b).length) c0_0, .slice p0_1 ((a0.t.f).length) c0_1, .slice p0_2 ((a0.c).length) c0_2] 37 (0, 0))])]) ?_ ⟨rfl, rfl, rfl, trivial⟩ ⟨rfl, trivial⟩
   refine kw_nx (cw_cond rfl (fun h17 => ?_) (fun h17 => ?_))
   ·have H1 := cond_t H1 h17
    refine sr (oS rfl (nn (cw_ret (kw_bl_ret (kw_nx_ret (kw_lq_ret (kw_bl_ret (kw_join_ret (kw_nx_ret ?_)))))))))
    obtain rfl := sI H1
    obtain rfl := sI H0
    exact kr Tryd.results66 (rT rfl) [] ⟨rfl, rfl⟩
   have H1 := cond_f H1 h17
   obtain ⟨x18, e18, H1⟩ := bS H1
   exact cw_skip (kw_bl_normal (kw_nx (cw_region (oM rfl (oP e18 rfl (oS rfl (ow_nil (kw_lqS (js := [0]) (fuel, x18) H1 (Nat.lt_succ_self _) ⟨rfl, rfl, trivial⟩ ⟨0, [], rfl, rfl, trivial⟩ (by decide)))))))))
  have H1 := cond_f H1 h7
  refine cw_exit (kw_nx_exit (kw_lq_exit (kw_bl ?_)))
  obtain rfl := sI H1
  exact kw_joinS (js := [0]) v6 rfl ⟨rfl, rfl, trivial⟩ ⟨0, [], rfl, rfl, trivial⟩ (by decide)
 rintro v6 rfl
 dsimp only
 refine kw_nx (sr (oS rfl (nn (cw_ret ?_))))
 obtain rfl := sI H0
 exact kr Tryd.results66 (rT rfl) [] ⟨rfl, rfl⟩

theorem c_i_TableValid (fl : Nat) (w : World) (a0 : T) (hn0_0 : n0_0 = (a0.b).length) (hr0_0 : RO w (hkeys []) (RdL p0_0 c0_0 a0.b)) (hn0_1 : n0_1 = (a0.f).length) (hr0_1 : RO w (hkeys []) (RdL p0_1 c0_1 a0.f)) (hg : RO w (hkeys []) (fun w' => w'.rangeAt 0 0 [.bool false, .int .i64 0, .int .i64 0, .int .i64 0, .int .i64 (-1)])) (r : Bool) (H0 : i_TableValid fl a0 = some r) :
    Ct Tryd.prog 74 [.agg #[.slice p0_0 n0_0 c0_0, .slice p0_1 n0_1 c0_1]] w [] (fun rv h' => rv = .bool r ∧ h' = []) := by
  obtain rfl := hn0_0
  obtain rfl := hn0_1
  unfold i_TableValid at H0
  obtain rfl := Option.some.inj H0
  exact ct_of_calls (tableValid_c _ a0 w ⟨_, _, rfl, (hr0_0 w (Fr.refl _ _)).rd, (hr0_1 w (Fr.refl _ _)).rd⟩ (freeG_of (hg w (Fr.refl _ _))))

theorem c_i_within (fl : Nat) (w : World) (a0 : Int) (a1 : Int) (r : Bool) (H0 : i_within fl a0 a1 = some r) :
  Ct Tryd.prog 76 [.int .i64 a0, .int .i64 a1] w [] (fun rv h' => rv = .bool r ∧ h' = []) := by
 unfold i_within at H0
 refine ct_of_cw Tryd.func76 rfl Tryd.ntmps76 rfl (Sat.refl _ _) ?_
 obtain ⟨y1, ey1, H0⟩ := bS H0
 refine sr (oS rfl (nn (sr (oM rfl (oI rfl (oM rfl (ow_cutY 4 11 y1 ?_ ?_)))))))
 ·rcases Bool.eq_false_or_eq_true (decide (0 ≤ a0)) with hy1 | hy1
  ·have ey1 := cond_t ey1 hy1
   refine oG rfl hy1 (mv rfl) rfl (oG rfl hy1 (mv rfl) rfl (oG rfl hy1 (stp_lss rfl rfl) rfl (oD (stp_pick_t rfl hy1 rfl) rfl ?_)))
   obtain rfl := sI ey1
   exact ow_nil (jy 4 0)
  have ey1 := cond_f ey1 hy1
  refine oO rfl hy1 rfl (oO rfl hy1 rfl (oO rfl hy1 rfl (oD (stp_pick_f rfl hy1 rfl) rfl ?_)))
  obtain rfl := sI ey1
  exact ow_nil (jy 4 0)
 refine oS rfl (nn (cw_ret ?_))
 obtain rfl := sI H0
 exact kr Tryd.results76 (rT rfl) [] ⟨rfl, rfl⟩

theorem c_i_KeyValid (fl : Nat) (w : World) (a0 : K) (r : Bool) (H0 : i_KeyValid fl a0 = some r) :
  Ct Tryd.prog 46 [.agg #[.int .i64 a0.s, .int .i64 a0.p]] w [] (fun rv h' => rv = .bool r ∧ h' = []) := by
 unfold i_KeyValid at H0
 refine ct_of_cw Tryd.func46 rfl Tryd.ntmps46 rfl (Sat.refl _ _) ?_
 refine sr (oE (stpU_box 0 rfl rfl) rfl ?_)
 rintro _ _ ⟨b1, rfl, rfl⟩
 obtain ⟨x2, e2, H0⟩ := bS H0
 refine oS rfl (nn (sr (oA 0 Tryd.underlying41 rfl ts3 rfl (oL 0 ts3 rfl (oE (stpU_call (fun i => 1 + i) cf76 (fun w hw => c_i_within fl w a0.s 16 x2 e2) (yB rfl rfl)) rfl ?_)))))
 rintro _ _ ⟨_, ⟨rfl, rfl⟩, rfl⟩
 obtain ⟨y3, ey3, H0⟩ := bS H0
 refine oM rfl (ow_cutY 4 10 y3 ?_ ?_)
 ·rcases Bool.eq_false_or_eq_true x2 with hy3 | hy3
  ·have ey3 := cond_t ey3 hy3
   obtain ⟨x4, e4, ey3⟩ := bS ey3
   refine oG rfl hy3 (fA 1 Tryd.underlying41 rfl ts3 rfl rfl rfl) rfl (oG rfl hy3 (lB 0 ts3 rfl rfl rfl) rfl (ow_eff (.some rfl hy3) (stpU_call (fun i => 1 + i) cf76 (fun w hw => c_i_within fl w a0.p 256 x4 e4) (yB rfl rfl)) rfl ?_))
   rintro _ _ ⟨_, ⟨rfl, rfl⟩, rfl⟩
   refine oD (stp_pick_t rfl hy3 rfl) rfl ?_
   obtain rfl := sI ey3
   exact ow_nil (jy 4 0)
  have ey3 := cond_f ey3 hy3
  refine oO rfl hy3 rfl (oO rfl hy3 rfl (oO rfl hy3 rfl (oD (stp_pick_f rfl hy3 rfl) rfl ?_)))
  obtain rfl := sI ey3
  exact ow_nil (jy 4 0)
 refine oS rfl (nn (cw_ret ?_))
 obtain rfl := sI H0
 exact kr Tryd.results46 (rT rfl) [] ⟨rfl, rfl⟩

theorem c_i_noteOf_1 (fl : Nat) (w : World) (a0 : Nt) (qc0 : Nat) (ac0 : K) (hbac0 : RO w (hkeys []) (fun w' => w'.rangeAt qc0 0 [.int .i64 ac0.s, .int .i64 ac0.p])) (r : Bool) (H0 : i_noteOf_1 fl a0 ac0 = some r) :
  Ct Tryd.prog 98 [.agg #[.int .i64 a0.k.s, .int .i64 a0.k.p, .int .i64 a0.fr], .pointer (some ⟨qc0, 0, none⟩)] w [] (fun rv h' => rv = .bool r ∧ h' = []) := by
 unfold i_noteOf_1 at H0
 refine ct_of_cw Tryd.func98 rfl Tryd.ntmps98 rfl (Sat.refl _ _) ?_
 refine sr (oE (stpU_box 0 rfl rfl) rfl ?_)
 rintro _ _ ⟨b1, rfl, rfl⟩
 refine oS rfl (nn (sr (oA 0 Tryd.underlying55 rfl ts41 rfl (oB2 0 ts41 rfl (oD (stp_loadN (us := [_, _]) ts41 rfl (Cells.ofRO hbac0 2 rfl)) rfl (oD (stp_eqlS te41 a0.k ac0 rfl rfl) rfl (oS rfl (nn (cw_ret ?_)))))))))
 obtain rfl := sI H0
 exact kr Tryd.results98 (rT rfl) [] ⟨rfl, rfl⟩

theorem c_slices_IndexFunc_Note_of_i_noteOf_1 (fl : Nat) (w : World) (a0 : (List Nt)) (q1_0 : Nat) (a1_0 : K) (hn0_0 : n0_0 = (a0).length) (hr0_0 : RO w (hkeys []) (RdL p0_0 c0_0 a0)) (hba1_0 : RO w (hkeys []) (fun w' => w'.rangeAt q1_0 0 [.int .i64 a1_0.s, .int .i64 a1_0.p])) (r : Int) (H0 : slices_IndexFunc_Note_of_i_noteOf_1 fl a0 a1_0 = some r) :
  Ct Tryd.prog 97 [.slice p0_0 n0_0 c0_0, .func (.func 98) #[] #[.pointer (some ⟨q1_0, 0, none⟩)]] w [] (fun rv h' => rv = .int .i64 r ∧ h' = []) := by
 subst hn0_0
 unfold slices_IndexFunc_Note_of_i_noteOf_1 at H0
 refine ct_of_cw Tryd.func97 rfl Tryd.ntmps97 rfl (Sat.refl _ _) ?_
 obtain ⟨o0_0, eo0_0, H0⟩ := bS H0
 refine sr (oS rfl (nn (cw_seq (sr (oM rfl (oD (stp_len Tryd.underlying51 rfl) rfl (oM rfl (nn (cw_join (ι := Int) (fun | v1 => o0_0 = .out v1) (fun | v1 => [(0, .slice p0_0 ((a0).length) c0_0), (1, .func (.func 98) #[] #[.pointer (some ⟨q1_0, 0, none⟩)]), (7, .int .i64 ((a0).length : Int)), (8, .int .i64 v1)]) (fun | v1 => []) ?_ ?_)))))))))
 ·refine cw_block (cw_loopS (ι := Nat × Int) (js := []) (fun x => x.1) (fun | (fuel, v1) => slices_IndexFunc_Note_of_i_noteOf_1_L0 fl a0 a1_0 fuel v1 = some o0_0) (fun | (_, v1) => [(0, .slice p0_0 ((a0).length) c0_0), (1, .func (.func 98) #[] #[.pointer (some ⟨q1_0, 0, none⟩)]), (7, .int .i64 ((a0).length : Int)), (8, .int .i64 v1)]) (fun | (_, v1) => []) (fl, 0) eo0_0 ⟨rfl, rfl, rfl, rfl, trivial⟩ trivial (by decide) ?_)
  rintro ⟨fuel, v1⟩ H1
  have H1 : slices_IndexFunc_Note_of_i_noteOf_1_L0 fl a0 a1_0 fuel v1 = some o0_0 := H1
  rcases fuel with _ | fuel
  ·rw [slices_IndexFunc_Note_of_i_noteOf_1_L0.eq_1] at H1; cases H1
  rw [slices_IndexFunc_Note_of_i_noteOf_1_L0.eq_2] at H1
  dsimp only
  refine sr (oW rfl (nn (cw_seq (cw_cond rfl (fun h2 => ?_) (fun h2 => ?_)))))
  ·have H1 := cond_t H1 h2
   obtain ⟨x3, e3, H1⟩ := bS H1
   refine cw_skip (kw_nx (cw_seq (cw_block (sr (oM rfl (oS rfl (nn (sr (oM rfl (oM rfl (oM rfl (oD (stp_indexAddr Tryd.underlying51 ts55 (by decide) rfl rfl rfl (Rdb.ro hr0_0) e3) rfl (oD (stp_loadN (us := [_, _, _]) ts55 rfl (Cells.el (Rdb.ro hr0_0) (by decide) e3 0 3 rfl)) rfl ?_)))))))))))))
   obtain ⟨x4, e4, H1⟩ := bS H1
   refine oE (stpU_callF (vals := [_]) (ca := [_]) (fun i => 0 + i) cf98 (fun w hw => c_i_noteOf_1 fl w x3 q1_0 a1_0 (RO.pass hba1_0 hw) x4 e4) rfl (yA rfl)) rfl ?_
   rintro _ _ ⟨_, ⟨rfl, rfl⟩, rfl⟩
   refine nn (cw_cond rfl (fun h5 => ?_) (fun h5 => ?_))
   ·have H1 := cond_t H1 h5
    refine sr (oM rfl (oS rfl (nn (cw_ret (kw_bl_ret (kw_nx_ret (kw_lq_ret (kw_bl_ret (kw_join_ret (kw_nx_ret ?_))))))))))
    obtain rfl := sI H1
    obtain rfl := sI H0
    exact kr Tryd.results97 (rT rfl) [] ⟨rfl, rfl⟩
   have H1 := cond_f H1 h5
   obtain ⟨x6, e6, H1⟩ := bS H1
   exact cw_skip (kw_bl_normal (kw_nx (cw_region (oP e6 rfl (oM rfl (ow_nil (kw_lqS (js := []) (fuel, x6) H1 (Nat.lt_succ_self _) ⟨rfl, rfl, rfl, rfl, trivial⟩ trivial (by decide))))))))
  have H1 := cond_f H1 h2
  refine cw_exit (kw_nx_exit (kw_lq_exit (kw_bl ?_)))
  obtain rfl := sI H1
  exact kw_joinS (js := []) v1 rfl ⟨rfl, rfl, rfl, rfl, trivial⟩ trivial (by decide)
 rintro v1 rfl
 dsimp only
 refine kw_nx (sr (oS rfl (nn (cw_ret ?_))))
 obtain rfl := sI H0
 exact kr Tryd.results97 (rT rfl) [] ⟨rfl, rfl⟩

theorem c_i_noteOf (fl : Nat) (w : World) (a0 : (List Nt)) (a1 : K) (hn0_0 : n0_0 = (a0).length) (hr0_0 : RO w (hkeys []) (RdL p0_0 c0_0 a0)) (r : Int) (H0 : i_noteOf fl a0 a1 = some r) :
  Ct Tryd.prog 48 [.slice p0_0 n0_0 c0_0, .agg #[.int .i64 a1.s, .int .i64 a1.p]] w [] (fun rv h' => rv = .int .i64 r ∧ h' = []) := by
 subst hn0_0
 unfold i_noteOf at H0
 refine ct_of_cw Tryd.func48 rfl Tryd.ntmps48 rfl (Sat.refl _ _) ?_
 refine sr (oE (stpU_box 0 rfl rfl) rfl ?_)
 rintro _ _ ⟨b1, rfl, rfl⟩
 obtain ⟨x2, e2, H0⟩ := bS H0
 refine oS rfl (nn (sr (oM rfl (oD (stp_makeFunc (yA rfl)) rfl (oE (stpU_call (fun i => 1 + i) cf97 (fun w hw => c_slices_IndexFunc_Note_of_i_noteOf_1 fl w a0 b1 a1 rfl (RO.pass hr0_0 hw) (box_pass (id := 0) rfl hw) x2 e2) (yB rfl rfl)) rfl ?_)))))
 rintro _ _ ⟨_, ⟨rfl, rfl⟩, rfl⟩
 refine oS rfl (nn (cw_ret ?_))
 obtain rfl := sI H0
 exact kr Tryd.results48 (rT rfl) [] ⟨rfl, rfl⟩

theorem c_i_each (fl : Nat) (w : World) (a0 : (List Nt)) (hn0_0 : n0_0 = (a0).length) (hr0_0 : RO w (hkeys []) (RdL p0_0 c0_0 a0)) (r : Bool) (H0 : i_each fl a0 = some r) :
  Ct Tryd.prog 75 [.slice p0_0 n0_0 c0_0] w [] (fun rv h' => rv = .bool r ∧ h' = []) := by
 subst hn0_0
 unfold i_each at H0
 refine ct_of_cw Tryd.func75 rfl Tryd.ntmps75 rfl (Sat.refl _ _) ?_
 obtain ⟨o0_0, eo0_0, H0⟩ := bS H0
 refine sr (oS rfl (nn (cw_seq (sr (oM rfl (oD (stp_len Tryd.underlying51 rfl) rfl (oM rfl (nn (cw_join (ι := Int) (fun | v1 => o0_0 = .out v1) (fun | v1 => [(0, .slice p0_0 ((a0).length) c0_0), (5, .slice p0_0 ((a0).length) c0_0), (6, .int .i64 ((a0).length : Int)), (7, .int .i64 v1)]) (fun | v1 => []) ?_ ?_)))))))))
 ·refine cw_block (cw_loopS (ι := Nat × Int) (js := []) (fun x => x.1) (fun | (fuel, v1) => i_each_L0 fl a0 fuel v1 = some o0_0) (fun | (_, v1) => [(0, .slice p0_0 ((a0).length) c0_0), (5, .slice p0_0 ((a0).length) c0_0), (6, .int .i64 ((a0).length : Int)), (7, .int .i64 v1)]) (fun | (_, v1) => []) (fl, 0) eo0_0 ⟨rfl, rfl, rfl, rfl, trivial⟩ trivial (by decide) ?_)
  rintro ⟨fuel, v1⟩ H1
  have H1 : i_each_L0 fl a0 fuel v1 = some o0_0 := H1
  rcases fuel with _ | fuel
  ·rw [i_each_L0.eq_1] at H1; cases H1
  rw [i_each_L0.eq_2] at H1
  dsimp only
  refine sr (oW rfl (nn (cw_seq (cw_cond rfl (fun h2 => ?_) (fun h2 => ?_)))))
  ·have H1 := cond_t H1 h2
   obtain ⟨x3, e3, H1⟩ := bS H1
   refine cw_skip (kw_nx (cw_seq (cw_block (sr (oM rfl (oD (stp_indexAddr Tryd.underlying51 ts55 (by decide) rfl rfl rfl (Rdb.ro hr0_0) e3) rfl (oD (stp_loadN (us := [_, _, _]) ts55 rfl (Cells.el (Rdb.ro hr0_0) (by decide) e3 0 3 rfl)) rfl (oE (stpU_alloc 0 tz55 rfl) rfl ?_))))))))
   rintro _ _ ⟨b4, rfl, rfl⟩
   obtain ⟨x5, e5, H1⟩ := bS H1
   obtain ⟨y6, ey6, H1⟩ := bS H1
   refine oS rfl (oC3 0 ts55 rfl rfl (nn (cw_seq (cw_join (ι := Unit) (fun | _ => True) (fun | _ => [(0, .slice p0_0 ((a0).length) c0_0), (5, .slice p0_0 ((a0).length) c0_0), (6, .int .i64 ((a0).length : Int)), (7, .int .i64 v1), (24, .bool y6)]) (fun | _ => []) ?_ ?_))))
   ·rcases Bool.eq_false_or_eq_true (!x5) with hy6 | hy6
    ·have ey6 := cond_t ey6 hy6
     have qy6 := sI ey6
     refine rdq g_mixed [4] [0] { dst := dS [13, 14, 15, 16, 17, 18, 19, 20, 21, 22, 23, 24, 25], pre := gA [] [[], [0], [0, 1], [0, 1, 2], rn 0 4, rn 0 5, rn 0 5, rn 0 7, rn 0 5, [0, 1, 2, 3, 4, 8], rn 0 10, rn 0 11, rn 0 12], ids := fun _ => [], rs := rL [[(4, 0)], [(12, 1)], [(13, 2)], [(14, 3)], [(15, 4)], [(16, 5)], [(16, 5)], [(16, 5)], [(16, 5)], [(16, 5)], [(16, 5)], [(16, 5)], [(16, 5), (23, 12)]], rh := rL [[], [(0, 0)]], V := fun i g => gA undef [.pointer (some ⟨b4, 0, none⟩), .agg #[.int .i64 x3.k.s, .int .i64 x3.k.p], .bool x5, .bool (!x5), .bool (!x5), undef, undef, undef, undef, undef, undef, undef, .bool y6] i, U := fun _ _ => [], Φ := fun _ _ => True } ?_ ?_
     ·refine ⟨lc rfl rfl fun hs hh => stp_fieldAddr (j := 0) Tryd.underlying55 rfl ts41 rfl (sv hs 4 rfl) rfl, lc rfl rfl fun hs hh => stp_loadN (us := [_, _]) ts41 (sv hs 12 rfl) (Cells.box (id := 0) (hh.get 0 _ rfl) 2 rfl), ?_, lc rfl rfl fun hs hh => stp_not (sv hs 14 rfl), lM, lo rfl rfl 16 hy6, lo rfl rfl 16 hy6, lo rfl rfl 16 hy6, lo rfl rfl 16 hy6, lo rfl rfl 16 hy6, lo rfl rfl 16 hy6, lo rfl rfl 16 hy6, lc rfl rfl fun hs hh => stp_pick_tB (sv hs 16 rfl) hy6 rfl qy6, trivial⟩
      refine le rfl rfl (fun g hΦ s h hs hh => (stpU_call (fun i => 1 + i) cf46 (fun w hw => c_i_KeyValid fl w x3.k x5 e5) (yA (sv hs 13 rfl)))) ?_
      rintro g _ _ ⟨_, ⟨rfl, rfl⟩, rfl⟩
      exact ⟨⟨[], [], []⟩, trivial, .inr rfl, rfl⟩
     intro g hΦ
     exact kw_join () trivial ⟨rfl, rfl, rfl, rfl, rfl, trivial⟩ trivial
    have ey6 := cond_f ey6 hy6
    obtain ⟨x7, e7, ey6⟩ := bS ey6
    obtain ⟨x8, e8, ey6⟩ := bS ey6
    have qy6 := sI ey6
    refine rdq g_mixed [0, 3, 4] [0] { dst := dS [13, 14, 15, 16, 17, 18, 19, 20, 21, 22, 23, 24, 25], pre := gA [] [[], [0], [0, 1], [0, 1, 2], rn 0 4, rn 0 5, rn 0 5, rn 0 7, rn 0 5, [0, 1, 2, 3, 4, 8], rn 0 10, rn 0 11, rn 0 12], ids := fun _ => [], rs := rL [[(4, 0)], [(12, 1)], [(13, 2)], [(14, 3)], [(15, 4)], [(0, 0), (16, 5)], [(3, 0), (16, 5)], [(17, 6), (18, 7), (16, 5)], [(4, 0), (16, 5)], [(20, 9), (16, 5)], [(19, 8), (21, 10), (16, 5)], [(22, 11), (16, 5)], [(16, 5), (23, 12)]], rh := rL [[], [(0, 0)], [], [], [], [], [], [], [], [(0, 0)]], V := fun i g => gA undef [.pointer (some ⟨b4, 0, none⟩), .agg #[.int .i64 x3.k.s, .int .i64 x3.k.p], .bool x5, .bool (!x5), .bool (!x5), .slice p0_0 ((a0).length) c0_0, .int .i64 v1, .slice p0_0 ((x7).length) c0_0, .pointer (some ⟨b4, 0, none⟩), .agg #[.int .i64 x3.k.s, .int .i64 x3.k.p], .int .i64 x8, .bool (decide (0 ≤ x8)), .bool y6] i, U := fun _ _ => [], Φ := fun _ _ => True } ?_ ?_
    ·refine ⟨lc rfl rfl fun hs hh => stp_fieldAddr (j := 0) Tryd.underlying55 rfl ts41 rfl (sv hs 4 rfl) rfl, lc rfl rfl fun hs hh => stp_loadN (us := [_, _]) ts41 (sv hs 12 rfl) (Cells.box (id := 0) (hh.get 0 _ rfl) 2 rfl), ?_, lc rfl rfl fun hs hh => stp_not (sv hs 14 rfl), lM, lg rfl rfl 16 hy6 fun hs hh => stp_move (sv hs 0 rfl), lg rfl rfl 16 hy6 fun hs hh => stp_move (sv hs 3 rfl), lg rfl rfl 16 hy6 fun hs hh => stp_take Tryd.underlying51 ts55 (sv hs 17 rfl) rfl (sv hs 18 rfl) (Rdb.ro hr0_0) e7, lg rfl rfl 16 hy6 fun hs hh => stp_fieldAddr (j := 0) Tryd.underlying55 rfl ts41 rfl (sv hs 4 rfl) rfl, lg rfl rfl 16 hy6 fun hs hh => stp_loadN (us := [_, _]) ts41 (sv hs 20 rfl) (Cells.box (id := 0) (hh.get 0 _ rfl) 2 rfl), ?_, lg rfl rfl 16 hy6 fun hs hh => stp_geq (sv hs 22 rfl) rfl, lc rfl rfl fun hs hh => stp_pick_fB (sv hs 16 rfl) hy6 (sv hs 23 rfl) qy6, trivial⟩
     ·refine le rfl rfl (fun g hΦ s h hs hh => (stpU_call (fun i => 1 + i) cf46 (fun w hw => c_i_KeyValid fl w x3.k x5 e5) (yA (sv hs 13 rfl)))) ?_
      rintro g _ _ ⟨_, ⟨rfl, rfl⟩, rfl⟩
      exact ⟨⟨[], [], []⟩, trivial, .inr rfl, rfl⟩
     refine loc_eff rfl rfl (fun g hΦ s h hs hh => ⟨(.some (gval_of rfl (sv hs 16 rfl)) hy6), (stpU_call (fun i => 1 + i) cf48 (fun w hw => c_i_noteOf fl w x7 x3.k rfl (RO.pass (RO.take hr0_0 e7) hw) x8 e8) (yB (sv hs 19 rfl) (sv hs 21 rfl)))⟩) ?_
     rintro g _ _ ⟨_, ⟨rfl, rfl⟩, rfl⟩
     exact ⟨⟨[], [], []⟩, trivial, .inr rfl, rfl⟩
    intro g hΦ
    exact kw_join () trivial ⟨rfl, rfl, rfl, rfl, rfl, trivial⟩ trivial
   rintro _ -
   dsimp only
   refine kw_nx (cw_cond rfl (fun h9 => ?_) (fun h9 => ?_))
   ·have H1 := cond_t H1 h9
    refine sr (oS rfl (nn (cw_ret (kw_bl_ret (kw_nx_ret (kw_lq_ret (kw_bl_ret (kw_join_ret (kw_nx_ret ?_)))))))))
    obtain rfl := sI H1
    obtain rfl := sI H0
    exact kr Tryd.results75 (rT rfl) [] ⟨rfl, rfl⟩
   have H1 := cond_f H1 h9
   obtain ⟨x10, e10, H1⟩ := bS H1
   exact cw_skip (kw_bl_normal (kw_nx (cw_region (oP e10 rfl (oM rfl (ow_nil (kw_lqS (js := []) (fuel, x10) H1 (Nat.lt_succ_self _) ⟨rfl, rfl, rfl, rfl, trivial⟩ trivial (by decide))))))))
  have H1 := cond_f H1 h2
  refine cw_exit (kw_nx_exit (kw_lq_exit (kw_bl ?_)))
  obtain rfl := sI H1
  exact kw_joinS (js := []) v1 rfl ⟨rfl, rfl, rfl, rfl, trivial⟩ trivial (by decide)
 rintro v1 rfl
 dsimp only
 refine kw_nx (sr (oM rfl (oD (stp_len Tryd.underlying51 rfl) rfl (oV rfl (oS rfl (nn (cw_ret ?_)))))))
 obtain rfl := sI H0
 exact kr Tryd.results75 (rT rfl) [] ⟨rfl, rfl⟩

theorem c_i_Table_find_1 (fl : Nat) (w : World) (a0 : F) (qc0 : Nat) (ac0 : K) (hbac0 : RO w (hkeys []) (fun w' => w'.rangeAt qc0 0 [.int .i64 ac0.s, .int .i64 ac0.p])) (r : Bool) (H0 : i_Table_find_1 fl a0 ac0 = some r) :
  Ct Tryd.prog 100 [.agg #[.bool a0.u, .int .i64 a0.k.s, .int .i64 a0.k.p, .int .i64 a0.r, .int .i64 a0.nx], .pointer (some ⟨qc0, 0, none⟩)] w [] (fun rv h' => rv = .bool r ∧ h' = []) := by
 unfold i_Table_find_1 at H0
 refine ct_of_cw Tryd.func100 rfl Tryd.ntmps100 rfl (Sat.refl _ _) ?_
 refine sr (oE (stpU_box 0 rfl rfl) rfl ?_)
 rintro _ _ ⟨b1, rfl, rfl⟩
 obtain ⟨y2, ey2, H0⟩ := bS H0
 refine oS rfl (nn (sr (oA 0 Tryd.underlying71 rfl ts4 rfl (oL 0 ts4 rfl (oM rfl (ow_cutY 5 11 y2 ?_ ?_))))))
 ·rcases Bool.eq_false_or_eq_true a0.u with hy2 | hy2
  ·have ey2 := cond_t ey2 hy2
   refine oG rfl hy2 (fA 1 Tryd.underlying71 rfl ts41 rfl rfl rfl) rfl (oG rfl hy2 (stp_loadN (us := [_, _]) ts41 rfl (Cells.box (id := 0) rfl 2 rfl)) rfl (oG rfl hy2 (stp_loadN (us := [_, _]) ts41 rfl (Cells.ofRO hbac0 2 rfl)) rfl (oG rfl hy2 (stp_eqlS te41 a0.k ac0 rfl rfl) rfl (oD (stp_pick_t rfl hy2 rfl) rfl ?_))))
   obtain rfl := sI ey2
   exact ow_nil (jy 5 0)
  have ey2 := cond_f ey2 hy2
  refine oO rfl hy2 rfl (oO rfl hy2 rfl (oO rfl hy2 rfl (oO rfl hy2 rfl (oD (stp_pick_f rfl hy2 rfl) rfl ?_))))
  obtain rfl := sI ey2
  exact ow_nil (jy 5 0)
 refine oS rfl (nn (cw_ret ?_))
 obtain rfl := sI H0
 exact kr Tryd.results100 (rT rfl) [] ⟨rfl, rfl⟩

theorem c_slices_IndexFunc_Frame_of_i_Table_find_1 (fl : Nat) (w : World) (a0 : (List F)) (q1_0 : Nat) (a1_0 : K) (hn0_0 : n0_0 = (a0).length) (hr0_0 : RO w (hkeys []) (RdL p0_0 c0_0 a0)) (hba1_0 : RO w (hkeys []) (fun w' => w'.rangeAt q1_0 0 [.int .i64 a1_0.s, .int .i64 a1_0.p])) (r : Int) (H0 : slices_IndexFunc_Frame_of_i_Table_find_1 fl a0 a1_0 = some r) :
  Ct Tryd.prog 99 [.slice p0_0 n0_0 c0_0, .func (.func 100) #[] #[.pointer (some ⟨q1_0, 0, none⟩)]] w [] (fun rv h' => rv = .int .i64 r ∧ h' = []) := by
 subst hn0_0
 unfold slices_IndexFunc_Frame_of_i_Table_find_1 at H0
 refine ct_of_cw Tryd.func99 rfl Tryd.ntmps99 rfl (Sat.refl _ _) ?_
 obtain ⟨o0_0, eo0_0, H0⟩ := bS H0
 refine sr (oS rfl (nn (cw_seq (sr (oM rfl (oD (stp_len Tryd.underlying32 rfl) rfl (oM rfl (nn (cw_join (ι := Int) (fun | v1 => o0_0 = .out v1) (fun | v1 => [(0, .slice p0_0 ((a0).length) c0_0), (1, .func (.func 100) #[] #[.pointer (some ⟨q1_0, 0, none⟩)]), (7, .int .i64 ((a0).length : Int)), (8, .int .i64 v1)]) (fun | v1 => []) ?_ ?_)))))))))
 ·refine cw_block (cw_loopS (ι := Nat × Int) (js := []) (fun x => x.1) (fun | (fuel, v1) => slices_IndexFunc_Frame_of_i_Table_find_1_L0 fl a0 a1_0 fuel v1 = some o0_0) (fun | (_, v1) => [(0, .slice p0_0 ((a0).length) c0_0), (1, .func (.func 100) #[] #[.pointer (some ⟨q1_0, 0, none⟩)]), (7, .int .i64 ((a0).length : Int)), (8, .int .i64 v1)]) (fun | (_, v1) => []) (fl, 0) eo0_0 ⟨rfl, rfl, rfl, rfl, trivial⟩ trivial (by decide) ?_)
  rintro ⟨fuel, v1⟩ H1
  have H1 : slices_IndexFunc_Frame_of_i_Table_find_1_L0 fl a0 a1_0 fuel v1 = some o0_0 := H1
  rcases fuel with _ | fuel
  ·rw [slices_IndexFunc_Frame_of_i_Table_find_1_L0.eq_1] at H1; cases H1
  rw [slices_IndexFunc_Frame_of_i_Table_find_1_L0.eq_2] at H1
  dsimp only
  refine sr (oW rfl (nn (cw_seq (cw_cond rfl (fun h2 => ?_) (fun h2 => ?_)))))
  ·have H1 := cond_t H1 h2
   obtain ⟨x3, e3, H1⟩ := bS H1
   refine cw_skip (kw_nx (cw_seq (cw_block (sr (oM rfl (oS rfl (nn (sr (oM rfl (oM rfl (oM rfl (oD (stp_indexAddr Tryd.underlying32 ts71 (by decide) rfl rfl rfl (Rdb.ro hr0_0) e3) rfl (oD (stp_loadN (us := [_, _, _, _, _]) ts71 rfl (Cells.el (Rdb.ro hr0_0) (by decide) e3 0 5 rfl)) rfl ?_)))))))))))))
   obtain ⟨x4, e4, H1⟩ := bS H1
   refine oE (stpU_callF (vals := [_]) (ca := [_]) (fun i => 0 + i) cf100 (fun w hw => c_i_Table_find_1 fl w x3 q1_0 a1_0 (RO.pass hba1_0 hw) x4 e4) rfl (yA rfl)) rfl ?_
   rintro _ _ ⟨_, ⟨rfl, rfl⟩, rfl⟩
   refine nn (cw_cond rfl (fun h5 => ?_) (fun h5 => ?_))
   ·have H1 := cond_t H1 h5
    refine sr (oM rfl (oS rfl (nn (cw_ret (kw_bl_ret (kw_nx_ret (kw_lq_ret (kw_bl_ret (kw_join_ret (kw_nx_ret ?_))))))))))
    obtain rfl := sI H1
    obtain rfl := sI H0
    exact kr Tryd.results99 (rT rfl) [] ⟨rfl, rfl⟩
   have H1 := cond_f H1 h5
   obtain ⟨x6, e6, H1⟩ := bS H1
   exact cw_skip (kw_bl_normal (kw_nx (cw_region (oP e6 rfl (oM rfl (ow_nil (kw_lqS (js := []) (fuel, x6) H1 (Nat.lt_succ_self _) ⟨rfl, rfl, rfl, rfl, trivial⟩ trivial (by decide))))))))
  have H1 := cond_f H1 h2
  refine cw_exit (kw_nx_exit (kw_lq_exit (kw_bl ?_)))
  obtain rfl := sI H1
  exact kw_joinS (js := []) v1 rfl ⟨rfl, rfl, rfl, rfl, trivial⟩ trivial (by decide)
 rintro v1 rfl
 dsimp only
 refine kw_nx (sr (oS rfl (nn (cw_ret ?_))))
 obtain rfl := sI H0
 exact kr Tryd.results99 (rT rfl) [] ⟨rfl, rfl⟩

theorem c_i_Table_find (fl : Nat) (w : World) (a0 : T) (a1 : K) (hn0_0 : n0_0 = (a0.b).length) (hr0_0 : RO w (hkeys []) (RdL p0_0 c0_0 a0.b)) (hn0_1 : n0_1 = (a0.f).length) (hr0_1 : RO w (hkeys []) (RdL p0_1 c0_1 a0.f)) (r : Int) (H0 : i_Table_find fl a0 a1 = some r) :
  Ct Tryd.prog 49 [.agg #[.slice p0_0 n0_0 c0_0, .slice p0_1 n0_1 c0_1], .agg #[.int .i64 a1.s, .int .i64 a1.p]] w [] (fun rv h' => rv = .int .i64 r ∧ h' = []) := by
 subst hn0_0 hn0_1
 unfold i_Table_find at H0
 refine ct_of_cw Tryd.func49 rfl Tryd.ntmps49 rfl (Sat.refl _ _) ?_
 refine sr (oE (stpU_box 0 rfl rfl) rfl ?_)
 rintro _ _ ⟨b1, rfl, rfl⟩
 refine oE (stpU_box 1 rfl rfl) rfl ?_
 rintro _ _ ⟨b2, rfl, rfl⟩
 obtain ⟨x3, e3, H0⟩ := bS H0
 refine oS rfl (nn (sr (oA 1 Tryd.underlying34 rfl ts32 rfl (oL 0 ts32 rfl (oD (stp_makeFunc (yA rfl)) rfl (oE (stpU_call (fun i => 2 + i) cf99 (fun w hw => c_slices_IndexFunc_Frame_of_i_Table_find_1 fl w a0.f b2 a1 rfl (RO.pass hr0_1 hw) (box_pass (id := 1) rfl hw) x3 e3) (yB rfl rfl)) rfl ?_))))))
 rintro _ _ ⟨_, ⟨rfl, rfl⟩, rfl⟩
 refine oS rfl (nn (cw_ret ?_))
 obtain rfl := sI H0
 exact kr Tryd.results49 (rT rfl) [] ⟨rfl, rfl⟩

theorem c_i_SystemValid (fl : Nat) (w : World) (a0 : Sy) (hn0_0 : n0_0 = (a0.t.b).length) (hr0_0 : RO w (hkeys []) (RdL p0_0 c0_0 a0.t.b)) (hn0_1 : n0_1 = (a0.t.f).length) (hr0_1 : RO w (hkeys []) (RdL p0_1 c0_1 a0.t.f)) (hn0_2 : n0_2 = (a0.c).length) (hr0_2 : ROD w (hkeys []) p0_2 c0_2 a0.c) (hg : RO w (hkeys []) (fun w' => w'.rangeAt 0 0 [.bool false, .int .i64 0, .int .i64 0, .int .i64 0, .int .i64 (-1)])) (r : Bool) (H0 : i_SystemValid fl a0 = some r) :
  Ct Tryd.prog 23 [.agg #[.slice p0_0 n0_0 c0_0, .slice p0_1 n0_1 c0_1, .slice p0_2 n0_2 c0_2]] w [] (fun rv h' => rv = .bool r ∧ h' = []) := by
 subst hn0_0 hn0_1 hn0_2
 unfold i_SystemValid at H0
 refine ct_of_cw Tryd.func23 rfl Tryd.ntmps23 rfl (Sat.refl _ _) ?_
 refine sr (oE (stpU_box 0 rfl rfl) rfl ?_)
 rintro _ _ ⟨b1, rfl, rfl⟩
 obtain ⟨x2, e2, H0⟩ := bS H0
 refine oS rfl (nn (cw_seq (sr (oA 0 Tryd.underlying37 rfl ts34 rfl (oB2 0 ts34 rfl (oE (stpU_call (fun i => 1 + i) cf74 (fun w hw => c_i_TableValid fl w a0.t rfl (RO.pass hr0_0 hw) rfl (RO.pass hr0_1 hw) (RO.pass hg hw) x2 e2) (yA rfl)) rfl ?_))))))
 rintro _ _ ⟨_, ⟨rfl, rfl⟩, rfl⟩
 obtain ⟨y3, ey3, H0⟩ := bS H0
 refine oK rfl (oM rfl (ow_cutY 5 20 y3 ?_ ?_))
 ·rcases Bool.eq_false_or_eq_true (!x2) with hy3 | hy3
  ·have ey3 := cond_t ey3 hy3
   refine oO rfl hy3 rfl (oO rfl hy3 rfl (oO rfl hy3 rfl (oO rfl hy3 rfl (oD (stp_pick_t rfl hy3 rfl) rfl ?_))))
   obtain rfl := sI ey3
   exact ow_nil (jy 5 0)
  have ey3 := cond_f ey3 hy3
  refine oG rfl hy3 (fA 2 Tryd.underlying37 rfl ts35 rfl rfl rfl) rfl (oG rfl hy3 (lB 0 ts35 rfl rfl rfl) rfl (oG rfl hy3 (stp_len Tryd.underlying35 rfl) rfl (oG rfl hy3 (stp_lss rfl rfl) rfl (oD (stp_pick_f rfl hy3 rfl) rfl ?_))))
  obtain rfl := sI ey3
  exact ow_nil (jy 5 0)
 obtain ⟨y4, ey4, H0⟩ := bS H0
 refine oM rfl (ow_cutY 5 26 y4 ?_ ?_)
 ·rcases Bool.eq_false_or_eq_true y3 with hy4 | hy4
  ·have ey4 := cond_t ey4 hy4
   refine oO rfl hy4 rfl (oO rfl hy4 rfl (oO rfl hy4 rfl (oO rfl hy4 rfl (oD (stp_pick_t rfl hy4 rfl) rfl ?_))))
   obtain rfl := sI ey4
   exact ow_nil (jy 5 0)
  have ey4 := cond_f ey4 hy4
  refine oG rfl hy4 (fA 2 Tryd.underlying37 rfl ts35 rfl rfl rfl) rfl (oG rfl hy4 (lB 0 ts35 rfl rfl rfl) rfl (oG rfl hy4 (stp_len Tryd.underlying35 rfl) rfl (oG rfl hy4 (stp_gtr rfl rfl) rfl (oD (stp_pick_f rfl hy4 rfl) rfl ?_))))
  obtain rfl := sI ey4
  exact ow_nil (jy 5 0)
 refine ow_nil (kw_nx (cw_cond rfl (fun h5 => ?_) (fun h5 => ?_)))
 ·have H0 := cond_t H0 h5
  refine sr (oS rfl (nn (cw_ret (kw_nx_ret ?_))))
  obtain rfl := sI H0
  exact kr Tryd.results23 (rT rfl) [] ⟨rfl, rfl⟩
 have H0 := cond_f H0 h5
 obtain ⟨o0_0, eo0_0, H0⟩ := bS H0
 refine cw_skip (kw_nx (cw_seq (sr (oA 2 Tryd.underlying37 rfl ts35 rfl (oL 0 ts35 rfl (oD (stp_len Tryd.underlying35 rfl) rfl (oM rfl (nn (cw_join (ι := Int) (fun | v6 => o0_0 = .out v6) (fun | v6 => [(1, .pointer (some ⟨b1, 0, none⟩)), (28, .slice p0_2 ((a0.c).length) c0_2), (29, .int .i64 ((a0.c).length : Int)), (30, .int .i64 v6)]) (fun | v6 => [(0, [(b1, .cells #[.slice p0_0 ((a0.t.b).length) c0_0, .slice p0_1 ((a0.t.f).length) c0_1, .slice p0_2 ((a0.c).length) c0_2] 37 (0, 0))])]) ?_ ?_)))))))))
 ·refine cw_block (cw_loopS (ι := Nat × Int) (js := [0]) (fun x => x.1) (fun | (fuel, v6) => i_SystemValid_L0 fl a0 fuel v6 = some o0_0) (fun | (_, v6) => [(1, .pointer (some ⟨b1, 0, none⟩)), (28, .slice p0_2 ((a0.c).length) c0_2), (29, .int .i64 ((a0.c).length : Int)), (30, .int .i64 v6)]) (fun | (_, v6) => [(0, [(b1, .cells #[.slice p0_0 ((a0.t.b).length) c0_0, .slice p0_1 ((a0.t.f).length) c0_1, .slice p0_2 ((a0.c).length) c0_2] 37 (0, 0))])]) (fl, 0) eo0_0 ⟨rfl, rfl, rfl, rfl, trivial⟩ ⟨0, [], rfl, rfl, trivial⟩ (by decide) ?_)
  rintro ⟨fuel, v6⟩ H1
  have H1 : i_SystemValid_L0 fl a0 fuel v6 = some o0_0 := H1
  rcases fuel with _ | fuel
  ·rw [i_SystemValid_L0.eq_1] at H1; cases H1
  rw [i_SystemValid_L0.eq_2] at H1
  dsimp only
  refine sr (oW rfl (nn (cw_seq (cw_cond rfl (fun h7 => ?_) (fun h7 => ?_)))))
  ·have H1 := cond_t H1 h7
   obtain ⟨x8, e8, H1⟩ := bS H1
   refine cw_skip (kw_nx (cw_seq (cw_block (sr ?_))))
   obtain ⟨u9, p10, n11, c12, p13, n14, c15, hw9, hl9, hx9, rfl, hr9, rfl, hs9⟩ := ROD.get hr0_2 e8
   refine oD (stp_indexAddr Tryd.underlying35 ts53 (by decide) rfl hl9 rfl (Rdb.ro hw9) hx9) rfl (oD (stp_loadN (us := [_, _]) ts53 rfl (Cells.el (Rdb.ro hw9) (by decide) hx9 0 2 rfl)) rfl (oE (stpU_alloc 1 tz53 rfl) rfl ?_))
   rintro _ _ ⟨b16, rfl, rfl⟩
   obtain ⟨x17, e17, H1⟩ := bS H1
   refine oC2 1 ts53 rfl rfl (nn (cw_seq (sr (oA 0 Tryd.underlying53 rfl ts51 rfl (oL 1 ts51 rfl (oE (stpU_call (fun i => 2 + i) cf75 (fun w hw => c_i_each fl w x8.n rfl (RO.pass hr9 hw) x17 e17) (yA rfl)) rfl ?_))))))
   rintro _ _ ⟨_, ⟨rfl, rfl⟩, rfl⟩
   obtain ⟨y18, ey18, H1⟩ := bS H1
   refine oK rfl (oM rfl (ow_cutY 5 43 y18 ?_ ?_))
   ·rcases Bool.eq_false_or_eq_true (!x17) with hy18 | hy18
    ·have ey18 := cond_t ey18 hy18
     refine oO rfl hy18 rfl (oO rfl hy18 rfl (oO rfl hy18 rfl (oO rfl hy18 rfl (oD (stp_pick_t rfl hy18 rfl) rfl ?_))))
     obtain rfl := sI ey18
     exact ow_nil (jy 5 0)
    have ey18 := cond_f ey18 hy18
    obtain ⟨x19, e19, ey18⟩ := bS ey18
    refine oG rfl hy18 (fA 1 Tryd.underlying53 rfl ts51 rfl rfl rfl) rfl (oG rfl hy18 (lB 1 ts51 rfl rfl rfl) rfl (ow_eff (.some rfl hy18) (stpU_call (fun i => 2 + i) cf75 (fun w hw => c_i_each fl w x8.w rfl (RO.pass hs9 hw) x19 e19) (yA rfl)) rfl ?_))
    rintro _ _ ⟨_, ⟨rfl, rfl⟩, rfl⟩
    refine oG rfl hy18 (stp_not rfl) rfl (oD (stp_pick_f rfl hy18 rfl) rfl ?_)
    obtain rfl := sI ey18
    exact ow_nil (jy 5 0)
   refine ow_nil (kw_nx (cw_cond rfl (fun h20 => ?_) (fun h20 => ?_)))
   ·have H1 := cond_t H1 h20
    refine sr (oS rfl (nn (cw_ret (kw_nx_ret (kw_bl_ret (kw_nx_ret (kw_lq_ret (kw_bl_ret (kw_join_ret (kw_nx_ret ?_))))))))))
    obtain rfl := sI H1
    obtain rfl := sI H0
    exact kr Tryd.results23 (rT rfl) [] ⟨rfl, rfl⟩
   have H1 := cond_f H1 h20
   obtain ⟨o1_1, eo1_1, H1⟩ := bS H1
   refine cw_skip (kw_nx (cw_seq (sr (oA 0 Tryd.underlying53 rfl ts51 rfl (oL 1 ts51 rfl (oD (stp_len Tryd.underlying51 rfl) rfl (oM rfl (nn (cw_join (ι := Int) (fun | v21 => o1_1 = .out v21) (fun | v21 => [(1, .pointer (some ⟨b1, 0, none⟩)), (4, .pointer (some ⟨b16, 0, none⟩)), (28, .slice p0_2 ((a0.c).length) c0_2), (29, .int .i64 ((a0.c).length : Int)), (30, .int .i64 v6), (45, .slice p10 ((x8.n).length) c12), (46, .int .i64 ((x8.n).length : Int)), (47, .int .i64 v21)]) (fun | v21 => [(0, [(b1, .cells #[.slice p0_0 ((a0.t.b).length) c0_0, .slice p0_1 ((a0.t.f).length) c0_1, .slice p0_2 ((a0.c).length) c0_2] 37 (0, 0))]), (1, [(b16, .cells #[.slice p10 ((x8.n).length) c12, .slice p13 ((x8.w).length) c15] 53 (0, 0))])]) ?_ ?_)))))))))
   ·refine cw_block (cw_loopS (ι := Nat × Int) (js := [0, 1]) (fun x => x.1) (fun | (fuel, v21) => i_SystemValid_L1 fl a0 x8 fuel v21 = some o1_1) (fun | (_, v21) => [(1, .pointer (some ⟨b1, 0, none⟩)), (4, .pointer (some ⟨b16, 0, none⟩)), (28, .slice p0_2 ((a0.c).length) c0_2), (29, .int .i64 ((a0.c).length : Int)), (30, .int .i64 v6), (45, .slice p10 ((x8.n).length) c12), (46, .int .i64 ((x8.n).length : Int)), (47, .int .i64 v21)]) (fun | (_, v21) => [(0, [(b1, .cells #[.slice p0_0 ((a0.t.b).length) c0_0, .slice p0_1 ((a0.t.f).length) c0_1, .slice p0_2 ((a0.c).length) c0_2] 37 (0, 0))]), (1, [(b16, .cells #[.slice p10 ((x8.n).length) c12, .slice p13 ((x8.w).length) c15] 53 (0, 0))])]) (fl, 0) eo1_1 ⟨rfl, rfl, rfl, rfl, rfl, rfl, rfl, rfl, trivial⟩ ⟨0, [1], rfl, rfl, 1, [], rfl, rfl, trivial⟩ (by decide) ?_)
    rintro ⟨fuel, v21⟩ H2
    have H2 : i_SystemValid_L1 fl a0 x8 fuel v21 = some o1_1 := H2
    rcases fuel with _ | fuel
    ·rw [i_SystemValid_L1.eq_1] at H2; cases H2
    rw [i_SystemValid_L1.eq_2] at H2
    dsimp only
    refine sr (oW rfl (nn (cw_seq (cw_cond rfl (fun h22 => ?_) (fun h22 => ?_)))))
    ·have H2 := cond_t H2 h22
     obtain ⟨x23, e23, H2⟩ := bS H2
     refine cw_skip (kw_nx (cw_seq (cw_block (sr (oD (stp_indexAddr Tryd.underlying51 ts55 (by decide) rfl rfl rfl (Rdb.ro hr9) e23) rfl (oD (stp_loadN (us := [_, _, _]) ts55 rfl (Cells.el (Rdb.ro hr9) (by decide) e23 0 3 rfl)) rfl (oE (stpU_alloc 2 tz55 rfl) rfl ?_)))))))
     rintro _ _ ⟨b24, rfl, rfl⟩
     obtain ⟨x25, e25, H2⟩ := bS H2
     refine oC3 2 ts55 rfl rfl (nn (sr (oA 0 Tryd.underlying37 rfl ts34 rfl (oB2 0 ts34 rfl (oA 0 Tryd.underlying55 rfl ts41 rfl (oB2 2 ts41 rfl (oE (stpU_call (fun i => 3 + i) cf49 (fun w hw => c_i_Table_find fl w a0.t x23.k rfl (RO.pass hr0_0 hw) rfl (RO.pass hr0_1 hw) x25 e25) (yB rfl rfl)) rfl ?_)))))))
     rintro _ _ ⟨_, ⟨rfl, rfl⟩, rfl⟩
     obtain ⟨x26, e26, H2⟩ := bS H2
     refine oS rfl (nn (sr (oA 1 Tryd.underlying53 rfl ts51 rfl (oL 1 ts51 rfl (oA 0 Tryd.underlying55 rfl ts41 rfl (oB2 2 ts41 rfl (oE (stpU_call (fun i => 3 + i) cf48 (fun w hw => c_i_noteOf fl w x8.w x23.k rfl (RO.pass hs9 hw) x26 e26) (yB rfl rfl)) rfl ?_)))))))
     rintro _ _ ⟨_, ⟨rfl, rfl⟩, rfl⟩
     refine oS rfl (nn (sr (oM rfl (oI rfl (nn (cw_cond rfl (fun h27 => ?_) (fun h27 => ?_)))))))
     ·have H2 := cond_t H2 h27
      obtain ⟨x28, e28, H2⟩ := bS H2
      obtain ⟨y29, ey29, H2⟩ := bS H2
      refine cw_seq (cw_join (ι := Unit) (fun | _ => True) (fun | _ => [(1, .pointer (some ⟨b1, 0, none⟩)), (4, .pointer (some ⟨b16, 0, none⟩)), (28, .slice p0_2 ((a0.c).length) c0_2), (29, .int .i64 ((a0.c).length : Int)), (30, .int .i64 v6), (45, .slice p10 ((x8.n).length) c12), (46, .int .i64 ((x8.n).length : Int)), (47, .int .i64 v21), (73, .bool y29)]) (fun | _ => [(0, [(b1, .cells #[.slice p0_0 ((a0.t.b).length) c0_0, .slice p0_1 ((a0.t.f).length) c0_1, .slice p0_2 ((a0.c).length) c0_2] 37 (0, 0))]), (1, [(b16, .cells #[.slice p10 ((x8.n).length) c12, .slice p13 ((x8.w).length) c15] 53 (0, 0))])]) ?_ ?_)
      ·rcases Bool.eq_false_or_eq_true (x28 != x23) with hy29 | hy29
       ·have ey29 := cond_t ey29 hy29
        have qy29 := sI ey29
        refine rdq g_mixed [4, 6, 8] [1, 2] { dst := dS [64, 65, 66, 67, 68, 69, 70, 71, 72, 73, 74], pre := gA [] [[], [0], [], [0, 1, 2], rn 0 4, [], rn 0 6, rn 0 7, rn 0 8, rn 0 9, rn 0 10], ids := fun _ => [], rs := rL [[(4, 0)], [(63, 1)], [(8, 0)], [(64, 2), (65, 3)], [(66, 4)], [(6, 0)], [(67, 5), (68, 6)], [(69, 7)], [(70, 8)], [(70, 8)], [(70, 8), (72, 10)]], rh := rL [[], [(1, 0)], [], [], [], [(2, 0)]], V := fun i g => gA undef [.pointer (some ⟨b16, 1, none⟩), .slice p13 ((x8.w).length) c15, .int .i64 x26, .pointer (some ⟨eB p13, eO p13 + Int.toNat x26 * Enc.sz Nt + 0, none⟩), .agg #[.int .i64 x28.k.s, .int .i64 x28.k.p, .int .i64 x28.fr], .agg #[.int .i64 x23.k.s, .int .i64 x23.k.p, .int .i64 x23.fr], .bool (x28 != x23), .bool (x28 != x23), undef, undef, .bool y29] i, U := fun _ _ => [], Φ := fun _ _ => True } ?_ ?_
        ·exact ⟨lc rfl rfl fun hs hh => stp_fieldAddr (j := 1) Tryd.underlying53 rfl ts51 rfl (sv hs 4 rfl) rfl, lc rfl rfl fun hs hh => stp_load1 ts51 (sv hs 63 rfl) (Cells.box (id := 1) (hh.get 1 _ rfl) 1 rfl), lM, lc rfl rfl fun hs hh => stp_indexAddr Tryd.underlying51 ts55 (by decide) (sv hs 64 rfl) rfl (sv hs 65 rfl) (Rdb.ro hs9) e28, lc rfl rfl fun hs hh => stp_loadN (us := [_, _, _]) ts55 (sv hs 66 rfl) (Cells.el (Rdb.ro hs9) (by decide) e28 0 3 rfl), lc rfl rfl fun hs hh => stp_loadN (us := [_, _, _]) ts55 (sv hs 6 rfl) (Cells.box (id := 2) (hh.get 2 _ rfl) 3 rfl), lc rfl rfl fun hs hh => stp_neqS te55 x28 x23 (sv hs 67 rfl) (sv hs 68 rfl), lM, lo rfl rfl 70 hy29, lo rfl rfl 70 hy29, lc rfl rfl fun hs hh => stp_pick_tB (sv hs 70 rfl) hy29 rfl qy29, trivial⟩
        intro g hΦ
        exact kw_join () trivial ⟨rfl, rfl, rfl, rfl, rfl, rfl, rfl, rfl, rfl, trivial⟩ ⟨rfl, rfl, trivial⟩
       have ey29 := cond_f ey29 hy29
       have qy29 := sI ey29
       refine rdq g_mixed [4, 6, 7, 8] [1, 2] { dst := dS [64, 65, 66, 67, 68, 69, 70, 71, 72, 73, 74], pre := gA [] [[], [0], [], [0, 1, 2], rn 0 4, [], rn 0 6, rn 0 7, rn 0 8, rn 0 9, rn 0 10], ids := fun _ => [], rs := rL [[(4, 0)], [(63, 1)], [(8, 0)], [(64, 2), (65, 3)], [(66, 4)], [(6, 0)], [(67, 5), (68, 6)], [(69, 7)], [(7, 0), (70, 8)], [(71, 9), (70, 8)], [(70, 8), (72, 10)]], rh := rL [[], [(1, 0)], [], [], [], [(2, 0)]], V := fun i g => gA undef [.pointer (some ⟨b16, 1, none⟩), .slice p13 ((x8.w).length) c15, .int .i64 x26, .pointer (some ⟨eB p13, eO p13 + Int.toNat x26 * Enc.sz Nt + 0, none⟩), .agg #[.int .i64 x28.k.s, .int .i64 x28.k.p, .int .i64 x28.fr], .agg #[.int .i64 x23.k.s, .int .i64 x23.k.p, .int .i64 x23.fr], .bool (x28 != x23), .bool (x28 != x23), .int .i64 x25, .bool (decide (0 ≤ x25)), .bool y29] i, U := fun _ _ => [], Φ := fun _ _ => True } ?_ ?_
       ·exact ⟨lc rfl rfl fun hs hh => stp_fieldAddr (j := 1) Tryd.underlying53 rfl ts51 rfl (sv hs 4 rfl) rfl, lc rfl rfl fun hs hh => stp_load1 ts51 (sv hs 63 rfl) (Cells.box (id := 1) (hh.get 1 _ rfl) 1 rfl), lM, lc rfl rfl fun hs hh => stp_indexAddr Tryd.underlying51 ts55 (by decide) (sv hs 64 rfl) rfl (sv hs 65 rfl) (Rdb.ro hs9) e28, lc rfl rfl fun hs hh => stp_loadN (us := [_, _, _]) ts55 (sv hs 66 rfl) (Cells.el (Rdb.ro hs9) (by decide) e28 0 3 rfl), lc rfl rfl fun hs hh => stp_loadN (us := [_, _, _]) ts55 (sv hs 6 rfl) (Cells.box (id := 2) (hh.get 2 _ rfl) 3 rfl), lc rfl rfl fun hs hh => stp_neqS te55 x28 x23 (sv hs 67 rfl) (sv hs 68 rfl), lM, lg rfl rfl 70 hy29 fun hs hh => stp_move (sv hs 7 rfl), lg rfl rfl 70 hy29 fun hs hh => stp_geq (sv hs 71 rfl) rfl, lc rfl rfl fun hs hh => stp_pick_fB (sv hs 70 rfl) hy29 (sv hs 72 rfl) qy29, trivial⟩
       intro g hΦ
       exact kw_join () trivial ⟨rfl, rfl, rfl, rfl, rfl, rfl, rfl, rfl, rfl, trivial⟩ ⟨rfl, rfl, trivial⟩
      rintro _ -
      dsimp only
      refine kw_nx (cw_cond rfl (fun h30 => ?_) (fun h30 => ?_))
      ·have H2 := cond_t H2 h30
       refine sr (oS rfl (nn (cw_ret (kw_bl_ret (kw_nx_ret (kw_lq_ret (kw_bl_ret (kw_join_ret (kw_nx_ret (kw_bl_ret (kw_nx_ret (kw_lq_ret (kw_bl_ret ?_)))))))))))))
       refine kw_join_ret (kw_nx_ret ?_)
       obtain rfl := sI H2
       obtain rfl := sI H1
       obtain rfl := sI H0
       exact kr Tryd.results23 (rT rfl) [] ⟨rfl, rfl⟩
      have H2 := cond_f H2 h30
      obtain ⟨x31, e31, H2⟩ := bS H2
      exact cw_skip (kw_bl_normal (kw_nx (cw_region (oP e31 rfl (oM rfl (ow_nil (kw_lqS (js := [0, 1]) (fuel, x31) H2 (Nat.lt_succ_self _) ⟨rfl, rfl, rfl, rfl, rfl, rfl, rfl, rfl, trivial⟩ ⟨0, [1], rfl, rfl, 1, [], rfl, rfl, trivial⟩ (by decide))))))))
     have H2 := cond_f H2 h27
     obtain ⟨y32, ey32, H2⟩ := bS H2
     refine sr (oM rfl (oW rfl (oM rfl (ow_cutY 5 81 y32 ?_ ?_))))
     ·rcases Bool.eq_false_or_eq_true (decide (x25 < 0)) with hy32 | hy32
      ·have ey32 := cond_t ey32 hy32
       refine oO rfl hy32 rfl (oO rfl hy32 rfl (oO rfl hy32 rfl (oO rfl hy32 rfl (oD (stp_pick_t rfl hy32 rfl) rfl ?_))))
       obtain rfl := sI ey32
       exact ow_nil (jy 5 0)
      have ey32 := cond_f ey32 hy32
      refine oG rfl hy32 (mv rfl) rfl (oG rfl hy32 (fA 2 Tryd.underlying55 rfl ts3 rfl rfl rfl) rfl (oG rfl hy32 (lB 2 ts3 rfl rfl rfl) rfl (oG rfl hy32 (stp_neq rfl rfl) rfl (oD (stp_pick_f rfl hy32 rfl) rfl ?_))))
      obtain rfl := sI ey32
      exact ow_nil (jy 5 0)
     refine ow_nil (kw_nx (cw_cond rfl (fun h33 => ?_) (fun h33 => ?_)))
     ·have H2 := cond_t H2 h33
      refine sr (oS rfl (nn (cw_ret (kw_bl_ret (kw_nx_ret (kw_lq_ret (kw_bl_ret (kw_join_ret (kw_nx_ret (kw_bl_ret (kw_nx_ret (kw_lq_ret (kw_bl_ret ?_)))))))))))))
      refine kw_join_ret (kw_nx_ret ?_)
      obtain rfl := sI H2
      obtain rfl := sI H1
      obtain rfl := sI H0
      exact kr Tryd.results23 (rT rfl) [] ⟨rfl, rfl⟩
     have H2 := cond_f H2 h33
     obtain ⟨x34, e34, H2⟩ := bS H2
     exact cw_skip (kw_bl_normal (kw_nx (cw_region (oP e34 rfl (oM rfl (ow_nil (kw_lqS (js := [0, 1]) (fuel, x34) H2 (Nat.lt_succ_self _) ⟨rfl, rfl, rfl, rfl, rfl, rfl, rfl, rfl, trivial⟩ ⟨0, [1], rfl, rfl, 1, [], rfl, rfl, trivial⟩ (by decide))))))))
    have H2 := cond_f H2 h22
    refine cw_exit (kw_nx_exit (kw_lq_exit (kw_bl ?_)))
    obtain rfl := sI H2
    exact kw_joinS (js := [0, 1]) v21 rfl ⟨rfl, rfl, rfl, rfl, rfl, rfl, rfl, rfl, trivial⟩ ⟨0, [1], rfl, rfl, 1, [], rfl, rfl, trivial⟩ (by decide)
   rintro v21 rfl
   dsimp only
   obtain ⟨o1_2, eo1_2, H1⟩ := bS H1
   refine kw_nx (sr (oA 1 Tryd.underlying53 rfl ts51 rfl (oL 1 ts51 rfl (oD (stp_len Tryd.underlying51 rfl) rfl (oM rfl (nn (cw_join (ι := Int) (fun | v35 => o1_2 = .out v35) (fun | v35 => [(1, .pointer (some ⟨b1, 0, none⟩)), (4, .pointer (some ⟨b16, 0, none⟩)), (28, .slice p0_2 ((a0.c).length) c0_2), (29, .int .i64 ((a0.c).length : Int)), (30, .int .i64 v6), (84, .slice p13 ((x8.w).length) c15), (85, .int .i64 ((x8.w).length : Int)), (86, .int .i64 v35)]) (fun | v35 => [(0, [(b1, .cells #[.slice p0_0 ((a0.t.b).length) c0_0, .slice p0_1 ((a0.t.f).length) c0_1, .slice p0_2 ((a0.c).length) c0_2] 37 (0, 0))]), (1, [(b16, .cells #[.slice p10 ((x8.n).length) c12, .slice p13 ((x8.w).length) c15] 53 (0, 0))])]) ?_ ?_)))))))
   ·refine cw_block (cw_loopS (ι := Nat × Int) (js := [0, 1]) (fun x => x.1) (fun | (fuel, v35) => i_SystemValid_L2 fl a0 x8 fuel v35 = some o1_2) (fun | (_, v35) => [(1, .pointer (some ⟨b1, 0, none⟩)), (4, .pointer (some ⟨b16, 0, none⟩)), (28, .slice p0_2 ((a0.c).length) c0_2), (29, .int .i64 ((a0.c).length : Int)), (30, .int .i64 v6), (84, .slice p13 ((x8.w).length) c15), (85, .int .i64 ((x8.w).length : Int)), (86, .int .i64 v35)]) (fun | (_, v35) => [(0, [(b1, .cells #[.slice p0_0 ((a0.t.b).length) c0_0, .slice p0_1 ((a0.t.f).length) c0_1, .slice p0_2 ((a0.c).length) c0_2] 37 (0, 0))]), (1, [(b16, .cells #[.slice p10 ((x8.n).length) c12, .slice p13 ((x8.w).length) c15] 53 (0, 0))])]) (fl, 0) eo1_2 ⟨rfl, rfl, rfl, rfl, rfl, rfl, rfl, rfl, trivial⟩ ⟨0, [1], rfl, rfl, 1, [], rfl, rfl, trivial⟩ (by decide) ?_)
    rintro ⟨fuel, v35⟩ H2
    have H2 : i_SystemValid_L2 fl a0 x8 fuel v35 = some o1_2 := H2
    rcases fuel with _ | fuel
    ·rw [i_SystemValid_L2.eq_1] at H2; cases H2
    rw [i_SystemValid_L2.eq_2] at H2
    dsimp only
    refine sr (oW rfl (nn (cw_seq (cw_cond rfl (fun h36 => ?_) (fun h36 => ?_)))))
    ·have H2 := cond_t H2 h36
     obtain ⟨x37, e37, H2⟩ := bS H2
     refine cw_skip (kw_nx (cw_seq (cw_block (sr (oD (stp_indexAddr Tryd.underlying51 ts55 (by decide) rfl rfl rfl (Rdb.ro hs9) e37) rfl (oD (stp_loadN (us := [_, _, _]) ts55 rfl (Cells.el (Rdb.ro hs9) (by decide) e37 0 3 rfl)) rfl (oE (stpU_alloc 3 tz55 rfl) rfl ?_)))))))
     rintro _ _ ⟨b38, rfl, rfl⟩
     obtain ⟨x39, e39, H2⟩ := bS H2
     refine oC3 3 ts55 rfl rfl (nn (sr (oA 0 Tryd.underlying53 rfl ts51 rfl (oL 1 ts51 rfl (oA 0 Tryd.underlying55 rfl ts41 rfl (oB2 3 ts41 rfl (oE (stpU_call (fun i => 4 + i) cf48 (fun w hw => c_i_noteOf fl w x8.n x37.k rfl (RO.pass hr9 hw) x39 e39) (yB rfl rfl)) rfl ?_)))))))
     rintro _ _ ⟨_, ⟨rfl, rfl⟩, rfl⟩
     obtain ⟨y40, ey40, H2⟩ := bS H2
     refine oW rfl (oM rfl (ow_cutY 9 105 y40 ?_ ?_))
     ·rcases Bool.eq_false_or_eq_true (decide (x39 < 0)) with hy40 | hy40
      ·have ey40 := cond_t ey40 hy40
       refine oO rfl hy40 rfl (oO rfl hy40 rfl (oO rfl hy40 rfl (oO rfl hy40 rfl (oO rfl hy40 rfl (oO rfl hy40 rfl (oO rfl hy40 rfl (oO rfl hy40 rfl (oD (stp_pick_t rfl hy40 rfl) rfl ?_))))))))
       obtain rfl := sI ey40
       exact ow_nil (jy 9 0)
      have ey40 := cond_f ey40 hy40
      obtain ⟨x41, e41, ey40⟩ := bS ey40
      refine oG rfl hy40 (fA 2 Tryd.underlying55 rfl ts3 rfl rfl rfl) rfl (oG rfl hy40 (lB 3 ts3 rfl rfl rfl) rfl (oG rfl hy40 (fA 0 Tryd.underlying37 rfl ts34 rfl rfl rfl) rfl (oG rfl hy40 (fA 1 Tryd.underlying34 rfl ts32 rfl rfl rfl) rfl (oG rfl hy40 (lB 0 ts32 rfl rfl rfl) rfl (oG rfl hy40 (stp_len Tryd.underlying32 rfl) rfl (ow_eff (.some rfl hy40) (stpU_call (fun i => 4 + i) cf76 (fun w hw => c_i_within fl w x37.fr ((a0.t.f).length : Int) x41 e41) (yB rfl rfl)) rfl ?_))))))
      rintro _ _ ⟨_, ⟨rfl, rfl⟩, rfl⟩
      refine oG rfl hy40 (stp_not rfl) rfl (oD (stp_pick_f rfl hy40 rfl) rfl ?_)
      obtain rfl := sI ey40
      exact ow_nil (jy 9 0)
     obtain ⟨y42, ey42, H2⟩ := bS H2
     refine oM rfl (ow_cutY 9 115 y42 ?_ ?_)
     ·rcases Bool.eq_false_or_eq_true y40 with hy42 | hy42
      ·have ey42 := cond_t ey42 hy42
       refine oO rfl hy42 rfl (oO rfl hy42 rfl (oO rfl hy42 rfl (oO rfl hy42 rfl (oO rfl hy42 rfl (oO rfl hy42 rfl (oO rfl hy42 rfl (oO rfl hy42 rfl (oD (stp_pick_t rfl hy42 rfl) rfl ?_))))))))
       obtain rfl := sI ey42
       exact ow_nil (jy 9 0)
      have ey42 := cond_f ey42 hy42
      obtain ⟨x43, e43, ey42⟩ := bS ey42
      refine oG rfl hy42 (fA 0 Tryd.underlying37 rfl ts34 rfl rfl rfl) rfl (oG rfl hy42 (fA 1 Tryd.underlying34 rfl ts32 rfl rfl rfl) rfl (oG rfl hy42 (lB 0 ts32 rfl rfl rfl) rfl (oG rfl hy42 (fA 2 Tryd.underlying55 rfl ts3 rfl rfl rfl) rfl (oG rfl hy42 (lB 3 ts3 rfl rfl rfl) rfl (oG rfl hy42 (stp_indexAddr Tryd.underlying32 ts71 (by decide) rfl rfl rfl (Rdb.ro hr0_1) e43) rfl (oG rfl hy42 (fA 0 Tryd.underlying71 rfl ts4 rfl rfl rfl) rfl (oG rfl hy42 (stp_load1 ts4 rfl (Cells.el (Rdb.ro hr0_1) (by decide) e43 0 1 rfl)) rfl (oD (stp_pick_f rfl hy42 rfl) rfl ?_))))))))
      obtain rfl := sI ey42
      exact ow_nil (jy 9 0)
     refine ow_nil (kw_nx (cw_cond rfl (fun h44 => ?_) (fun h44 => ?_)))
     ·have H2 := cond_t H2 h44
      refine sr (oS rfl (nn (cw_ret (kw_bl_ret (kw_nx_ret (kw_lq_ret (kw_bl_ret (kw_join_ret (kw_bl_ret (kw_nx_ret (kw_lq_ret (kw_bl_ret (kw_join_ret ?_)))))))))))))
      refine kw_nx_ret ?_
      obtain rfl := sI H2
      obtain rfl := sI H1
      obtain rfl := sI H0
      exact kr Tryd.results23 (rT rfl) [] ⟨rfl, rfl⟩
     have H2 := cond_f H2 h44
     obtain ⟨x45, e45, H2⟩ := bS H2
     exact cw_skip (kw_bl_normal (kw_nx (cw_region (oP e45 rfl (oM rfl (ow_nil (kw_lqS (js := [0, 1]) (fuel, x45) H2 (Nat.lt_succ_self _) ⟨rfl, rfl, rfl, rfl, rfl, rfl, rfl, rfl, trivial⟩ ⟨0, [1], rfl, rfl, 1, [], rfl, rfl, trivial⟩ (by decide))))))))
    have H2 := cond_f H2 h36
    refine cw_exit (kw_nx_exit (kw_lq_exit (kw_bl ?_)))
    obtain rfl := sI H2
    exact kw_joinS (js := [0, 1]) v35 rfl ⟨rfl, rfl, rfl, rfl, rfl, rfl, rfl, rfl, trivial⟩ ⟨0, [1], rfl, rfl, 1, [], rfl, rfl, trivial⟩ (by decide)
   rintro v35 rfl
   dsimp only
   obtain ⟨x46, e46, H1⟩ := bS H1
   exact kw_bl_normal (kw_nx (cw_region (oP e46 rfl (oM rfl (ow_nil (kw_lqS (js := [0]) (fuel, x46) H1 (Nat.lt_succ_self _) ⟨rfl, rfl, rfl, rfl, trivial⟩ ⟨0, [], rfl, rfl, trivial⟩ (by decide)))))))
  have H1 := cond_f H1 h7
  refine cw_exit (kw_nx_exit (kw_lq_exit (kw_bl ?_)))
  obtain rfl := sI H1
  exact kw_joinS (js := [0]) v6 rfl ⟨rfl, rfl, rfl, rfl, trivial⟩ ⟨0, [], rfl, rfl, trivial⟩ (by decide)
 rintro v6 rfl
 dsimp only
 refine kw_nx (sr (oS rfl (nn (cw_ret ?_))))
 obtain rfl := sI H0
 exact kr Tryd.results23 (rT rfl) [] ⟨rfl, rfl⟩
end Go.Proofs.YtfnliecmagnkdabDoor
