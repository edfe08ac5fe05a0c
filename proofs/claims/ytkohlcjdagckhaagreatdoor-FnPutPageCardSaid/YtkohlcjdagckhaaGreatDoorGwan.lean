/- The walks: functions of the program return what their pure functions say. Printed by a program (gen.py). -/
import Derived.Test.YtkohlcjdagckhaaGreatDoorGp
import Derived.Test.YtkohlcjdagckhaaGreatDoorGt
import Derived.Test.YtkohlcjdagckhaaGreatDoorMan
import Derived.Test.YtkohlcjdagckhaaGreatDoorMap
import Derived.Test.YtkohlcjdagckhaaGreatDoorCpy
import Derived.Test.YtkohlcjdagckhaaGreatDoorE8
import Derived.Test.YtkohlcjdagckhaaGreatDoorGwac
set_option linter.unusedSimpArgs false
set_option linter.unusedVariables false
set_option linter.unusedSectionVars false
namespace Go.Proofs.YtkohlcjdagckhaaGreatDoor
open Go.RowKit
set_option maxHeartbeats 4000000
set_option maxRecDepth 20000
variable {p0_0 p0_1 p0_2 p0_3 : Option Addr} {n0_0 n0_1 n0_2 n0_3 : Nat} {c0_0 c0_1 c0_2 c0_3 : Nat}
theorem c_i_TagOf (fl : Nat) (w : World) (a0 : Tg) (a1 : Int) (hn0_0 : n0_0 = (a0.o).length) (hr0_0 : RO w (hkeys []) (RdL p0_0 c0_0 a0.o)) (r : Int × Bool) (H0 : i_TagOf fl a0 a1 = some r) :
  Ct Tryz.prog 130 [.agg #[.int .i64 a0.c, .int .i64 a0.n, .int .i64 a0.r, .slice p0_0 n0_0 c0_0], .int .i64 a1] w [] (fun rv h' => rv = .tuple #[.int .i64 r.1, .bool r.2] ∧ h' = []) := by
 subst hn0_0
 unfold i_TagOf at H0
 refine ct_of_cw Tryz.func130 rfl Tryz.ntmps130 rfl (Sat.refl _ _) ?_
 refine sr (oE (stpU_box 0 rfl rfl) rfl ?_)
 rintro _ _ ⟨b1, rfl, rfl⟩
 obtain ⟨x2, e2, H0⟩ := bS H0
 refine oS rfl (oS rfl (nn (cw_seq (sr (oB4 0 ts32 rfl (oE (stpU_call (fun i => 1 + i) cf56 (fun w hw => c_i_TagsValid fl w a0 rfl (RO.pass hr0_0 hw) x2 e2) (yA rfl)) rfl ?_))))))
 rintro _ _ ⟨_, ⟨rfl, rfl⟩, rfl⟩
 obtain ⟨y3, ey3, H0⟩ := bS H0
 refine oK rfl (oM rfl (ow_cutY 5 14 y3 ?_ ?_))
 ·rcases Bool.eq_false_or_eq_true (!x2) with hy3 | hy3
  ·have ey3 := cond_t ey3 hy3
   refine oO rfl hy3 rfl (oO rfl hy3 rfl (oO rfl hy3 rfl (oO rfl hy3 rfl (oD (stp_pick_t rfl hy3 rfl) rfl ?_))))
   obtain rfl := sI ey3
   exact ow_nil (jy 5 0)
  have ey3 := cond_f ey3 hy3
  obtain ⟨x4, e4, ey3⟩ := bS ey3
  refine oG rfl hy3 (stp_loadN (us := [_, _, _, _]) ts32 rfl (Cells.box (id := 0) rfl 4 rfl)) rfl (oG rfl hy3 (mv rfl) rfl (ow_eff (.some rfl hy3) (stpU_call (fun i => 1 + i) cf57 (fun w hw => c_i_Tags_own fl w a0 a1 rfl (RO.pass hr0_0 hw) x4 e4) (yB rfl rfl)) rfl ?_))
  rintro _ _ ⟨_, ⟨rfl, rfl⟩, rfl⟩
  refine oG rfl hy3 (stp_lss rfl rfl) rfl (oD (stp_pick_f rfl hy3 rfl) rfl ?_)
  obtain rfl := sI ey3
  exact ow_nil (jy 5 0)
 refine ow_nil (kw_nx (cw_cond rfl (fun h5 => ?_) (fun h5 => ?_)))
 ·have H0 := cond_t H0 h5
  refine sr (oS rfl (oS rfl (nn (cw_ret (kw_nx_ret ?_)))))
  obtain rfl := sI H0
  exact kr Tryz.results130 (.cons (.tmp rfl) (rT rfl)) [] ⟨rfl, rfl⟩
 have H0 := cond_f H0 h5
 obtain ⟨x6, e6, H0⟩ := bS H0
 obtain ⟨x7, e7, H0⟩ := bS H0
 refine cw_skip (kw_nx (cw_seq (rdq g_mixed [1, 2] [0] { dst := dS [16, 17, 18, 19, 20, 21, 22, 23, 5, 6], pre := gA [] [[], [0], [], [], [2, 3], rn 0 5, rn 0 6, rn 0 7, rn 0 8, rn 0 9], ids := fun _ => [], rs := rL [[(2, 0)], [(15, 1)], [(2, 0)], [(1, 0)], [(17, 3), (18, 4)], [(16, 2), (19, 5)], [(20, 6)], [(21, 7)], [(22, 8)], []], rh := rL [[], [(0, 0)], [(0, 0)]], V := fun i g => gA undef [.pointer (some ⟨b1, 3, none⟩), .slice p0_0 ((a0.o).length) c0_0, .agg #[.int .i64 a0.c, .int .i64 a0.n, .int .i64 a0.r, .slice p0_0 ((a0.o).length) c0_0], .int .i64 a1, .int .i64 x6, .pointer (some ⟨eB p0_0, eO p0_0 + Int.toNat x6 * Enc.sz Ow + 0, none⟩), .pointer (some ⟨eB p0_0, eO p0_0 + Int.toNat x6 * Enc.sz Ow + 1, none⟩), .int .i64 x7.tg, .int .i64 x7.tg, .bool true] i, U := fun _ _ => [], Φ := fun _ _ => True } ?_ ?_)))
 ·refine ⟨lc rfl rfl fun hs hh => stp_fieldAddr (j := 3) Tryz.underlying32 rfl ts30 rfl (sv hs 2 rfl) rfl, lc rfl rfl fun hs hh => stp_load1 ts30 (sv hs 15 rfl) (Cells.box (id := 0) (hh.get 0 _ rfl) 1 rfl), lc rfl rfl fun hs hh => stp_loadN (us := [_, _, _, _]) ts32 (sv hs 2 rfl) (Cells.box (id := 0) (hh.get 0 _ rfl) 4 rfl), lM, ?_, lc rfl rfl fun hs hh => stp_indexAddr Tryz.underlying30 ts118 (by decide) (sv hs 16 rfl) rfl (sv hs 19 rfl) (Rdb.ro hr0_0) e7, lc rfl rfl fun hs hh => stp_fieldAddr (j := 1) Tryz.underlying118 rfl ts3 rfl (sv hs 20 rfl) rfl, lc rfl rfl fun hs hh => stp_load1 ts3 (sv hs 21 rfl) (Cells.el (Rdb.ro hr0_0) (by decide) e7 1 1 rfl), lS, lc rfl rfl fun hs hh => stp_assign rfl, trivial⟩
  refine le rfl rfl (fun g hΦ s h hs hh => (stpU_call (fun i => 1 + i) cf57 (fun w hw => c_i_Tags_own fl w a0 a1 rfl (RO.pass hr0_0 hw) x6 e6) (yB (sv hs 17 rfl) (sv hs 18 rfl)))) ?_
  rintro g _ _ ⟨_, ⟨rfl, rfl⟩, rfl⟩
  exact ⟨⟨[], [], []⟩, trivial, .inr rfl, rfl⟩
 intro g hΦ
 refine KW.sub (s' := [(4, .int .i64 x7.tg), (5, .bool true)]) (h' := []) ?_ ⟨rfl, rfl, trivial⟩ trivial
 refine kw_nx (cw_ret ?_)
 obtain rfl := sI H0
 exact kr Tryz.results130 (.cons (.tmp rfl) (rT rfl)) [] ⟨rfl, rfl⟩

theorem c_i_Machine_tagFor (fl : Nat) (w : World) (a0 : Mc) (a1 : Int) (a2 : Int) (hn0_0 : n0_0 = (a0.t.b).length) (hr0_0 : RO w (hkeys []) (RdL p0_0 c0_0 a0.t.b)) (hn0_1 : n0_1 = (a0.t.f).length) (hr0_1 : RO w (hkeys []) (RdL p0_1 c0_1 a0.t.f)) (hn0_2 : n0_2 = (a0.c.l).length) (hr0_2 : RO w (hkeys []) (RdL p0_2 c0_2 a0.c.l)) (hn0_3 : n0_3 = (a0.g.o).length) (hr0_3 : RO w (hkeys []) (RdL p0_3 c0_3 a0.g.o)) (r : Int × Bool) (H0 : i_Machine_tagFor fl a0 a1 a2 = some r) :
  Ct Tryz.prog 81 [.agg #[.slice p0_0 n0_0 c0_0, .slice p0_1 n0_1 c0_1, .slice p0_2 n0_2 c0_2, .int .i64 a0.c.h, .int .i64 a0.g.c, .int .i64 a0.g.n, .int .i64 a0.g.r, .slice p0_3 n0_3 c0_3, .int .i64 a0.s], .int .i64 a1, .int .i64 a2] w [] (fun rv h' => rv = .tuple #[.int .i64 r.1, .bool r.2] ∧ h' = []) := by
 subst hn0_0 hn0_1 hn0_2 hn0_3
 unfold i_Machine_tagFor at H0
 refine ct_of_cw Tryz.func81 rfl Tryz.ntmps81 rfl (Sat.refl _ _) ?_
 refine sr (oE (stpU_box 0 rfl rfl) rfl ?_)
 rintro _ _ ⟨b1, rfl, rfl⟩
 refine oS rfl (oS rfl (nn (cw_seq (sr (oM rfl (oI rfl (nn (cw_cond rfl (fun h2 => ?_) (fun h2 => ?_)))))))))
 ·have H0 := cond_t H0 h2
  refine sr (oS rfl (oS rfl (nn (cw_ret (kw_nx_ret ?_)))))
  obtain rfl := sI H0
  exact kr Tryz.results81 (.cons (.tmp rfl) (rT rfl)) [] ⟨rfl, rfl⟩
 have H0 := cond_f H0 h2
 obtain ⟨x3, e3, H0⟩ := bS H0
 refine cw_skip (kw_nx (sr (oA 4 Tryz.underlying34 rfl ts32 rfl (oB4 0 ts32 rfl (oM rfl (oE (stpU_call (fun i => 1 + i) cf130 (fun w hw => c_i_TagOf fl w a0.g a1 rfl (RO.pass hr0_3 hw) x3 e3) (yB rfl rfl)) rfl ?_))))))
 rintro _ _ ⟨_, ⟨rfl, rfl⟩, rfl⟩
 refine oT rfl (oT rfl (oS rfl (oS rfl (nn (cw_ret ?_)))))
 obtain rfl := sI H0
 exact kr Tryz.results81 (.cons (.tmp rfl) (rT rfl)) [] ⟨rfl, rfl⟩

theorem c_i_Cache_place_1 (fl : Nat) (w : World) (a0 : Ln) (qc0 : Nat) (ac0 : Int) (qc1 : Nat) (ac1 : Int) (hbac0 : RO w (hkeys []) (fun w' => w'.rangeAt qc0 0 [.int .i64 ac0])) (hbac1 : RO w (hkeys []) (fun w' => w'.rangeAt qc1 0 [.int .i64 ac1])) (r : Bool) (H0 : i_Cache_place_1 fl a0 ac0 ac1 = some r) :
  Ct Tryz.prog 132 [.agg #[.bool a0.va, .int .i64 a0.tg, .int .i64 a0.pg, .int .i64 a0.fr, .int .i64 a0.ri, .bool a0.wi], .pointer (some ⟨qc0, 0, none⟩), .pointer (some ⟨qc1, 0, none⟩)] w [] (fun rv h' => rv = .bool r ∧ h' = []) := by
 unfold i_Cache_place_1 at H0
 refine ct_of_cw Tryz.func132 rfl Tryz.ntmps132 rfl (Sat.refl _ _) ?_
 refine sr (oE (stpU_box 0 rfl rfl) rfl ?_)
 rintro _ _ ⟨b1, rfl, rfl⟩
 obtain ⟨y2, ey2, H0⟩ := bS H0
 refine oS rfl (nn (sr (oA 0 Tryz.underlying41 rfl ts4 rfl (oL 0 ts4 rfl (oM rfl (ow_cutY 5 12 y2 ?_ ?_))))))
 ·rcases Bool.eq_false_or_eq_true a0.va with hy2 | hy2
  ·have ey2 := cond_t ey2 hy2
   refine oG rfl hy2 (fA 2 Tryz.underlying41 rfl ts3 rfl rfl rfl) rfl (oG rfl hy2 (lB 0 ts3 rfl rfl rfl) rfl (oG rfl hy2 (stp_load1 ts3 rfl (Cells.ofRO hbac0 1 rfl)) rfl (oG rfl hy2 (stp_eql rfl rfl) rfl (oD (stp_pick_t rfl hy2 rfl) rfl ?_))))
   obtain rfl := sI ey2
   exact ow_nil (jy 5 0)
  have ey2 := cond_f ey2 hy2
  refine oO rfl hy2 rfl (oO rfl hy2 rfl (oO rfl hy2 rfl (oO rfl hy2 rfl (oD (stp_pick_f rfl hy2 rfl) rfl ?_))))
  obtain rfl := sI ey2
  exact ow_nil (jy 5 0)
 obtain ⟨y3, ey3, H0⟩ := bS H0
 refine oM rfl (ow_cutY 10 23 y3 ?_ ?_)
 ·rcases Bool.eq_false_or_eq_true y2 with hy3 | hy3
  ·have ey3 := cond_t ey3 hy3
   obtain ⟨y4, ey4, ey3⟩ := bS ey3
   refine oG rfl hy3 (fA 1 Tryz.underlying41 rfl ts3 rfl rfl rfl) rfl (oG rfl hy3 (lB 0 ts3 rfl rfl rfl) rfl (oG rfl hy3 (stp_load1 ts3 rfl (Cells.ofRO hbac1 1 rfl)) rfl (oG rfl hy3 (stp_eql rfl rfl) rfl (oG rfl hy3 (mv rfl) rfl (ow_cutY 4 22 y4 ?_ ?_)))))
   ·rcases Bool.eq_false_or_eq_true (a0.tg == ac1) with hy4 | hy4
    ·have ey4 := cond_t ey4 hy4
     refine oO rfl hy4 rfl (oO rfl hy4 rfl (oO rfl hy4 rfl (oG rfl hy3 (stp_pick_t rfl hy4 rfl) rfl ?_)))
     obtain rfl := sI ey4
     exact ow_nil (jy 4 0)
    have ey4 := cond_f ey4 hy4
    refine oG rfl hy4 (fA 1 Tryz.underlying41 rfl ts3 rfl rfl rfl) rfl (oG rfl hy4 (lB 0 ts3 rfl rfl rfl) rfl (oG rfl hy4 (stp_eql rfl rfl) rfl (oG rfl hy3 (stp_pick_f rfl hy4 rfl) rfl ?_)))
    obtain rfl := sI ey4
    exact ow_nil (jy 4 0)
   refine oD (stp_pick_t rfl hy3 rfl) rfl ?_
   obtain rfl := sI ey3
   exact ow_nil (jy 7 0)
  have ey3 := cond_f ey3 hy3
  refine oO rfl hy3 rfl (oO rfl hy3 rfl (oO rfl hy3 rfl (oO rfl hy3 rfl (oO rfl hy3 rfl (oX rfl rfl rfl (oX rfl rfl rfl (oX rfl rfl rfl (oO rfl hy3 rfl (oD (stp_pick_f rfl hy3 rfl) rfl ?_)))))))))
  obtain rfl := sI ey3
  exact ow_nil (jy 10 0)
 refine oS rfl (nn (cw_ret ?_))
 obtain rfl := sI H0
 exact kr Tryz.results132 (rT rfl) [] ⟨rfl, rfl⟩

theorem c_slices_IndexFunc_Line_of_i_Cache_place_1 (fl : Nat) (w : World) (a0 : (List Ln)) (q1_0 : Nat) (a1_0 : Int) (q1_1 : Nat) (a1_1 : Int) (hn0_0 : n0_0 = (a0).length) (hr0_0 : RO w (hkeys []) (RdL p0_0 c0_0 a0)) (hba1_0 : RO w (hkeys []) (fun w' => w'.rangeAt q1_0 0 [.int .i64 a1_0])) (hba1_1 : RO w (hkeys []) (fun w' => w'.rangeAt q1_1 0 [.int .i64 a1_1])) (r : Int) (H0 : slices_IndexFunc_Line_of_i_Cache_place_1 fl a0 a1_0 a1_1 = some r) :
  Ct Tryz.prog 131 [.slice p0_0 n0_0 c0_0, .func (.func 132) #[] #[.pointer (some ⟨q1_0, 0, none⟩), .pointer (some ⟨q1_1, 0, none⟩)]] w [] (fun rv h' => rv = .int .i64 r ∧ h' = []) := by
 subst hn0_0
 unfold slices_IndexFunc_Line_of_i_Cache_place_1 at H0
 refine ct_of_cw Tryz.func131 rfl Tryz.ntmps131 rfl (Sat.refl _ _) ?_
 obtain ⟨o0_0, eo0_0, H0⟩ := bS H0
 refine sr (oS rfl (nn (cw_seq (sr (oM rfl (oD (stp_len Tryz.underlying27 rfl) rfl (oM rfl (nn (cw_join (ι := Int) (fun | v1 => o0_0 = .out v1) (fun | v1 => [(0, .slice p0_0 ((a0).length) c0_0), (1, .func (.func 132) #[] #[.pointer (some ⟨q1_0, 0, none⟩), .pointer (some ⟨q1_1, 0, none⟩)]), (7, .int .i64 ((a0).length : Int)), (8, .int .i64 v1)]) (fun | v1 => []) ?_ ?_)))))))))
 ·refine cw_block (cw_loopS (ι := Nat × Int) (js := []) (fun x => x.1) (fun | (fuel, v1) => slices_IndexFunc_Line_of_i_Cache_place_1_L0 fl a0 a1_0 a1_1 fuel v1 = some o0_0) (fun | (_, v1) => [(0, .slice p0_0 ((a0).length) c0_0), (1, .func (.func 132) #[] #[.pointer (some ⟨q1_0, 0, none⟩), .pointer (some ⟨q1_1, 0, none⟩)]), (7, .int .i64 ((a0).length : Int)), (8, .int .i64 v1)]) (fun | (_, v1) => []) (fl, 0) eo0_0 ⟨rfl, rfl, rfl, rfl, trivial⟩ trivial (by decide) ?_)
  rintro ⟨fuel, v1⟩ H1
  have H1 : slices_IndexFunc_Line_of_i_Cache_place_1_L0 fl a0 a1_0 a1_1 fuel v1 = some o0_0 := H1
  rcases fuel with _ | fuel
  ·rw [slices_IndexFunc_Line_of_i_Cache_place_1_L0.eq_1] at H1; cases H1
  rw [slices_IndexFunc_Line_of_i_Cache_place_1_L0.eq_2] at H1
  dsimp only
  refine sr (oW rfl (nn (cw_seq (cw_cond rfl (fun h2 => ?_) (fun h2 => ?_)))))
  ·have H1 := cond_t H1 h2
   obtain ⟨x3, e3, H1⟩ := bS H1
   refine cw_skip (kw_nx (cw_seq (cw_block (sr (oM rfl (oS rfl (nn (sr (oM rfl (oM rfl (oM rfl (oD (stp_indexAddr Tryz.underlying27 ts41 (by decide) rfl rfl rfl (Rdb.ro hr0_0) e3) rfl (oD (stp_loadN (us := [_, _, _, _, _, _]) ts41 rfl (Cells.el (Rdb.ro hr0_0) (by decide) e3 0 6 rfl)) rfl ?_)))))))))))))
   obtain ⟨x4, e4, H1⟩ := bS H1
   refine oE (stpU_callF (vals := [_]) (ca := [_, _]) (fun i => 0 + i) cf132 (fun w hw => c_i_Cache_place_1 fl w x3 q1_0 a1_0 q1_1 a1_1 (RO.pass hba1_0 hw) (RO.pass hba1_1 hw) x4 e4) rfl (yA rfl)) rfl ?_
   rintro _ _ ⟨_, ⟨rfl, rfl⟩, rfl⟩
   refine nn (cw_cond rfl (fun h5 => ?_) (fun h5 => ?_))
   ·have H1 := cond_t H1 h5
    refine sr (oM rfl (oS rfl (nn (cw_ret (kw_bl_ret (kw_nx_ret (kw_lq_ret (kw_bl_ret (kw_join_ret (kw_nx_ret ?_))))))))))
    obtain rfl := sI H1
    obtain rfl := sI H0
    exact kr Tryz.results131 (rT rfl) [] ⟨rfl, rfl⟩
   have H1 := cond_f H1 h5
   obtain ⟨x6, e6, H1⟩ := bS H1
   exact cw_skip (kw_bl_normal (kw_nx (cw_region (oP e6 rfl (oM rfl (ow_nil (kw_lqS (js := []) (fuel, x6) H1 (Nat.lt_succ_self _) ⟨rfl, rfl, rfl, rfl, trivial⟩ trivial (by decide))))))))
  have H1 := cond_f H1 h2
  refine cw_exit (kw_nx_exit (kw_lq_exit (kw_bl ?_)))
  obtain rfl := sI H1
  exact kw_joinS (js := []) v1 rfl ⟨rfl, rfl, rfl, rfl, trivial⟩ trivial (by decide)
 rintro v1 rfl
 dsimp only
 refine kw_nx (sr (oS rfl (nn (cw_ret ?_))))
 obtain rfl := sI H0
 exact kr Tryz.results131 (rT rfl) [] ⟨rfl, rfl⟩

theorem c_i_Cache_place (fl : Nat) (w : World) (a0 : Ca) (a1 : Int) (a2 : Int) (hn0_0 : n0_0 = (a0.l).length) (hr0_0 : RO w (hkeys []) (RdL p0_0 c0_0 a0.l)) (r : Int) (H0 : i_Cache_place fl a0 a1 a2 = some r) :
  Ct Tryz.prog 82 [.agg #[.slice p0_0 n0_0 c0_0, .int .i64 a0.h], .int .i64 a1, .int .i64 a2] w [] (fun rv h' => rv = .int .i64 r ∧ h' = []) := by
 subst hn0_0
 unfold i_Cache_place at H0
 refine ct_of_cw Tryz.func82 rfl Tryz.ntmps82 rfl (Sat.refl _ _) ?_
 refine sr (oE (stpU_box 0 rfl rfl) rfl ?_)
 rintro _ _ ⟨b1, rfl, rfl⟩
 refine oE (stpU_box 1 rfl rfl) rfl ?_
 rintro _ _ ⟨b2, rfl, rfl⟩
 refine oE (stpU_box 2 rfl rfl) rfl ?_
 rintro _ _ ⟨b3, rfl, rfl⟩
 obtain ⟨x4, e4, H0⟩ := bS H0
 refine oS rfl (nn (sr (oA 0 Tryz.underlying29 rfl ts27 rfl (oL 0 ts27 rfl (oD (stp_makeFunc (yB rfl rfl)) rfl (oE (stpU_call (fun i => 3 + i) cf131 (fun w hw => c_slices_IndexFunc_Line_of_i_Cache_place_1 fl w a0.l b3 a2 b2 a1 rfl (RO.pass hr0_0 hw) (box_pass (id := 2) rfl hw) (box_pass (id := 1) rfl hw) x4 e4) (yB rfl rfl)) rfl ?_))))))
 rintro _ _ ⟨_, ⟨rfl, rfl⟩, rfl⟩
 refine oS rfl (nn (cw_ret ?_))
 obtain rfl := sI H0
 exact kr Tryz.results82 (rT rfl) [] ⟨rfl, rfl⟩
end Go.Proofs.YtkohlcjdagckhaaGreatDoor
