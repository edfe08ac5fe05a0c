/- The walks: functions of the program return what their pure functions say. Printed by a program (gen.py). -/
import Derived.Test.YtcloffimpakmnaaGreatDoorJp
import Derived.Test.YtcloffimpakmnaaGreatDoorJt
import Derived.Test.YtcloffimpakmnaaGreatDoorMan
import Derived.Test.YtcloffimpakmnaaGreatDoorMap
import Derived.Test.YtcloffimpakmnaaGreatDoorCpy
import Derived.Test.YtcloffimpakmnaaGreatDoorJe
import Derived.Test.YtcloffimpakmnaaGreatDoorJwaa
import Derived.Test.YtcloffimpakmnaaGreatDoorJwab
import Derived.Test.YtcloffimpakmnaaGreatDoorJws
set_option linter.unusedSimpArgs false
set_option linter.unusedVariables false
set_option linter.unusedSectionVars false
namespace Go.Proofs.YtcloffimpakmnaaGreatDoor
open Go.RowKit
set_option maxHeartbeats 4000000
set_option maxRecDepth 20000
variable {p0_0 p0_1 p0_2 p0_3 p1_0 p1_1 p1_2 p1_3 : Option Addr} {n0_0 n0_1 n0_2 n0_3 n1_0 n1_1 n1_2 n1_3 : Nat} {c0_0 c0_1 c0_2 c0_3 c1_0 c1_1 c1_2 c1_3 : Nat} {C1_0 C1_1 : Res}
theorem c_i_Tags_own (fl : Nat) (w : World) (a0 : Tg) (a1 : Int) (hn0_0 : n0_0 = (a0.o).length) (hr0_0 : RO w (hkeys []) (RdL p0_0 c0_0 a0.o)) (r : Int) (H0 : i_Tags_own fl a0 a1 = some r) :
  Ct Tryz.prog 39 [.agg #[.int .i64 a0.c, .int .i64 a0.n, .int .i64 a0.r, .slice p0_0 n0_0 c0_0], .int .i64 a1] w [] (fun rv h' => rv = .int .i64 r ∧ h' = []) := by
 subst hn0_0
 unfold i_Tags_own at H0
 refine ct_of_cw Tryz.func39 rfl Tryz.ntmps39 rfl (Sat.refl _ _) ?_
 refine sr (oE (stpU_box 0 rfl rfl) rfl ?_)
 rintro _ _ ⟨b1, rfl, rfl⟩
 refine oE (stpU_box 1 rfl rfl) rfl ?_
 rintro _ _ ⟨b2, rfl, rfl⟩
 obtain ⟨x3, e3, H0⟩ := bS H0
 refine oS rfl (nn (sr (oA 3 Tryz.underlying32 rfl ts30 rfl (oL 0 ts30 rfl (oD (stp_makeFunc (yA rfl)) rfl (oE (stpU_call (fun i => 2 + i) cf84 (fun w hw => c_slices_IndexFunc_Own_of_i_Tags_own_1 fl w a0.o b2 a1 rfl (RO.pass hr0_0 hw) (box_pass (id := 1) rfl hw) x3 e3) (yB rfl rfl)) rfl ?_))))))
 rintro _ _ ⟨_, ⟨rfl, rfl⟩, rfl⟩
 refine oS rfl (nn (cw_ret ?_))
 obtain rfl := sI H0
 exact kr Tryz.results39 (rT rfl) [] ⟨rfl, rfl⟩

theorem c_i_SpaceOf (fl : Nat) (w : World) (a0 : Tg) (a1 : Int) (hn0_0 : n0_0 = (a0.o).length) (hr0_0 : RO w (hkeys []) (RdL p0_0 c0_0 a0.o)) (r : Int × Bool) (H0 : i_SpaceOf fl a0 a1 = some r) :
  Ct Tryz.prog 40 [.agg #[.int .i64 a0.c, .int .i64 a0.n, .int .i64 a0.r, .slice p0_0 n0_0 c0_0], .int .i64 a1] w [] (fun rv h' => rv = .tuple #[.int .i64 r.1, .bool r.2] ∧ h' = []) := by
 subst hn0_0
 unfold i_SpaceOf at H0
 refine ct_of_cw Tryz.func40 rfl Tryz.ntmps40 rfl (Sat.refl _ _) ?_
 refine sr (oE (stpU_box 0 rfl rfl) rfl ?_)
 rintro _ _ ⟨b1, rfl, rfl⟩
 obtain ⟨x2, e2, H0⟩ := bS H0
 refine oS rfl (oS rfl (nn (cw_seq (sr (oB4 0 ts32 rfl (oE (stpU_call (fun i => 1 + i) cf38 (fun w hw => c_i_TagsValid fl w a0 rfl (RO.pass hr0_0 hw) x2 e2) (yA rfl)) rfl ?_))))))
 rintro _ _ ⟨_, ⟨rfl, rfl⟩, rfl⟩
 refine oK rfl (nn (cw_cond rfl (fun h3 => ?_) (fun h3 => ?_)))
 ·have H0 := cond_t H0 h3
  refine sr (oS rfl (oS rfl (nn (cw_ret (kw_nx_ret ?_)))))
  obtain rfl := sI H0
  exact kr Tryz.results40 (.cons (.tmp rfl) (rT rfl)) [] ⟨rfl, rfl⟩
 have H0 := cond_f H0 h3
 obtain ⟨o0_0, eo0_0, H0⟩ := bS H0
 refine cw_skip (kw_nx (cw_seq (sr (oA 3 Tryz.underlying32 rfl ts30 rfl (oL 0 ts30 rfl (oD (stp_len Tryz.underlying30 rfl) rfl (oM rfl (nn (cw_join (ι := Int) (fun | v4 => o0_0 = .out v4) (fun | v4 => [(1, .int .i64 a1), (12, .slice p0_0 ((a0.o).length) c0_0), (13, .int .i64 ((a0.o).length : Int)), (14, .int .i64 v4)]) (fun | v4 => []) ?_ ?_)))))))))
 ·refine cw_block (cw_loopS (ι := Nat × Int) (js := []) (fun x => x.1) (fun | (fuel, v4) => i_SpaceOf_L0 fl a0 a1 fuel v4 = some o0_0) (fun | (_, v4) => [(1, .int .i64 a1), (12, .slice p0_0 ((a0.o).length) c0_0), (13, .int .i64 ((a0.o).length : Int)), (14, .int .i64 v4)]) (fun | (_, v4) => []) (fl, 0) eo0_0 ⟨rfl, rfl, rfl, rfl, trivial⟩ trivial (by decide) ?_)
  rintro ⟨fuel, v4⟩ H1
  have H1 : i_SpaceOf_L0 fl a0 a1 fuel v4 = some o0_0 := H1
  rcases fuel with _ | fuel
  ·rw [i_SpaceOf_L0.eq_1] at H1; cases H1
  rw [i_SpaceOf_L0.eq_2] at H1
  dsimp only
  refine sr (oW rfl (nn (cw_seq (cw_cond rfl (fun h5 => ?_) (fun h5 => ?_)))))
  ·have H1 := cond_t H1 h5
   obtain ⟨x6, e6, H1⟩ := bS H1
   refine cw_skip (kw_nx (cw_seq (cw_block (sr (oD (stp_indexAddr Tryz.underlying30 ts108 (by decide) rfl rfl rfl (Rdb.ro hr0_0) e6) rfl (oD (stp_loadN (us := [_, _]) ts108 rfl (Cells.el (Rdb.ro hr0_0) (by decide) e6 0 2 rfl)) rfl (oE (stpU_alloc 1 tz108 rfl) rfl ?_)))))))
   rintro _ _ ⟨b7, rfl, rfl⟩
   refine oC2 1 ts108 rfl rfl (nn (sr (oA 1 Tryz.underlying108 rfl ts3 rfl (oL 1 ts3 rfl (oM rfl (oQ rfl (nn (cw_cond rfl (fun h8 => ?_) (fun h8 => ?_)))))))))
   ·have H1 := cond_t H1 h8
    refine sr (oA 0 Tryz.underlying108 rfl ts3 rfl (oL 1 ts3 rfl (oS rfl (oS rfl (nn (cw_ret (kw_bl_ret (kw_nx_ret (kw_lq_ret (kw_bl_ret (kw_join_ret (kw_nx_ret ?_))))))))))))
    obtain rfl := sI H1
    obtain rfl := sI H0
    exact kr Tryz.results40 (.cons (.tmp rfl) (rT rfl)) [] ⟨rfl, rfl⟩
   have H1 := cond_f H1 h8
   obtain ⟨x9, e9, H1⟩ := bS H1
   exact cw_skip (kw_bl_normal (kw_nx (cw_region (oP e9 rfl (oM rfl (ow_nil (kw_lqS (js := []) (fuel, x9) H1 (Nat.lt_succ_self _) ⟨rfl, rfl, rfl, rfl, trivial⟩ trivial (by decide))))))))
  have H1 := cond_f H1 h5
  refine cw_exit (kw_nx_exit (kw_lq_exit (kw_bl ?_)))
  obtain rfl := sI H1
  exact kw_joinS (js := []) v4 rfl ⟨rfl, rfl, rfl, rfl, trivial⟩ trivial (by decide)
 rintro v4 rfl
 dsimp only
 refine kw_nx (sr (oS rfl (oS rfl (nn (cw_ret ?_)))))
 obtain rfl := sI H0
 exact kr Tryz.results40 (.cons (.tmp rfl) (rT rfl)) [] ⟨rfl, rfl⟩

theorem c_i_KeyFor (fl : Nat) (w : World) (a0 : Int) (a1 : Int) (r : K) (H0 : i_KeyFor fl a0 a1 = some r) :
  Ct Tryz.prog 34 [.int .i64 a0, .int .i64 a1] w [] (fun rv h' => rv = .agg #[.int .i64 r.s, .int .i64 r.p] ∧ h' = []) := by
 unfold i_KeyFor at H0
 refine ct_of_cw Tryz.func34 rfl Tryz.ntmps34 rfl (Sat.refl _ _) ?_
 refine sr (oE (stpU_alloc 0 tz36 rfl) rfl ?_)
 rintro _ _ ⟨b1, rfl, rfl⟩
 refine nn (cw_seq (sr (oM rfl (oI rfl (nn (cw_cond rfl (fun h2 => ?_) (fun h2 => ?_)))))))
 ·have H0 := cond_t H0 h2
  refine cw_region (oS rfl (nn (sr (oM rfl (oM rfl (oD (stp_build (cs := #[.int .i64 0, .int .i64 a1]) (sevp_cons rfl (sevp_cons rfl sevp_nil)) bt36_13) rfl (oC2 0 ts36 rfl rfl (nn (cw_ret ?_)))))))))
  obtain rfl := sI H0
  exact kr Tryz.results34 (rC2 0 ts36 rfl rfl) [] ⟨rfl, rfl⟩
 have H0 := cond_f H0 h2
 refine cw_skip (kw_nx (sr (oM rfl (oM rfl (oD (stp_build (cs := #[.int .i64 a0, .int .i64 a1]) (sevp_cons rfl (sevp_cons rfl sevp_nil)) bt36_13) rfl (oC2 0 ts36 rfl rfl (nn (cw_ret ?_))))))))
 obtain rfl := sI H0
 exact kr Tryz.results34 (rC2 0 ts36 rfl rfl) [] ⟨rfl, rfl⟩

theorem c_i_Table_find_1 (fl : Nat) (w : World) (a0 : F) (qc0 : Nat) (ac0 : K) (hbac0 : RO w (hkeys []) (fun w' => w'.rangeAt qc0 0 [.int .i64 ac0.s, .int .i64 ac0.p])) (r : Bool) (H0 : i_Table_find_1 fl a0 ac0 = some r) :
  Ct Tryz.prog 77 [.agg #[.bool a0.u, .int .i64 a0.k.s, .int .i64 a0.k.p, .int .i64 a0.r, .int .i64 a0.nx], .pointer (some ⟨qc0, 0, none⟩)] w [] (fun rv h' => rv = .bool r ∧ h' = []) := by
 unfold i_Table_find_1 at H0
 refine ct_of_cw Tryz.func77 rfl Tryz.ntmps77 rfl (Sat.refl _ _) ?_
 refine sr (oE (stpU_box 0 rfl rfl) rfl ?_)
 rintro _ _ ⟨b1, rfl, rfl⟩
 obtain ⟨y2, ey2, H0⟩ := bS H0
 refine oS rfl (nn (sr (oA 0 Tryz.underlying74 rfl ts4 rfl (oL 0 ts4 rfl (oM rfl (ow_cutY 5 11 y2 ?_ ?_))))))
 ·rcases Bool.eq_false_or_eq_true a0.u with hy2 | hy2
  ·have ey2 := cond_t ey2 hy2
   refine oG rfl hy2 (fA 1 Tryz.underlying74 rfl ts36 rfl rfl rfl) rfl (oG rfl hy2 (stp_loadN (us := [_, _]) ts36 rfl (Cells.box (id := 0) rfl 2 rfl)) rfl (oG rfl hy2 (stp_loadN (us := [_, _]) ts36 rfl (Cells.ofRO hbac0 2 rfl)) rfl (oG rfl hy2 (stp_eqlS te36 a0.k ac0 rfl rfl) rfl (oD (stp_pick_t rfl hy2 rfl) rfl ?_))))
   obtain rfl := sI ey2
   exact ow_nil (jy 5 0)
  have ey2 := cond_f ey2 hy2
  refine oO rfl hy2 rfl (oO rfl hy2 rfl (oO rfl hy2 rfl (oO rfl hy2 rfl (oD (stp_pick_f rfl hy2 rfl) rfl ?_))))
  obtain rfl := sI ey2
  exact ow_nil (jy 5 0)
 refine oS rfl (nn (cw_ret ?_))
 obtain rfl := sI H0
 exact kr Tryz.results77 (rT rfl) [] ⟨rfl, rfl⟩

theorem c_slices_IndexFunc_Frame_of_i_Table_find_1 (fl : Nat) (w : World) (a0 : (List F)) (q1_0 : Nat) (a1_0 : K) (hn0_0 : n0_0 = (a0).length) (hr0_0 : RO w (hkeys []) (RdL p0_0 c0_0 a0)) (hba1_0 : RO w (hkeys []) (fun w' => w'.rangeAt q1_0 0 [.int .i64 a1_0.s, .int .i64 a1_0.p])) (r : Int) (H0 : slices_IndexFunc_Frame_of_i_Table_find_1 fl a0 a1_0 = some r) :
  Ct Tryz.prog 76 [.slice p0_0 n0_0 c0_0, .func (.func 77) #[] #[.pointer (some ⟨q1_0, 0, none⟩)]] w [] (fun rv h' => rv = .int .i64 r ∧ h' = []) := by
 subst hn0_0
 unfold slices_IndexFunc_Frame_of_i_Table_find_1 at H0
 refine ct_of_cw Tryz.func76 rfl Tryz.ntmps76 rfl (Sat.refl _ _) ?_
 obtain ⟨o0_0, eo0_0, H0⟩ := bS H0
 refine sr (oS rfl (nn (cw_seq (sr (oM rfl (oD (stp_len Tryz.underlying24 rfl) rfl (oM rfl (nn (cw_join (ι := Int) (fun | v1 => o0_0 = .out v1) (fun | v1 => [(0, .slice p0_0 ((a0).length) c0_0), (1, .func (.func 77) #[] #[.pointer (some ⟨q1_0, 0, none⟩)]), (7, .int .i64 ((a0).length : Int)), (8, .int .i64 v1)]) (fun | v1 => []) ?_ ?_)))))))))
 ·refine cw_block (cw_loopS (ι := Nat × Int) (js := []) (fun x => x.1) (fun | (fuel, v1) => slices_IndexFunc_Frame_of_i_Table_find_1_L0 fl a0 a1_0 fuel v1 = some o0_0) (fun | (_, v1) => [(0, .slice p0_0 ((a0).length) c0_0), (1, .func (.func 77) #[] #[.pointer (some ⟨q1_0, 0, none⟩)]), (7, .int .i64 ((a0).length : Int)), (8, .int .i64 v1)]) (fun | (_, v1) => []) (fl, 0) eo0_0 ⟨rfl, rfl, rfl, rfl, trivial⟩ trivial (by decide) ?_)
  rintro ⟨fuel, v1⟩ H1
  have H1 : slices_IndexFunc_Frame_of_i_Table_find_1_L0 fl a0 a1_0 fuel v1 = some o0_0 := H1
  rcases fuel with _ | fuel
  ·rw [slices_IndexFunc_Frame_of_i_Table_find_1_L0.eq_1] at H1; cases H1
  rw [slices_IndexFunc_Frame_of_i_Table_find_1_L0.eq_2] at H1
  dsimp only
  refine sr (oW rfl (nn (cw_seq (cw_cond rfl (fun h2 => ?_) (fun h2 => ?_)))))
  ·have H1 := cond_t H1 h2
   obtain ⟨x3, e3, H1⟩ := bS H1
   refine cw_skip (kw_nx (cw_seq (cw_block (sr (oM rfl (oS rfl (nn (sr (oM rfl (oM rfl (oM rfl (oD (stp_indexAddr Tryz.underlying24 ts74 (by decide) rfl rfl rfl (Rdb.ro hr0_0) e3) rfl (oD (stp_loadN (us := [_, _, _, _, _]) ts74 rfl (Cells.el (Rdb.ro hr0_0) (by decide) e3 0 5 rfl)) rfl ?_)))))))))))))
   obtain ⟨x4, e4, H1⟩ := bS H1
   refine oE (stpU_callF (vals := [_]) (ca := [_]) (fun i => 0 + i) cf77 (fun w hw => c_i_Table_find_1 fl w x3 q1_0 a1_0 (RO.pass hba1_0 hw) x4 e4) rfl (yA rfl)) rfl ?_
   rintro _ _ ⟨_, ⟨rfl, rfl⟩, rfl⟩
   refine nn (cw_cond rfl (fun h5 => ?_) (fun h5 => ?_))
   ·have H1 := cond_t H1 h5
    refine sr (oM rfl (oS rfl (nn (cw_ret (kw_bl_ret (kw_nx_ret (kw_lq_ret (kw_bl_ret (kw_join_ret (kw_nx_ret ?_))))))))))
    obtain rfl := sI H1
    obtain rfl := sI H0
    exact kr Tryz.results76 (rT rfl) [] ⟨rfl, rfl⟩
   have H1 := cond_f H1 h5
   obtain ⟨x6, e6, H1⟩ := bS H1
   exact cw_skip (kw_bl_normal (kw_nx (cw_region (oP e6 rfl (oM rfl (ow_nil (kw_lqS (js := []) (fuel, x6) H1 (Nat.lt_succ_self _) ⟨rfl, rfl, rfl, rfl, trivial⟩ trivial (by decide))))))))
  have H1 := cond_f H1 h2
  refine cw_exit (kw_nx_exit (kw_lq_exit (kw_bl ?_)))
  obtain rfl := sI H1
  exact kw_joinS (js := []) v1 rfl ⟨rfl, rfl, rfl, rfl, trivial⟩ trivial (by decide)
 rintro v1 rfl
 dsimp only
 refine kw_nx (sr (oS rfl (nn (cw_ret ?_))))
 obtain rfl := sI H0
 exact kr Tryz.results76 (rT rfl) [] ⟨rfl, rfl⟩

theorem c_i_Table_find (fl : Nat) (w : World) (a0 : T) (a1 : K) (hn0_0 : n0_0 = (a0.b).length) (hr0_0 : RO w (hkeys []) (RdL p0_0 c0_0 a0.b)) (hn0_1 : n0_1 = (a0.f).length) (hr0_1 : RO w (hkeys []) (RdL p0_1 c0_1 a0.f)) (r : Int) (H0 : i_Table_find fl a0 a1 = some r) :
  Ct Tryz.prog 33 [.agg #[.slice p0_0 n0_0 c0_0, .slice p0_1 n0_1 c0_1], .agg #[.int .i64 a1.s, .int .i64 a1.p]] w [] (fun rv h' => rv = .int .i64 r ∧ h' = []) := by
 subst hn0_0 hn0_1
 unfold i_Table_find at H0
 refine ct_of_cw Tryz.func33 rfl Tryz.ntmps33 rfl (Sat.refl _ _) ?_
 refine sr (oE (stpU_box 0 rfl rfl) rfl ?_)
 rintro _ _ ⟨b1, rfl, rfl⟩
 refine oE (stpU_box 1 rfl rfl) rfl ?_
 rintro _ _ ⟨b2, rfl, rfl⟩
 obtain ⟨x3, e3, H0⟩ := bS H0
 refine oS rfl (nn (sr (oA 1 Tryz.underlying26 rfl ts24 rfl (oL 0 ts24 rfl (oD (stp_makeFunc (yA rfl)) rfl (oE (stpU_call (fun i => 2 + i) cf76 (fun w hw => c_slices_IndexFunc_Frame_of_i_Table_find_1 fl w a0.f b2 a1 rfl (RO.pass hr0_1 hw) (box_pass (id := 1) rfl hw) x3 e3) (yB rfl rfl)) rfl ?_))))))
 rintro _ _ ⟨_, ⟨rfl, rfl⟩, rfl⟩
 refine oS rfl (nn (cw_ret ?_))
 obtain rfl := sI H0
 exact kr Tryz.results33 (rT rfl) [] ⟨rfl, rfl⟩

theorem c_i_MachineValid (fl : Nat) (w : World) (a0 : Mc) (hn0_0 : n0_0 = (a0.t.b).length) (hr0_0 : RO w (hkeys []) (RdL p0_0 c0_0 a0.t.b)) (hn0_1 : n0_1 = (a0.t.f).length) (hr0_1 : RO w (hkeys []) (RdL p0_1 c0_1 a0.t.f)) (hn0_2 : n0_2 = (a0.c.l).length) (hr0_2 : RO w (hkeys []) (RdL p0_2 c0_2 a0.c.l)) (hn0_3 : n0_3 = (a0.g.o).length) (hr0_3 : RO w (hkeys []) (RdL p0_3 c0_3 a0.g.o)) (hg : RO w (hkeys []) (fun w' => w'.rangeAt 0 0 [.bool false, .int .i64 0, .int .i64 0, .int .i64 0, .int .i64 (-1)])) (r : Bool) (H0 : i_MachineValid fl a0 = some r) :
  Ct Tryz.prog 12 [.agg #[.slice p0_0 n0_0 c0_0, .slice p0_1 n0_1 c0_1, .slice p0_2 n0_2 c0_2, .int .i64 a0.c.h, .int .i64 a0.g.c, .int .i64 a0.g.n, .int .i64 a0.g.r, .slice p0_3 n0_3 c0_3, .int .i64 a0.s]] w [] (fun rv h' => rv = .bool r ∧ h' = []) := by
 subst hn0_0 hn0_1 hn0_2 hn0_3
 unfold i_MachineValid at H0
 refine ct_of_cw Tryz.func12 rfl Tryz.ntmps12 rfl (Sat.refl _ _) ?_
 refine sr (oE (stpU_box 0 rfl rfl) rfl ?_)
 rintro _ _ ⟨b1, rfl, rfl⟩
 obtain ⟨x2, e2, H0⟩ := bS H0
 refine oS rfl (nn (cw_seq (sr (oA 0 Tryz.underlying34 rfl ts26 rfl (oB2 0 ts26 rfl (oE (stpU_call (fun i => 1 + i) cf36 (fun w hw => c_i_TableValid fl w a0.t rfl (RO.pass hr0_0 hw) rfl (RO.pass hr0_1 hw) (RO.pass hg hw) x2 e2) (yA rfl)) rfl ?_))))))
 rintro _ _ ⟨_, ⟨rfl, rfl⟩, rfl⟩
 obtain ⟨y3, ey3, H0⟩ := bS H0
 refine oK rfl (oM rfl (ow_cutY 5 21 y3 ?_ ?_))
 ·rcases Bool.eq_false_or_eq_true (!x2) with hy3 | hy3
  ·have ey3 := cond_t ey3 hy3
   refine oO rfl hy3 rfl (oO rfl hy3 rfl (oO rfl hy3 rfl (oO rfl hy3 rfl (oD (stp_pick_t rfl hy3 rfl) rfl ?_))))
   obtain rfl := sI ey3
   exact ow_nil (jy 5 0)
  have ey3 := cond_f ey3 hy3
  obtain ⟨x4, e4, ey3⟩ := bS ey3
  refine oG rfl hy3 (fA 2 Tryz.underlying34 rfl ts29 rfl rfl rfl) rfl (oG rfl hy3 (stp_loadN (us := [_, _]) ts29 rfl (Cells.box (id := 0) rfl 2 rfl)) rfl (ow_eff (.some rfl hy3) (stpU_call (fun i => 1 + i) cf37 (fun w hw => c_i_CacheValid fl w a0.c rfl (RO.pass hr0_2 hw) x4 e4) (yA rfl)) rfl ?_))
  rintro _ _ ⟨_, ⟨rfl, rfl⟩, rfl⟩
  refine oG rfl hy3 (stp_not rfl) rfl (oD (stp_pick_f rfl hy3 rfl) rfl ?_)
  obtain rfl := sI ey3
  exact ow_nil (jy 5 0)
 obtain ⟨y5, ey5, H0⟩ := bS H0
 refine oM rfl (ow_cutY 5 27 y5 ?_ ?_)
 ·rcases Bool.eq_false_or_eq_true y3 with hy5 | hy5
  ·have ey5 := cond_t ey5 hy5
   refine oO rfl hy5 rfl (oO rfl hy5 rfl (oO rfl hy5 rfl (oO rfl hy5 rfl (oD (stp_pick_t rfl hy5 rfl) rfl ?_))))
   obtain rfl := sI ey5
   exact ow_nil (jy 5 0)
  have ey5 := cond_f ey5 hy5
  obtain ⟨x6, e6, ey5⟩ := bS ey5
  refine oG rfl hy5 (fA 4 Tryz.underlying34 rfl ts32 rfl rfl rfl) rfl (oG rfl hy5 (stp_loadN (us := [_, _, _, _]) ts32 rfl (Cells.box (id := 0) rfl 4 rfl)) rfl (ow_eff (.some rfl hy5) (stpU_call (fun i => 1 + i) cf38 (fun w hw => c_i_TagsValid fl w a0.g rfl (RO.pass hr0_3 hw) x6 e6) (yA rfl)) rfl ?_))
  rintro _ _ ⟨_, ⟨rfl, rfl⟩, rfl⟩
  refine oG rfl hy5 (stp_not rfl) rfl (oD (stp_pick_f rfl hy5 rfl) rfl ?_)
  obtain rfl := sI ey5
  exact ow_nil (jy 5 0)
 obtain ⟨y7, ey7, H0⟩ := bS H0
 refine oM rfl (ow_cutY 7 35 y7 ?_ ?_)
 ·rcases Bool.eq_false_or_eq_true y5 with hy7 | hy7
  ·have ey7 := cond_t ey7 hy7
   refine oO rfl hy7 rfl (oO rfl hy7 rfl (oO rfl hy7 rfl (oO rfl hy7 rfl (oO rfl hy7 rfl (oO rfl hy7 rfl (oD (stp_pick_t rfl hy7 rfl) rfl ?_))))))
   obtain rfl := sI ey7
   exact ow_nil (jy 7 0)
  have ey7 := cond_f ey7 hy7
  obtain ⟨x8, e8, ey7⟩ := bS ey7
  refine oG rfl hy7 (fA 4 Tryz.underlying34 rfl ts32 rfl rfl rfl) rfl (oG rfl hy7 (stp_loadN (us := [_, _, _, _]) ts32 rfl (Cells.box (id := 0) rfl 4 rfl)) rfl (oG rfl hy7 (fA 8 Tryz.underlying34 rfl ts3 rfl rfl rfl) rfl (oG rfl hy7 (lB 0 ts3 rfl rfl rfl) rfl (ow_eff (.some rfl hy7) (stpU_call (fun i => 1 + i) cf39 (fun w hw => c_i_Tags_own fl w a0.g a0.s rfl (RO.pass hr0_3 hw) x8 e8) (yB rfl rfl)) rfl ?_))))
  rintro _ _ ⟨_, ⟨rfl, rfl⟩, rfl⟩
  refine oG rfl hy7 (stp_lss rfl rfl) rfl (oD (stp_pick_f rfl hy7 rfl) rfl ?_)
  obtain rfl := sI ey7
  exact ow_nil (jy 7 0)
 refine ow_nil (kw_nx (cw_cond rfl (fun h9 => ?_) (fun h9 => ?_)))
 ·have H0 := cond_t H0 h9
  refine sr (oS rfl (nn (cw_ret (kw_nx_ret ?_))))
  obtain rfl := sI H0
  exact kr Tryz.results12 (rT rfl) [] ⟨rfl, rfl⟩
 have H0 := cond_f H0 h9
 obtain ⟨o0_0, eo0_0, H0⟩ := bS H0
 refine cw_skip (kw_nx (cw_seq (sr (oA 0 Tryz.underlying34 rfl ts26 rfl (oA 1 Tryz.underlying26 rfl ts24 rfl (oL 0 ts24 rfl (oD (stp_len Tryz.underlying24 rfl) rfl (oM rfl (nn (cw_join (ι := Int) (fun | v10 => o0_0 = .out v10) (fun | v10 => [(1, .pointer (some ⟨b1, 0, none⟩)), (38, .slice p0_1 ((a0.t.f).length) c0_1), (39, .int .i64 ((a0.t.f).length : Int)), (40, .int .i64 v10)]) (fun | v10 => [(0, [(b1, .cells #[.slice p0_0 ((a0.t.b).length) c0_0, .slice p0_1 ((a0.t.f).length) c0_1, .slice p0_2 ((a0.c.l).length) c0_2, .int .i64 a0.c.h, .int .i64 a0.g.c, .int .i64 a0.g.n, .int .i64 a0.g.r, .slice p0_3 ((a0.g.o).length) c0_3, .int .i64 a0.s] 34 (0, 0))])]) ?_ ?_))))))))))
 ·refine cw_block (cw_loopS (ι := Nat × Int) (js := [0]) (fun x => x.1) (fun | (fuel, v10) => i_MachineValid_L0 fl a0 fuel v10 = some o0_0) (fun | (_, v10) => [(1, .pointer (some ⟨b1, 0, none⟩)), (38, .slice p0_1 ((a0.t.f).length) c0_1), (39, .int .i64 ((a0.t.f).length : Int)), (40, .int .i64 v10)]) (fun | (_, v10) => [(0, [(b1, .cells #[.slice p0_0 ((a0.t.b).length) c0_0, .slice p0_1 ((a0.t.f).length) c0_1, .slice p0_2 ((a0.c.l).length) c0_2, .int .i64 a0.c.h, .int .i64 a0.g.c, .int .i64 a0.g.n, .int .i64 a0.g.r, .slice p0_3 ((a0.g.o).length) c0_3, .int .i64 a0.s] 34 (0, 0))])]) (fl, 0) eo0_0 ⟨rfl, rfl, rfl, rfl, trivial⟩ ⟨0, [], rfl, rfl, trivial⟩ (by decide) ?_)
  rintro ⟨fuel, v10⟩ H1
  have H1 : i_MachineValid_L0 fl a0 fuel v10 = some o0_0 := H1
  rcases fuel with _ | fuel
  ·rw [i_MachineValid_L0.eq_1] at H1; cases H1
  rw [i_MachineValid_L0.eq_2] at H1
  dsimp only
  refine sr (oW rfl (nn (cw_seq (cw_cond rfl (fun h11 => ?_) (fun h11 => ?_)))))
  ·have H1 := cond_t H1 h11
   obtain ⟨x12, e12, H1⟩ := bS H1
   refine cw_skip (kw_nx (cw_seq (cw_block (sr (oD (stp_indexAddr Tryz.underlying24 ts74 (by decide) rfl rfl rfl (Rdb.ro hr0_1) e12) rfl (oD (stp_loadN (us := [_, _, _, _, _]) ts74 rfl (Cells.el (Rdb.ro hr0_1) (by decide) e12 0 5 rfl)) rfl (oE (stpU_alloc 1 tz74 rfl) rfl ?_)))))))
   rintro _ _ ⟨b13, rfl, rfl⟩
   obtain ⟨y14, ey14, H1⟩ := bS H1
   refine oC5 1 ts74 rfl rfl (nn (sr (oA 0 Tryz.underlying74 rfl ts4 rfl (oL 1 ts4 rfl (oM rfl (ow_cutY 5 51 y14 ?_ ?_))))))
   ·rcases Bool.eq_false_or_eq_true x12.u with hy14 | hy14
    ·have ey14 := cond_t ey14 hy14
     refine oG rfl hy14 (fA 1 Tryz.underlying74 rfl ts36 rfl rfl rfl) rfl (oG rfl hy14 (fA 1 Tryz.underlying36 rfl ts3 rfl rfl rfl) rfl (oG rfl hy14 (lB 1 ts3 rfl rfl rfl) rfl (oG rfl hy14 (stp_geq rfl rfl) rfl (oD (stp_pick_t rfl hy14 rfl) rfl ?_))))
     obtain rfl := sI ey14
     exact ow_nil (jy 5 0)
    have ey14 := cond_f ey14 hy14
    refine oO rfl hy14 rfl (oO rfl hy14 rfl (oO rfl hy14 rfl (oO rfl hy14 rfl (oD (stp_pick_f rfl hy14 rfl) rfl ?_))))
    obtain rfl := sI ey14
    exact ow_nil (jy 5 0)
   obtain ⟨y15, ey15, H1⟩ := bS H1
   refine oM rfl (ow_cutY 5 57 y15 ?_ ?_)
   ·rcases Bool.eq_false_or_eq_true y14 with hy15 | hy15
    ·have ey15 := cond_t ey15 hy15
     refine oG rfl hy15 (fA 1 Tryz.underlying74 rfl ts36 rfl rfl rfl) rfl (oG rfl hy15 (fA 0 Tryz.underlying36 rfl ts3 rfl rfl rfl) rfl (oG rfl hy15 (lB 1 ts3 rfl rfl rfl) rfl (oG rfl hy15 (stp_neq rfl rfl) rfl (oD (stp_pick_t rfl hy15 rfl) rfl ?_))))
     obtain rfl := sI ey15
     exact ow_nil (jy 5 0)
    have ey15 := cond_f ey15 hy15
    refine oO rfl hy15 rfl (oO rfl hy15 rfl (oO rfl hy15 rfl (oO rfl hy15 rfl (oD (stp_pick_f rfl hy15 rfl) rfl ?_))))
    obtain rfl := sI ey15
    exact ow_nil (jy 5 0)
   refine ow_nil (kw_nx (cw_cond rfl (fun h16 => ?_) (fun h16 => ?_)))
   ·have H1 := cond_t H1 h16
    refine sr (oS rfl (nn (cw_ret (kw_bl_ret (kw_nx_ret (kw_lq_ret (kw_bl_ret (kw_join_ret (kw_nx_ret ?_)))))))))
    obtain rfl := sI H1
    obtain rfl := sI H0
    exact kr Tryz.results12 (rT rfl) [] ⟨rfl, rfl⟩
   have H1 := cond_f H1 h16
   obtain ⟨x17, e17, H1⟩ := bS H1
   exact cw_skip (kw_bl_normal (kw_nx (cw_region (oP e17 rfl (oM rfl (ow_nil (kw_lqS (js := [0]) (fuel, x17) H1 (Nat.lt_succ_self _) ⟨rfl, rfl, rfl, rfl, trivial⟩ ⟨0, [], rfl, rfl, trivial⟩ (by decide))))))))
  have H1 := cond_f H1 h11
  refine cw_exit (kw_nx_exit (kw_lq_exit (kw_bl ?_)))
  obtain rfl := sI H1
  exact kw_joinS (js := [0]) v10 rfl ⟨rfl, rfl, rfl, rfl, trivial⟩ ⟨0, [], rfl, rfl, trivial⟩ (by decide)
 rintro v10 rfl
 dsimp only
 obtain ⟨o0_1, eo0_1, H0⟩ := bS H0
 refine kw_nx (cw_seq (sr (oA 2 Tryz.underlying34 rfl ts29 rfl (oA 0 Tryz.underlying29 rfl ts27 rfl (oL 0 ts27 rfl (oD (stp_len Tryz.underlying27 rfl) rfl (oM rfl (nn (cw_join (ι := Int) (fun | v18 => o0_1 = .out v18) (fun | v18 => [(1, .pointer (some ⟨b1, 0, none⟩)), (61, .slice p0_2 ((a0.c.l).length) c0_2), (62, .int .i64 ((a0.c.l).length : Int)), (63, .int .i64 v18)]) (fun | v18 => [(0, [(b1, .cells #[.slice p0_0 ((a0.t.b).length) c0_0, .slice p0_1 ((a0.t.f).length) c0_1, .slice p0_2 ((a0.c.l).length) c0_2, .int .i64 a0.c.h, .int .i64 a0.g.c, .int .i64 a0.g.n, .int .i64 a0.g.r, .slice p0_3 ((a0.g.o).length) c0_3, .int .i64 a0.s] 34 (0, 0))])]) ?_ ?_)))))))))
 ·refine cw_block (cw_loopS (ι := Nat × Int) (js := [0]) (fun x => x.1) (fun | (fuel, v18) => i_MachineValid_L1 fl a0 fuel v18 = some o0_1) (fun | (_, v18) => [(1, .pointer (some ⟨b1, 0, none⟩)), (61, .slice p0_2 ((a0.c.l).length) c0_2), (62, .int .i64 ((a0.c.l).length : Int)), (63, .int .i64 v18)]) (fun | (_, v18) => [(0, [(b1, .cells #[.slice p0_0 ((a0.t.b).length) c0_0, .slice p0_1 ((a0.t.f).length) c0_1, .slice p0_2 ((a0.c.l).length) c0_2, .int .i64 a0.c.h, .int .i64 a0.g.c, .int .i64 a0.g.n, .int .i64 a0.g.r, .slice p0_3 ((a0.g.o).length) c0_3, .int .i64 a0.s] 34 (0, 0))])]) (fl, 0) eo0_1 ⟨rfl, rfl, rfl, rfl, trivial⟩ ⟨0, [], rfl, rfl, trivial⟩ (by decide) ?_)
  rintro ⟨fuel, v18⟩ H1
  have H1 : i_MachineValid_L1 fl a0 fuel v18 = some o0_1 := H1
  rcases fuel with _ | fuel
  ·rw [i_MachineValid_L1.eq_1] at H1; cases H1
  rw [i_MachineValid_L1.eq_2] at H1
  dsimp only
  refine sr (oW rfl (nn (cw_seq (cw_cond rfl (fun h19 => ?_) (fun h19 => ?_)))))
  ·have H1 := cond_t H1 h19
   obtain ⟨x20, e20, H1⟩ := bS H1
   refine cw_skip (kw_nx (cw_seq (cw_block (sr (oD (stp_indexAddr Tryz.underlying27 ts66 (by decide) rfl rfl rfl (Rdb.ro hr0_2) e20) rfl (oD (stp_loadN (us := [_, _, _, _, _, _]) ts66 rfl (Cells.el (Rdb.ro hr0_2) (by decide) e20 0 6 rfl)) rfl (oE (stpU_alloc 2 tz66 rfl) rfl ?_)))))))
   rintro _ _ ⟨b21, rfl, rfl⟩
   refine oC6 2 ts66 rfl rfl (nn (cw_seq (sr (oA 0 Tryz.underlying66 rfl ts4 rfl (oL 2 ts4 rfl (oK rfl (nn (cw_cond rfl (fun h22 => ?_) (fun h22 => ?_)))))))))
   ·have H1 := cond_t H1 h22
    obtain ⟨x23, e23, H1⟩ := bS H1
    exact cw_exit (kw_nx_exit (kw_bl (kw_nx (cw_region (oP e23 rfl (oM rfl (ow_nil (kw_lqS (js := [0]) (fuel, x23) H1 (Nat.lt_succ_self _) ⟨rfl, rfl, rfl, rfl, trivial⟩ ⟨0, [], rfl, rfl, trivial⟩ (by decide)))))))))
   have H1 := cond_f H1 h22
   refine cw_skip (kw_nx (sr (oA 2 Tryz.underlying66 rfl ts3 rfl (oL 2 ts3 rfl (oI rfl (oS rfl (nn (cw_seq (sr (oM rfl (oA 1 Tryz.underlying66 rfl ts3 rfl (oL 2 ts3 rfl (oQ rfl ?_)))))))))))))
   obtain ⟨y24, ey24, H1⟩ := bS H1
   refine oD (stp_neqB Tryz.underlying4 rfl rfl) rfl (oM rfl (ow_cutY 7 85 y24 ?_ ?_))
   ·rcases Bool.eq_false_or_eq_true ((decide (128 ≤ x20.pg)) != (x20.tg == (-1))) with hy24 | hy24
    ·have ey24 := cond_t ey24 hy24
     refine oO rfl hy24 rfl (oO rfl hy24 rfl (oO rfl hy24 rfl (oX rfl rfl rfl (oX rfl rfl rfl (oO rfl hy24 rfl (oD (stp_pick_t rfl hy24 rfl) rfl ?_))))))
     obtain rfl := sI ey24
     exact ow_nil (jy 7 0)
    have ey24 := cond_f ey24 hy24
    obtain ⟨y25, ey25, ey24⟩ := bS ey24
    refine oG rfl hy24 (fA 5 Tryz.underlying66 rfl ts4 rfl rfl rfl) rfl (oG rfl hy24 (lB 2 ts4 rfl rfl rfl) rfl (oG rfl hy24 (mv rfl) rfl (ow_cutY 3 84 y25 ?_ ?_)))
    ·rcases Bool.eq_false_or_eq_true x20.wi with hy25 | hy25
     ·have ey25 := cond_t ey25 hy25
      refine oG rfl hy25 (mv rfl) rfl (oG rfl hy25 (stp_not rfl) rfl (oG rfl hy24 (stp_pick_t rfl hy25 rfl) rfl ?_))
      obtain rfl := sI ey25
      exact ow_nil (jy 3 0)
     have ey25 := cond_f ey25 hy25
     refine oO rfl hy25 rfl (oO rfl hy25 rfl (oG rfl hy24 (stp_pick_f rfl hy25 rfl) rfl ?_))
     obtain rfl := sI ey25
     exact ow_nil (jy 3 0)
    refine oD (stp_pick_f rfl hy24 rfl) rfl ?_
    obtain rfl := sI ey24
    exact ow_nil (jy 5 0)
   refine ow_nil (kw_nx (cw_cond rfl (fun h26 => ?_) (fun h26 => ?_)))
   ·have H1 := cond_t H1 h26
    refine sr (oS rfl (nn (cw_ret (kw_nx_ret (kw_bl_ret (kw_nx_ret (kw_lq_ret (kw_bl_ret (kw_join_ret (kw_nx_ret ?_))))))))))
    obtain rfl := sI H1
    obtain rfl := sI H0
    exact kr Tryz.results12 (rT rfl) [] ⟨rfl, rfl⟩
   have H1 := cond_f H1 h26
   refine cw_skip (kw_nx (sr (oS rfl (nn (cw_seq (sr (oM rfl (oK rfl (nn (cw_cond rfl (fun h27 => ?_) (fun h27 => ?_)))))))))))
   ·have H1 := cond_t H1 h27
    obtain ⟨x28, e28, H1⟩ := bS H1
    refine sr (oA 4 Tryz.underlying34 rfl ts32 rfl (oB4 0 ts32 rfl (oA 1 Tryz.underlying66 rfl ts3 rfl (oL 2 ts3 rfl (oE (stpU_call (fun i => 3 + i) cf40 (fun w hw => c_i_SpaceOf fl w a0.g x20.tg rfl (RO.pass hr0_3 hw) x28 e28) (yB rfl rfl)) rfl ?_)))))
    rintro _ _ ⟨_, ⟨rfl, rfl⟩, rfl⟩
    refine oM rfl (oT rfl (oT rfl (oS rfl (oS rfl (nn (cw_seq (sr (oM rfl (oK rfl (nn (cw_cond rfl (fun h29 => ?_) (fun h29 => ?_))))))))))))
    ·have H1 := cond_t H1 h29
     refine sr (oS rfl (nn (cw_ret (kw_nx_ret (kw_nx_ret (kw_bl_ret (kw_nx_ret (kw_lq_ret (kw_bl_ret (kw_join_ret (kw_nx_ret ?_)))))))))))
     obtain rfl := sI H1
     obtain rfl := sI H0
     exact kr Tryz.results12 (rT rfl) [] ⟨rfl, rfl⟩
    have H1 := cond_f H1 h29
    obtain ⟨x30, e30, H1⟩ := bS H1
    refine cw_skip (kw_nx (cw_region (oM rfl (oS rfl (nn (cw_seq (rdt g_mixed (rn 0 8) ⟨[[],[0],[],[],[2]], [], []⟩ (dA 0 rfl Tryz.underlying34 rfl ts26 rfl (dB2 0 ts26 rfl (dM rfl (dA 2 rfl Tryz.underlying66 rfl ts3 rfl (dL 2 ts3 rfl (dV rfl (fun hh => stpU_call (fun i => 3 + i) cf34 (fun w hw => c_i_KeyFor fl w x28.1 x20.pg x30 e30) (yB rfl rfl)) rfl ?_)))))))))))))
    obtain ⟨x31, e31, H1⟩ := bS H1
    obtain ⟨y32, ey32, H1⟩ := bS H1
    refine dV rfl (fun hh => stpU_call (fun i => 3 + i) cf33 (fun w hw => c_i_Table_find fl w a0.t x30 rfl (RO.pass hr0_0 hw) rfl (RO.pass hr0_1 hw) x31 e31) (yB rfl rfl)) rfl (dS rfl (dn (kw_nx (cw_seq (rdt g_mixed (rn 0 20) ⟨[[],[],[],[],[],[2],[],[],[],[],[],[0],[],[],[],[],[],[2]], [], []⟩ (dM rfl (dW rfl (dM rfl (dcY 5 113 y32 ?_ ?_)))))))))
    ·rcases Bool.eq_false_or_eq_true (decide (x31 < 0)) with hy32 | hy32
     ·have ey32 := cond_t ey32 hy32
      refine dO rfl hy32 (dO rfl hy32 (dO rfl hy32 (dO rfl hy32 (dD rfl (stp_pick_t rfl hy32 rfl) ?_))))
      obtain rfl := sI ey32
      exact dy 5 0
     have ey32 := cond_f ey32 hy32
     refine dG rfl hy32 (mv rfl) (dG rfl hy32 (fA 3 Tryz.underlying66 rfl ts3 rfl rfl rfl) (dG rfl hy32 (lB 2 ts3 rfl rfl rfl) (dG rfl hy32 (stp_neq rfl rfl) (dD rfl (stp_pick_f rfl hy32 rfl) ?_))))
     obtain rfl := sI ey32
     exact dy 5 0
    obtain ⟨y33, ey33, H1⟩ := bS H1
    refine dM rfl (dcY 11 125 y33 ?_ ?_)
    ·rcases Bool.eq_false_or_eq_true y32 with hy33 | hy33
     ·have ey33 := cond_t ey33 hy33
      refine dO rfl hy33 (dO rfl hy33 (dO rfl hy33 (dO rfl hy33 (dO rfl hy33 (dO rfl hy33 (dO rfl hy33 (dO rfl hy33 (dO rfl hy33 (dO rfl hy33 (dD rfl (stp_pick_t rfl hy33 rfl) ?_))))))))))
      obtain rfl := sI ey33
      exact dy 11 0
     have ey33 := cond_f ey33 hy33
     obtain ⟨x34, e34, ey33⟩ := bS ey33
     refine dG rfl hy33 (fA 0 Tryz.underlying34 rfl ts26 rfl rfl rfl) (dG rfl hy33 (fA 1 Tryz.underlying26 rfl ts24 rfl rfl rfl) (dG rfl hy33 (lB 0 ts24 rfl rfl rfl) (dG rfl hy33 (mv rfl) (dG rfl hy33 (stp_indexAddr Tryz.underlying24 ts74 (by decide) rfl rfl rfl (Rdb.ro hr0_1) e34) (dG rfl hy33 (fA 3 Tryz.underlying74 rfl ts3 rfl rfl rfl) (dG rfl hy33 (stp_load1 ts3 rfl (Cells.el (Rdb.ro hr0_1) (by decide) e34 3 1 rfl)) (dG rfl hy33 (fA 4 Tryz.underlying66 rfl ts3 rfl rfl rfl) (dG rfl hy33 (lB 2 ts3 rfl rfl rfl) (dG rfl hy33 (stp_neq rfl rfl) (dD rfl (stp_pick_f rfl hy33 rfl) ?_))))))))))
     obtain rfl := sI ey33
     exact dy 11 0
    refine dn (kw_nx (cw_cond rfl (fun h35 => ?_) (fun h35 => ?_)))
    ·have H1 := cond_t H1 h35
     refine sr (oS rfl (nn (cw_ret (kw_bl_ret (kw_nx_ret (kw_lq_ret (kw_bl_ret (kw_join_ret (kw_nx_ret ?_)))))))))
     obtain rfl := sI H1
     obtain rfl := sI H0
     exact kr Tryz.results12 (rT rfl) [] ⟨rfl, rfl⟩
    have H1 := cond_f H1 h35
    obtain ⟨x36, e36, H1⟩ := bS H1
    exact cw_skip (kw_bl_normal (kw_nx (cw_region (oP e36 rfl (oM rfl (ow_nil (kw_lqS (js := [0]) (fuel, x36) H1 (Nat.lt_succ_self _) ⟨rfl, rfl, rfl, rfl, trivial⟩ ⟨0, [], rfl, rfl, trivial⟩ (by decide))))))))
   have H1 := cond_f H1 h27
   obtain ⟨x37, e37, H1⟩ := bS H1
   obtain ⟨x38, e38, H1⟩ := bS H1
   refine cw_skip (kw_nx (cw_seq (rdt g_mixed (rn 0 8) ⟨[[],[0],[],[],[2]], [], []⟩ (dA 0 rfl Tryz.underlying34 rfl ts26 rfl (dB2 0 ts26 rfl (dM rfl (dA 2 rfl Tryz.underlying66 rfl ts3 rfl (dL 2 ts3 rfl (dV rfl (fun hh => stpU_call (fun i => 3 + i) cf34 (fun w hw => c_i_KeyFor fl w 0 x20.pg x37 e37) (yB rfl rfl)) rfl (dV rfl (fun hh => stpU_call (fun i => 3 + i) cf33 (fun w hw => c_i_Table_find fl w a0.t x37 rfl (RO.pass hr0_0 hw) rfl (RO.pass hr0_1 hw) x38 e38) (yB rfl rfl)) rfl (dS rfl (dn (kw_nx ?_)))))))))))))
   obtain ⟨y39, ey39, H1⟩ := bS H1
   refine cw_seq (rdt g_mixed (rn 0 20) ⟨[[],[],[],[],[],[2],[],[],[],[],[],[0],[],[],[],[],[],[2]], [], []⟩ (dM rfl (dW rfl (dM rfl (dcY 5 113 y39 ?_ ?_)))))
   ·rcases Bool.eq_false_or_eq_true (decide (x38 < 0)) with hy39 | hy39
    ·have ey39 := cond_t ey39 hy39
     refine dO rfl hy39 (dO rfl hy39 (dO rfl hy39 (dO rfl hy39 (dD rfl (stp_pick_t rfl hy39 rfl) ?_))))
     obtain rfl := sI ey39
     exact dy 5 0
    have ey39 := cond_f ey39 hy39
    refine dG rfl hy39 (mv rfl) (dG rfl hy39 (fA 3 Tryz.underlying66 rfl ts3 rfl rfl rfl) (dG rfl hy39 (lB 2 ts3 rfl rfl rfl) (dG rfl hy39 (stp_neq rfl rfl) (dD rfl (stp_pick_f rfl hy39 rfl) ?_))))
    obtain rfl := sI ey39
    exact dy 5 0
   obtain ⟨y40, ey40, H1⟩ := bS H1
   refine dM rfl (dcY 11 125 y40 ?_ ?_)
   ·rcases Bool.eq_false_or_eq_true y39 with hy40 | hy40
    ·have ey40 := cond_t ey40 hy40
     refine dO rfl hy40 (dO rfl hy40 (dO rfl hy40 (dO rfl hy40 (dO rfl hy40 (dO rfl hy40 (dO rfl hy40 (dO rfl hy40 (dO rfl hy40 (dO rfl hy40 (dD rfl (stp_pick_t rfl hy40 rfl) ?_))))))))))
     obtain rfl := sI ey40
     exact dy 11 0
    have ey40 := cond_f ey40 hy40
    obtain ⟨x41, e41, ey40⟩ := bS ey40
    refine dG rfl hy40 (fA 0 Tryz.underlying34 rfl ts26 rfl rfl rfl) (dG rfl hy40 (fA 1 Tryz.underlying26 rfl ts24 rfl rfl rfl) (dG rfl hy40 (lB 0 ts24 rfl rfl rfl) (dG rfl hy40 (mv rfl) (dG rfl hy40 (stp_indexAddr Tryz.underlying24 ts74 (by decide) rfl rfl rfl (Rdb.ro hr0_1) e41) (dG rfl hy40 (fA 3 Tryz.underlying74 rfl ts3 rfl rfl rfl) (dG rfl hy40 (stp_load1 ts3 rfl (Cells.el (Rdb.ro hr0_1) (by decide) e41 3 1 rfl)) (dG rfl hy40 (fA 4 Tryz.underlying66 rfl ts3 rfl rfl rfl) (dG rfl hy40 (lB 2 ts3 rfl rfl rfl) (dG rfl hy40 (stp_neq rfl rfl) (dD rfl (stp_pick_f rfl hy40 rfl) ?_))))))))))
    obtain rfl := sI ey40
    exact dy 11 0
   refine dn (kw_nx (cw_cond rfl (fun h42 => ?_) (fun h42 => ?_)))
   ·have H1 := cond_t H1 h42
    refine sr (oS rfl (nn (cw_ret (kw_bl_ret (kw_nx_ret (kw_lq_ret (kw_bl_ret (kw_join_ret (kw_nx_ret ?_)))))))))
    obtain rfl := sI H1
    obtain rfl := sI H0
    exact kr Tryz.results12 (rT rfl) [] ⟨rfl, rfl⟩
   have H1 := cond_f H1 h42
   obtain ⟨x43, e43, H1⟩ := bS H1
   exact cw_skip (kw_bl_normal (kw_nx (cw_region (oP e43 rfl (oM rfl (ow_nil (kw_lqS (js := [0]) (fuel, x43) H1 (Nat.lt_succ_self _) ⟨rfl, rfl, rfl, rfl, trivial⟩ ⟨0, [], rfl, rfl, trivial⟩ (by decide))))))))
  have H1 := cond_f H1 h19
  refine cw_exit (kw_nx_exit (kw_lq_exit (kw_bl ?_)))
  obtain rfl := sI H1
  exact kw_joinS (js := [0]) v18 rfl ⟨rfl, rfl, rfl, rfl, trivial⟩ ⟨0, [], rfl, rfl, trivial⟩ (by decide)
 rintro v18 rfl
 dsimp only
 refine kw_nx (sr (oS rfl (nn (cw_ret ?_))))
 obtain rfl := sI H0
 exact kr Tryz.results12 (rT rfl) [] ⟨rfl, rfl⟩

theorem c_i_KeyValid (fl : Nat) (w : World) (a0 : K) (r : Bool) (H0 : i_KeyValid fl a0 = some r) :
  Ct Tryz.prog 52 [.agg #[.int .i64 a0.s, .int .i64 a0.p]] w [] (fun rv h' => rv = .bool r ∧ h' = []) := by
 unfold i_KeyValid at H0
 refine ct_of_cw Tryz.func52 rfl Tryz.ntmps52 rfl (Sat.refl _ _) ?_
 refine sr (oE (stpU_box 0 rfl rfl) rfl ?_)
 rintro _ _ ⟨b1, rfl, rfl⟩
 obtain ⟨x2, e2, H0⟩ := bS H0
 refine oS rfl (nn (sr (oA 0 Tryz.underlying36 rfl ts3 rfl (oL 0 ts3 rfl (oE (stpU_call (fun i => 1 + i) cf29 (fun w hw => c_i_within fl w a0.s 16 x2 e2) (yB rfl rfl)) rfl ?_)))))
 rintro _ _ ⟨_, ⟨rfl, rfl⟩, rfl⟩
 obtain ⟨y3, ey3, H0⟩ := bS H0
 refine oM rfl (ow_cutY 4 10 y3 ?_ ?_)
 ·rcases Bool.eq_false_or_eq_true x2 with hy3 | hy3
  ·have ey3 := cond_t ey3 hy3
   obtain ⟨x4, e4, ey3⟩ := bS ey3
   refine oG rfl hy3 (fA 1 Tryz.underlying36 rfl ts3 rfl rfl rfl) rfl (oG rfl hy3 (lB 0 ts3 rfl rfl rfl) rfl (ow_eff (.some rfl hy3) (stpU_call (fun i => 1 + i) cf29 (fun w hw => c_i_within fl w a0.p 256 x4 e4) (yB rfl rfl)) rfl ?_))
   rintro _ _ ⟨_, ⟨rfl, rfl⟩, rfl⟩
   refine oD (stp_pick_t rfl hy3 rfl) rfl ?_
   obtain rfl := sI ey3
   exact ow_nil (jy 4 0)
  have ey3 := cond_f ey3 hy3
  refine oO rfl hy3 rfl (oO rfl hy3 rfl (oO rfl hy3 rfl (oD (stp_pick_f rfl hy3 rfl) rfl ?_)))
  obtain rfl := sI ey3
  exact ow_nil (jy 4 0)
 refine oS rfl (nn (cw_ret ?_))
 obtain rfl := sI H0
 exact kr Tryz.results52 (rT rfl) [] ⟨rfl, rfl⟩

theorem c_slices_Clone_Int (fl : Nat) (w : World) (a0 : (List Int)) (hn0_0 : n0_0 = (a0).length) (hr0_0 : RO w (hkeys []) (RdL p0_0 c0_0 a0)) (r : (List Int)) (H0 : slices_Clone_Int fl a0 = some r) :
  Ct Tryz.prog 99 [.slice p0_0 n0_0 c0_0] w [] (fun rv h' => ∃ (x0 : Option Addr) (y0 z0 : Nat) (C0 : Res), rv = .slice x0 y0 z0 ∧ h' = [(0, C0)] ∧ y0 = (r).length ∧ OwnC 3 x0 z0 r C0) := by
 subst hn0_0
 unfold slices_Clone_Int at H0
 refine ct_of_cw Tryz.func99 rfl Tryz.ntmps99 rfl (Sat.refl _ _) ?_
 refine sr (oS rfl (nn (cw_seq (sr (oM rfl (oD (stp_eqlNil Tryz.underlying23 rfl) rfl (nn (cw_cond rfl (fun h1 => ?_) (fun h1 => ?_)))))))))
 ·have := True.intro
  obtain rfl : p0_0 = none := by simpa using h1
  obtain rfl : a0 = [] := nil_of_none hr0_0
  obtain rfl : r = [] := (cnt_some H0).1
  exact sr (oS rfl (nn (cw_ret (kw_nx_ret (kw_addNil 0 (kw_ret Tryz.results99 (rT rfl) [(0, [])] [0] ⟨0, [], rfl, rfl, trivial⟩ (by decide) ⟨none, 0, 0, [], rfl, rfl, rfl, (OwnC.nil _ _)⟩))))))
 have := True.intro
 refine cw_skip (kw_nx (sr (oE (stpU_lit0 sl23 1) rfl ?_)))
 rintro _ _ ⟨p2, C3, rfl, rfl, o3⟩
 refine oM rfl ?_
 have e4 : cnt (([] : List Int) ++ a0) = some r := H0
 refine oE (stpU_append sl23 rfl (id := 1) rfl (by simp) rfl rfl rfl o3 (Rdb.ro hr0_0) e4) rfl ?_
 rintro _ _ ⟨p5, c6, C7, rfl, rfl, o7⟩
 exact oS rfl (nn (cw_ret (kw_ret Tryz.results99 (rT rfl) [(0, C7)] [1] ⟨1, [], rfl, rfl, trivial⟩ (by decide) ⟨p5, ((r).length), c6, C7, rfl, rfl, rfl, o7⟩)))

theorem c_slices_Clone_Frame (fl : Nat) (w : World) (a0 : (List F)) (hn0_0 : n0_0 = (a0).length) (hr0_0 : RO w (hkeys []) (RdL p0_0 c0_0 a0)) (r : (List F)) (H0 : slices_Clone_Frame fl a0 = some r) :
  Ct Tryz.prog 101 [.slice p0_0 n0_0 c0_0] w [] (fun rv h' => ∃ (x0 : Option Addr) (y0 z0 : Nat) (C0 : Res), rv = .slice x0 y0 z0 ∧ h' = [(0, C0)] ∧ y0 = (r).length ∧ OwnC 74 x0 z0 r C0) := by
 subst hn0_0
 unfold slices_Clone_Frame at H0
 refine ct_of_cw Tryz.func101 rfl Tryz.ntmps101 rfl (Sat.refl _ _) ?_
 refine sr (oS rfl (nn (cw_seq (sr (oM rfl (oD (stp_eqlNil Tryz.underlying24 rfl) rfl (nn (cw_cond rfl (fun h1 => ?_) (fun h1 => ?_)))))))))
 ·have := True.intro
  obtain rfl : p0_0 = none := by simpa using h1
  obtain rfl : a0 = [] := nil_of_none hr0_0
  obtain rfl : r = [] := (cnt_some H0).1
  exact sr (oS rfl (nn (cw_ret (kw_nx_ret (kw_addNil 0 (kw_ret Tryz.results101 (rT rfl) [(0, [])] [0] ⟨0, [], rfl, rfl, trivial⟩ (by decide) ⟨none, 0, 0, [], rfl, rfl, rfl, (OwnC.nil _ _)⟩))))))
 have := True.intro
 refine cw_skip (kw_nx (sr (oE (stpU_lit0 sl24 1) rfl ?_)))
 rintro _ _ ⟨p2, C3, rfl, rfl, o3⟩
 refine oM rfl ?_
 have e4 : cnt (([] : List F) ++ a0) = some r := H0
 refine oE (stpU_append sl24 rfl (id := 1) rfl (by simp) rfl rfl rfl o3 (Rdb.ro hr0_0) e4) rfl ?_
 rintro _ _ ⟨p5, c6, C7, rfl, rfl, o7⟩
 exact oS rfl (nn (cw_ret (kw_ret Tryz.results101 (rT rfl) [(0, C7)] [1] ⟨1, [], rfl, rfl, trivial⟩ (by decide) ⟨p5, ((r).length), c6, C7, rfl, rfl, rfl, o7⟩)))

theorem c_i_Table_clone (fl : Nat) (w : World) (a0 : T) (hn0_0 : n0_0 = (a0.b).length) (hr0_0 : RO w (hkeys []) (RdL p0_0 c0_0 a0.b)) (hn0_1 : n0_1 = (a0.f).length) (hr0_1 : RO w (hkeys []) (RdL p0_1 c0_1 a0.f)) (r : T) (H0 : i_Table_clone fl a0 = some r) :
  Ct Tryz.prog 53 [.agg #[.slice p0_0 n0_0 c0_0, .slice p0_1 n0_1 c0_1]] w [] (fun rv h' => ∃ (x0 : Option Addr) (y0 z0 : Nat) (C0 : Res) (x1 : Option Addr) (y1 z1 : Nat) (C1 : Res), rv = .agg #[.slice x0 y0 z0, .slice x1 y1 z1] ∧ h' = [(0, C0), (1, C1)] ∧ y0 = (r.b).length ∧ OwnC 3 x0 z0 r.b C0 ∧ y1 = (r.f).length ∧ OwnC 74 x1 z1 r.f C1) := by
 subst hn0_0 hn0_1
 unfold i_Table_clone at H0
 refine ct_of_cw Tryz.func53 rfl Tryz.ntmps53 rfl (Sat.refl _ _) ?_
 refine sr (oE (stpU_box 0 rfl rfl) rfl ?_)
 rintro _ _ ⟨b1, rfl, rfl⟩
 refine oE (stpU_alloc 1 tz26 rfl) rfl ?_
 rintro _ _ ⟨b2, rfl, rfl⟩
 obtain ⟨x3, e3, H0⟩ := bS H0
 refine nn (cw_seq (rdt g_mixed [.n 0, .n 1, .n 4, .n 5, .n 2, .n 3, .n 6, .n 7, .n 8, .n 9] ⟨[[],[0],[],[],[],[0],[],[],[],[1]], [[],[],[2],[],[],[],[3],[],[],[1]], [2,6]⟩ (dA 0 rfl Tryz.underlying26 rfl ts23 rfl (dL 0 ts23 rfl (dA 1 rfl Tryz.underlying26 rfl ts24 rfl (dL 0 ts24 rfl (dE rfl (fun hh => stpU_call (fun i => 2 + i) cf99 (fun w hw => c_slices_Clone_Int fl w a0.b rfl (RO.pass hr0_0 hw) x3 e3) (yA rfl)) ?_)))))))
 rintro _ _ ⟨_, ⟨p4, _, c6, C7, rfl, rfl, rfl, o7⟩, rfl⟩
 obtain ⟨x8, e8, H0⟩ := bS H0
 refine dk rfl (dV rfl (fun hh => stpU_call (fun i => i) cf98 (fun w hw => c_clip98 w p4 ((x3).length) c6 (OwnC.len o7).1) (yA rfl)) rfl (dE rfl (fun hh => stpU_call (fun i => 3 + i) cf101 (fun w hw => c_slices_Clone_Frame fl w a0.f rfl (RO.pass hr0_1 hw) x8 e8) (yA rfl)) ?_))
 rintro _ _ ⟨_, ⟨p9, _, c11, C12, rfl, rfl, rfl, o12⟩, rfl⟩
 refine dk rfl (dV rfl (fun hh => stpU_call (fun i => i) cf100 (fun w hw => c_clip100 w p9 ((x8).length) c11 (OwnC.len o12).1) (yA rfl)) rfl (dD rfl (stp_build (cs := #[.slice p4 ((x3).length) ((x3).length), .slice p9 ((x8).length) ((x8).length)]) (sevp_cons rfl (sevp_cons rfl sevp_nil)) bt26_14) (dC2 1 ts26 rfl rfl rfl (dn (kw_nx (cw_ret ?_))))))
 obtain rfl := sI H0
 exact kr Tryz.results53 (rC2 1 ts26 rfl rfl) [2, 3] ⟨_, _, _, _, _, _, _, _, rfl, rfl, rfl, (OwnC.clip o7), rfl, (OwnC.clip o12)⟩

theorem c_i_ProtectPage (fl : Nat) (w : World) (a0 : T) (a1 : K) (a2 : Int) (hn0_0 : n0_0 = (a0.b).length) (hr0_0 : RO w (hkeys []) (RdL p0_0 c0_0 a0.b)) (hn0_1 : n0_1 = (a0.f).length) (hr0_1 : RO w (hkeys []) (RdL p0_1 c0_1 a0.f)) (hg : RO w (hkeys []) (fun w' => w'.rangeAt 0 0 [.bool false, .int .i64 0, .int .i64 0, .int .i64 0, .int .i64 (-1)])) (r : T × Bool) (H0 : i_ProtectPage fl a0 a1 a2 = some r) :
  Ct Tryz.prog 19 [.agg #[.slice p0_0 n0_0 c0_0, .slice p0_1 n0_1 c0_1], .agg #[.int .i64 a1.s, .int .i64 a1.p], .int .i64 a2] w [] (fun rv h' => ∃ (x0 : Option Addr) (y0 z0 : Nat) (C0 : Res) (x1 : Option Addr) (y1 z1 : Nat) (C1 : Res), rv = .tuple #[.agg #[.slice x0 y0 z0, .slice x1 y1 z1], .bool r.2] ∧ h' = [(0, C0), (1, C1)] ∧ y0 = (r.1.b).length ∧ OwnC 3 x0 z0 r.1.b C0 ∧ y1 = (r.1.f).length ∧ OwnC 74 x1 z1 r.1.f C1) := by
 subst hn0_0 hn0_1
 unfold i_ProtectPage at H0
 refine ct_of_cw Tryz.func19 rfl Tryz.ntmps19 rfl (Sat.refl _ _) ?_
 refine sr (oE (stpU_box 0 rfl rfl) rfl ?_)
 rintro _ _ ⟨b1, rfl, rfl⟩
 refine oE (stpU_box 1 rfl rfl) rfl ?_
 rintro _ _ ⟨b2, rfl, rfl⟩
 refine oE (stpU_alloc 2 tz26 rfl) rfl ?_
 rintro _ _ ⟨b3, rfl, rfl⟩
 obtain ⟨x4, e4, H0⟩ := bS H0
 refine oS rfl (nn (cw_seq (sr (oB2 0 ts26 rfl (oE (stpU_call (fun i => 3 + i) cf36 (fun w hw => c_i_TableValid fl w a0 rfl (RO.pass hr0_0 hw) rfl (RO.pass hr0_1 hw) (RO.pass hg hw) x4 e4) (yA rfl)) rfl ?_)))))
 rintro _ _ ⟨_, ⟨rfl, rfl⟩, rfl⟩
 obtain ⟨y5, ey5, H0⟩ := bS H0
 refine oK rfl (oM rfl (ow_cutY 4 16 y5 ?_ ?_))
 ·rcases Bool.eq_false_or_eq_true (!x4) with hy5 | hy5
  ·have ey5 := cond_t ey5 hy5
   refine oO rfl hy5 rfl (oO rfl hy5 rfl (oO rfl hy5 rfl (oD (stp_pick_t rfl hy5 rfl) rfl ?_)))
   obtain rfl := sI ey5
   exact ow_nil (jy 4 0)
  have ey5 := cond_f ey5 hy5
  obtain ⟨x6, e6, ey5⟩ := bS ey5
  refine oG rfl hy5 (stp_loadN (us := [_, _]) ts36 rfl (Cells.box (id := 1) rfl 2 rfl)) rfl (ow_eff (.some rfl hy5) (stpU_call (fun i => 3 + i) cf52 (fun w hw => c_i_KeyValid fl w a1 x6 e6) (yA rfl)) rfl ?_)
  rintro _ _ ⟨_, ⟨rfl, rfl⟩, rfl⟩
  refine oG rfl hy5 (stp_not rfl) rfl (oD (stp_pick_f rfl hy5 rfl) rfl ?_)
  obtain rfl := sI ey5
  exact ow_nil (jy 4 0)
 obtain ⟨y7, ey7, H0⟩ := bS H0
 refine oM rfl (ow_cutY 5 22 y7 ?_ ?_)
 ·rcases Bool.eq_false_or_eq_true y5 with hy7 | hy7
  ·have ey7 := cond_t ey7 hy7
   refine oO rfl hy7 rfl (oO rfl hy7 rfl (oO rfl hy7 rfl (oO rfl hy7 rfl (oD (stp_pick_t rfl hy7 rfl) rfl ?_))))
   obtain rfl := sI ey7
   exact ow_nil (jy 5 0)
  have ey7 := cond_f ey7 hy7
  obtain ⟨x8, e8, ey7⟩ := bS ey7
  refine oG rfl hy7 (stp_loadN (us := [_, _]) ts26 rfl (Cells.box (id := 0) rfl 2 rfl)) rfl (oG rfl hy7 (stp_loadN (us := [_, _]) ts36 rfl (Cells.box (id := 1) rfl 2 rfl)) rfl (ow_eff (.some rfl hy7) (stpU_call (fun i => 3 + i) cf33 (fun w hw => c_i_Table_find fl w a0 a1 rfl (RO.pass hr0_0 hw) rfl (RO.pass hr0_1 hw) x8 e8) (yB rfl rfl)) rfl ?_))
  rintro _ _ ⟨_, ⟨rfl, rfl⟩, rfl⟩
  refine oG rfl hy7 (stp_lss rfl rfl) rfl (oD (stp_pick_f rfl hy7 rfl) rfl ?_)
  obtain rfl := sI ey7
  exact ow_nil (jy 5 0)
 obtain ⟨y9, ey9, H0⟩ := bS H0
 refine oM rfl (ow_cutY 4 27 y9 ?_ ?_)
 ·rcases Bool.eq_false_or_eq_true y7 with hy9 | hy9
  ·have ey9 := cond_t ey9 hy9
   refine oO rfl hy9 rfl (oO rfl hy9 rfl (oO rfl hy9 rfl (oD (stp_pick_t rfl hy9 rfl) rfl ?_)))
   obtain rfl := sI ey9
   exact ow_nil (jy 4 0)
  have ey9 := cond_f ey9 hy9
  obtain ⟨x10, e10, ey9⟩ := bS ey9
  refine oG rfl hy9 (mv rfl) rfl (ow_eff (.some rfl hy9) (stpU_call (fun i => 3 + i) cf30 (fun w hw => c_i_RightsValid fl w a2 x10 e10) (yA rfl)) rfl ?_)
  rintro _ _ ⟨_, ⟨rfl, rfl⟩, rfl⟩
  refine oG rfl hy9 (stp_not rfl) rfl (oD (stp_pick_f rfl hy9 rfl) rfl ?_)
  obtain rfl := sI ey9
  exact ow_nil (jy 4 0)
 refine ow_nil (kw_nx (cw_cond rfl (fun h11 => ?_) (fun h11 => ?_)))
 ·have H0 := cond_t H0 h11
  refine sr (oD (stp_build (cs := #[.slice none 0 0, .slice none 0 0]) sevp_nil bt26_0) rfl (oC2 2 ts26 rfl rfl (oS rfl (nn (cw_ret (kw_nx_ret (kw_addNil 3 (kw_addNil 4 ?_))))))))
  obtain rfl := sI H0
  exact kr Tryz.results19 (.cons (.cellN (us := [_, _]) ts26 rfl (Cells.box (id := 2) rfl 2 rfl)) (rT rfl)) [3, 4] ⟨_, _, _, _, _, _, _, _, rfl, rfl, rfl, (OwnC.nil _ _), rfl, (OwnC.nil _ _)⟩
 have H0 := cond_f H0 h11
 obtain ⟨x12, e12, H0⟩ := bS H0
 refine cw_skip (kw_nx (sr (oB2 0 ts26 rfl (oE (stpU_call (fun i => 5 + i) cf53 (fun w hw => c_i_Table_clone fl w a0 rfl (RO.pass hr0_0 hw) rfl (RO.pass hr0_1 hw) x12 e12) (yA rfl)) rfl ?_))))
 rintro _ _ ⟨_, ⟨p13, _, c15, C16, p17, _, c19, C20, rfl, rfl, rfl, o16, rfl, o20⟩, rfl⟩
 refine oE (stpU_alloc 7 tz26 rfl) rfl ?_
 rintro _ _ ⟨b21, rfl, rfl⟩
 obtain ⟨x22, e22, H0⟩ := bS H0
 obtain ⟨x23, e23, H0⟩ := bS H0
 refine oC2 7 ts26 rfl rfl (nn (cw_seq (rdt g_mixed (rn 0 9) ⟨[[],[7],[0],[1],[],[],[6],[],[6]], [[],[],[],[],[],[],[],[],[6]], [8]⟩ (dA 1 rfl Tryz.underlying26 rfl ts24 rfl (dL 7 ts24 rfl (dB2 0 ts26 rfl (dB2 1 ts36 rfl (dV rfl (fun hh => stpU_call (fun i => 8 + i) cf33 (fun w hw => c_i_Table_find fl w a0 a1 rfl (RO.pass hr0_0 hw) rfl (RO.pass hr0_1 hw) x22 e22) (yB rfl rfl)) rfl (dM rfl (dD rfl (stp_indexAddr Tryz.underlying24 ts74 (by decide) rfl rfl rfl (Rdb.own (id := 6) rfl o20) e23) (dA 3 rfl Tryz.underlying74 rfl ts3 rfl (dF rfl (fun hh => stpU_storeEl (id := 6) (i := 3) (⟨x23.u, x23.k, a2, x23.nx⟩ : F) (by decide) ts3 rfl rfl (hh _ _ rfl) o20 e23 rfl rfl rfl rfl) ?_))))))))))))
 rintro _ _ ⟨C24, rfl, o24⟩
 refine dk rfl (dn (kw_nx (sr (oB2 7 ts26 rfl (oC2 2 ts26 rfl rfl (oS rfl (nn (cw_ret ?_))))))))
 obtain rfl := sI H0
 exact kr Tryz.results19 (.cons (.cellN (us := [_, _]) ts26 rfl (Cells.box (id := 2) rfl 2 rfl)) (rT rfl)) [5, 6] ⟨_, _, _, _, _, _, _, _, rfl, rfl, rfl, o16, (by simp), o24⟩

theorem c_slices_Clone_Line (fl : Nat) (w : World) (a0 : (List Ln)) (hn0_0 : n0_0 = (a0).length) (hr0_0 : RO w (hkeys []) (RdL p0_0 c0_0 a0)) (r : (List Ln)) (H0 : slices_Clone_Line fl a0 = some r) :
  Ct Tryz.prog 72 [.slice p0_0 n0_0 c0_0] w [] (fun rv h' => ∃ (x0 : Option Addr) (y0 z0 : Nat) (C0 : Res), rv = .slice x0 y0 z0 ∧ h' = [(0, C0)] ∧ y0 = (r).length ∧ OwnC 66 x0 z0 r C0) := by
 subst hn0_0
 unfold slices_Clone_Line at H0
 refine ct_of_cw Tryz.func72 rfl Tryz.ntmps72 rfl (Sat.refl _ _) ?_
 refine sr (oS rfl (nn (cw_seq (sr (oM rfl (oD (stp_eqlNil Tryz.underlying27 rfl) rfl (nn (cw_cond rfl (fun h1 => ?_) (fun h1 => ?_)))))))))
 ·have := True.intro
  obtain rfl : p0_0 = none := by simpa using h1
  obtain rfl : a0 = [] := nil_of_none hr0_0
  obtain rfl : r = [] := (cnt_some H0).1
  exact sr (oS rfl (nn (cw_ret (kw_nx_ret (kw_addNil 0 (kw_ret Tryz.results72 (rT rfl) [(0, [])] [0] ⟨0, [], rfl, rfl, trivial⟩ (by decide) ⟨none, 0, 0, [], rfl, rfl, rfl, (OwnC.nil _ _)⟩))))))
 have := True.intro
 refine cw_skip (kw_nx (sr (oE (stpU_lit0 sl27 1) rfl ?_)))
 rintro _ _ ⟨p2, C3, rfl, rfl, o3⟩
 refine oM rfl ?_
 have e4 : cnt (([] : List Ln) ++ a0) = some r := H0
 refine oE (stpU_append sl27 rfl (id := 1) rfl (by simp) rfl rfl rfl o3 (Rdb.ro hr0_0) e4) rfl ?_
 rintro _ _ ⟨p5, c6, C7, rfl, rfl, o7⟩
 exact oS rfl (nn (cw_ret (kw_ret Tryz.results72 (rT rfl) [(0, C7)] [1] ⟨1, [], rfl, rfl, trivial⟩ (by decide) ⟨p5, ((r).length), c6, C7, rfl, rfl, rfl, o7⟩)))

theorem c_slices_Clone_Own (fl : Nat) (w : World) (a0 : (List Ow)) (hn0_0 : n0_0 = (a0).length) (hr0_0 : RO w (hkeys []) (RdL p0_0 c0_0 a0)) (r : (List Ow)) (H0 : slices_Clone_Own fl a0 = some r) :
  Ct Tryz.prog 70 [.slice p0_0 n0_0 c0_0] w [] (fun rv h' => ∃ (x0 : Option Addr) (y0 z0 : Nat) (C0 : Res), rv = .slice x0 y0 z0 ∧ h' = [(0, C0)] ∧ y0 = (r).length ∧ OwnC 108 x0 z0 r C0) := by
 subst hn0_0
 unfold slices_Clone_Own at H0
 refine ct_of_cw Tryz.func70 rfl Tryz.ntmps70 rfl (Sat.refl _ _) ?_
 refine sr (oS rfl (nn (cw_seq (sr (oM rfl (oD (stp_eqlNil Tryz.underlying30 rfl) rfl (nn (cw_cond rfl (fun h1 => ?_) (fun h1 => ?_)))))))))
 ·have := True.intro
  obtain rfl : p0_0 = none := by simpa using h1
  obtain rfl : a0 = [] := nil_of_none hr0_0
  obtain rfl : r = [] := (cnt_some H0).1
  exact sr (oS rfl (nn (cw_ret (kw_nx_ret (kw_addNil 0 (kw_ret Tryz.results70 (rT rfl) [(0, [])] [0] ⟨0, [], rfl, rfl, trivial⟩ (by decide) ⟨none, 0, 0, [], rfl, rfl, rfl, (OwnC.nil _ _)⟩))))))
 have := True.intro
 refine cw_skip (kw_nx (sr (oE (stpU_lit0 sl30 1) rfl ?_)))
 rintro _ _ ⟨p2, C3, rfl, rfl, o3⟩
 refine oM rfl ?_
 have e4 : cnt (([] : List Ow) ++ a0) = some r := H0
 refine oE (stpU_append sl30 rfl (id := 1) rfl (by simp) rfl rfl rfl o3 (Rdb.ro hr0_0) e4) rfl ?_
 rintro _ _ ⟨p5, c6, C7, rfl, rfl, o7⟩
 exact oS rfl (nn (cw_ret (kw_ret Tryz.results70 (rT rfl) [(0, C7)] [1] ⟨1, [], rfl, rfl, trivial⟩ (by decide) ⟨p5, ((r).length), c6, C7, rfl, rfl, rfl, o7⟩)))

theorem c_i_Machine_clone (fl : Nat) (w : World) (a0 : Mc) (hn0_0 : n0_0 = (a0.t.b).length) (hr0_0 : RO w (hkeys []) (RdL p0_0 c0_0 a0.t.b)) (hn0_1 : n0_1 = (a0.t.f).length) (hr0_1 : RO w (hkeys []) (RdL p0_1 c0_1 a0.t.f)) (hn0_2 : n0_2 = (a0.c.l).length) (hr0_2 : RO w (hkeys []) (RdL p0_2 c0_2 a0.c.l)) (hn0_3 : n0_3 = (a0.g.o).length) (hr0_3 : RO w (hkeys []) (RdL p0_3 c0_3 a0.g.o)) (r : Mc) (H0 : i_Machine_clone fl a0 = some r) :
  Ct Tryz.prog 28 [.agg #[.slice p0_0 n0_0 c0_0, .slice p0_1 n0_1 c0_1, .slice p0_2 n0_2 c0_2, .int .i64 a0.c.h, .int .i64 a0.g.c, .int .i64 a0.g.n, .int .i64 a0.g.r, .slice p0_3 n0_3 c0_3, .int .i64 a0.s]] w [] (fun rv h' => ∃ (x0 : Option Addr) (y0 z0 : Nat) (C0 : Res) (x1 : Option Addr) (y1 z1 : Nat) (C1 : Res) (x2 : Option Addr) (y2 z2 : Nat) (C2 : Res) (x3 : Option Addr) (y3 z3 : Nat) (C3 : Res), rv = .agg #[.slice x0 y0 z0, .slice x1 y1 z1, .slice x2 y2 z2, .int .i64 r.c.h, .int .i64 r.g.c, .int .i64 r.g.n, .int .i64 r.g.r, .slice x3 y3 z3, .int .i64 r.s] ∧ h' = [(0, C0), (1, C1), (2, C2), (3, C3)] ∧ y0 = (r.t.b).length ∧ OwnC 3 x0 z0 r.t.b C0 ∧ y1 = (r.t.f).length ∧ OwnC 74 x1 z1 r.t.f C1 ∧ y2 = (r.c.l).length ∧ OwnC 66 x2 z2 r.c.l C2 ∧ y3 = (r.g.o).length ∧ OwnC 108 x3 z3 r.g.o C3) := by
 subst hn0_0 hn0_1 hn0_2 hn0_3
 unfold i_Machine_clone at H0
 refine ct_of_cw Tryz.func28 rfl Tryz.ntmps28 rfl (Sat.refl _ _) ?_
 refine sr (oE (stpU_box 0 rfl rfl) rfl ?_)
 rintro _ _ ⟨b1, rfl, rfl⟩
 refine oE (stpU_alloc 1 tz34 rfl) rfl ?_
 rintro _ _ ⟨b2, rfl, rfl⟩
 obtain ⟨x3, e3, H0⟩ := bS H0
 refine nn (sr (oA 0 Tryz.underlying34 rfl ts26 rfl (oB2 0 ts26 rfl (oE (stpU_call (fun i => 2 + i) cf53 (fun w hw => c_i_Table_clone fl w a0.t rfl (RO.pass hr0_0 hw) rfl (RO.pass hr0_1 hw) x3 e3) (yA rfl)) rfl ?_))))
 rintro _ _ ⟨_, ⟨p4, _, c6, C7, p8, _, c10, C11, rfl, rfl, rfl, o7, rfl, o11⟩, rfl⟩
 obtain ⟨x12, e12, H0⟩ := bS H0
 refine oA 0 Tryz.underlying34 rfl ts26 rfl (oC9 0 ts26 rfl rfl (nn (sr (oA 2 Tryz.underlying34 rfl ts29 rfl (oA 0 Tryz.underlying29 rfl ts27 rfl (oL 0 ts27 rfl (oE (stpU_call (fun i => 4 + i) cf72 (fun w hw => c_slices_Clone_Line fl w a0.c.l rfl (RO.pass hr0_2 hw) x12 e12) (yA rfl)) rfl ?_)))))))
 rintro _ _ ⟨_, ⟨p13, _, c15, C16, rfl, rfl, rfl, o16⟩, rfl⟩
 refine oE (stpU_call (fun i => i) cf71 (fun w hw => c_clip71 w p13 ((x12).length) c15 (OwnC.len o16).1) (yA rfl)) rfl ?_
 rintro _ _ ⟨_, ⟨rfl, rfl⟩, rfl⟩
 obtain ⟨x17, e17, H0⟩ := bS H0
 refine oA 2 Tryz.underlying34 rfl ts29 rfl (oA 0 Tryz.underlying29 rfl ts27 rfl (oC9 0 ts27 rfl rfl (nn (sr (oA 4 Tryz.underlying34 rfl ts32 rfl (oA 3 Tryz.underlying32 rfl ts30 rfl (oL 0 ts30 rfl (oE (stpU_call (fun i => 5 + i) cf70 (fun w hw => c_slices_Clone_Own fl w a0.g.o rfl (RO.pass hr0_3 hw) x17 e17) (yA rfl)) rfl ?_))))))))
 rintro _ _ ⟨_, ⟨p18, _, c20, C21, rfl, rfl, rfl, o21⟩, rfl⟩
 refine oE (stpU_call (fun i => i) cf69 (fun w hw => c_clip69 w p18 ((x17).length) c20 (OwnC.len o21).1) (yA rfl)) rfl ?_
 rintro _ _ ⟨_, ⟨rfl, rfl⟩, rfl⟩
 refine oA 4 Tryz.underlying34 rfl ts32 rfl (oA 3 Tryz.underlying32 rfl ts30 rfl (oC9 0 ts30 rfl rfl (nn (sr (oB9 0 ts34 rfl (oC9 1 ts34 rfl rfl (nn (cw_ret ?_))))))))
 obtain rfl := sI H0
 exact kr Tryz.results28 (rC9 1 ts34 rfl rfl) [2, 3, 4, 5] ⟨_, _, _, _, _, _, _, _, _, _, _, _, _, _, _, _, rfl, rfl, rfl, o7, rfl, o11, rfl, (OwnC.clip o16), rfl, (OwnC.clip o21)⟩

theorem c_i_TagOf (fl : Nat) (w : World) (a0 : Tg) (a1 : Int) (hn0_0 : n0_0 = (a0.o).length) (hr0_0 : RO w (hkeys []) (RdL p0_0 c0_0 a0.o)) (r : Int × Bool) (H0 : i_TagOf fl a0 a1 = some r) :
  Ct Tryz.prog 73 [.agg #[.int .i64 a0.c, .int .i64 a0.n, .int .i64 a0.r, .slice p0_0 n0_0 c0_0], .int .i64 a1] w [] (fun rv h' => rv = .tuple #[.int .i64 r.1, .bool r.2] ∧ h' = []) := by
 subst hn0_0
 unfold i_TagOf at H0
 refine ct_of_cw Tryz.func73 rfl Tryz.ntmps73 rfl (Sat.refl _ _) ?_
 refine sr (oE (stpU_box 0 rfl rfl) rfl ?_)
 rintro _ _ ⟨b1, rfl, rfl⟩
 obtain ⟨x2, e2, H0⟩ := bS H0
 refine oS rfl (oS rfl (nn (cw_seq (sr (oB4 0 ts32 rfl (oE (stpU_call (fun i => 1 + i) cf38 (fun w hw => c_i_TagsValid fl w a0 rfl (RO.pass hr0_0 hw) x2 e2) (yA rfl)) rfl ?_))))))
 rintro _ _ ⟨_, ⟨rfl, rfl⟩, rfl⟩
 obtain ⟨y3, ey3, H0⟩ := bS H0
 refine oK rfl (oM rfl (ow_cutY 5 14 y3 ?_ ?_))
 ·rcases Bool.eq_false_or_eq_true (!x2) with hy3 | hy3
  ·have ey3 := cond_t ey3 hy3
   refine oO rfl hy3 rfl (oO rfl hy3 rfl (oO rfl hy3 rfl (oO rfl hy3 rfl (oD (stp_pick_t rfl hy3 rfl) rfl ?_))))
   obtain rfl := sI ey3
   exact ow_nil (jy 5 0)
  have ey3 := cond_f ey3 hy3
  obtain ⟨x4, e4, ey3⟩ := bS ey3
  refine oG rfl hy3 (stp_loadN (us := [_, _, _, _]) ts32 rfl (Cells.box (id := 0) rfl 4 rfl)) rfl (oG rfl hy3 (mv rfl) rfl (ow_eff (.some rfl hy3) (stpU_call (fun i => 1 + i) cf39 (fun w hw => c_i_Tags_own fl w a0 a1 rfl (RO.pass hr0_0 hw) x4 e4) (yB rfl rfl)) rfl ?_))
  rintro _ _ ⟨_, ⟨rfl, rfl⟩, rfl⟩
  refine oG rfl hy3 (stp_lss rfl rfl) rfl (oD (stp_pick_f rfl hy3 rfl) rfl ?_)
  obtain rfl := sI ey3
  exact ow_nil (jy 5 0)
 refine ow_nil (kw_nx (cw_cond rfl (fun h5 => ?_) (fun h5 => ?_)))
 ·have H0 := cond_t H0 h5
  refine sr (oS rfl (oS rfl (nn (cw_ret (kw_nx_ret ?_)))))
  obtain rfl := sI H0
  exact kr Tryz.results73 (.cons (.tmp rfl) (rT rfl)) [] ⟨rfl, rfl⟩
 have H0 := cond_f H0 h5
 obtain ⟨x6, e6, H0⟩ := bS H0
 obtain ⟨x7, e7, H0⟩ := bS H0
 refine cw_skip (kw_nx (cw_seq (rdt g_mixed (rn 0 10) ⟨[[],[0],[0]], [], []⟩ (dA 3 rfl Tryz.underlying32 rfl ts30 rfl (dL 0 ts30 rfl (dB4 0 ts32 rfl (dM rfl (dV rfl (fun hh => stpU_call (fun i => 1 + i) cf39 (fun w hw => c_i_Tags_own fl w a0 a1 rfl (RO.pass hr0_0 hw) x6 e6) (yB rfl rfl)) rfl (dD rfl (stp_indexAddr Tryz.underlying30 ts108 (by decide) rfl rfl rfl (Rdb.ro hr0_0) e7) (dA 1 rfl Tryz.underlying108 rfl ts3 rfl (dD rfl (stp_load1 ts3 rfl (Cells.el (Rdb.ro hr0_0) (by decide) e7 1 1 rfl)) (dS rfl (dS rfl ?_)))))))))))))
 refine dn (kw_nx (cw_ret ?_))
 obtain rfl := sI H0
 exact kr Tryz.results73 (.cons (.tmp rfl) (rT rfl)) [] ⟨rfl, rfl⟩

theorem c_i_Machine_tagFor (fl : Nat) (w : World) (a0 : Mc) (a1 : Int) (a2 : Int) (hn0_0 : n0_0 = (a0.t.b).length) (hr0_0 : RO w (hkeys []) (RdL p0_0 c0_0 a0.t.b)) (hn0_1 : n0_1 = (a0.t.f).length) (hr0_1 : RO w (hkeys []) (RdL p0_1 c0_1 a0.t.f)) (hn0_2 : n0_2 = (a0.c.l).length) (hr0_2 : RO w (hkeys []) (RdL p0_2 c0_2 a0.c.l)) (hn0_3 : n0_3 = (a0.g.o).length) (hr0_3 : RO w (hkeys []) (RdL p0_3 c0_3 a0.g.o)) (r : Int × Bool) (H0 : i_Machine_tagFor fl a0 a1 a2 = some r) :
  Ct Tryz.prog 31 [.agg #[.slice p0_0 n0_0 c0_0, .slice p0_1 n0_1 c0_1, .slice p0_2 n0_2 c0_2, .int .i64 a0.c.h, .int .i64 a0.g.c, .int .i64 a0.g.n, .int .i64 a0.g.r, .slice p0_3 n0_3 c0_3, .int .i64 a0.s], .int .i64 a1, .int .i64 a2] w [] (fun rv h' => rv = .tuple #[.int .i64 r.1, .bool r.2] ∧ h' = []) := by
 subst hn0_0 hn0_1 hn0_2 hn0_3
 unfold i_Machine_tagFor at H0
 refine ct_of_cw Tryz.func31 rfl Tryz.ntmps31 rfl (Sat.refl _ _) ?_
 refine sr (oE (stpU_box 0 rfl rfl) rfl ?_)
 rintro _ _ ⟨b1, rfl, rfl⟩
 refine oS rfl (oS rfl (nn (cw_seq (sr (oM rfl (oI rfl (nn (cw_cond rfl (fun h2 => ?_) (fun h2 => ?_)))))))))
 ·have H0 := cond_t H0 h2
  refine sr (oS rfl (oS rfl (nn (cw_ret (kw_nx_ret ?_)))))
  obtain rfl := sI H0
  exact kr Tryz.results31 (.cons (.tmp rfl) (rT rfl)) [] ⟨rfl, rfl⟩
 have H0 := cond_f H0 h2
 obtain ⟨x3, e3, H0⟩ := bS H0
 refine cw_skip (kw_nx (sr (oA 4 Tryz.underlying34 rfl ts32 rfl (oB4 0 ts32 rfl (oM rfl (oE (stpU_call (fun i => 1 + i) cf73 (fun w hw => c_i_TagOf fl w a0.g a1 rfl (RO.pass hr0_3 hw) x3 e3) (yB rfl rfl)) rfl ?_))))))
 rintro _ _ ⟨_, ⟨rfl, rfl⟩, rfl⟩
 refine oT rfl (oT rfl (oS rfl (oS rfl (nn (cw_ret ?_)))))
 obtain rfl := sI H0
 exact kr Tryz.results31 (.cons (.tmp rfl) (rT rfl)) [] ⟨rfl, rfl⟩

theorem c_i_Cache_place_1 (fl : Nat) (w : World) (a0 : Ln) (qc0 : Nat) (ac0 : Int) (qc1 : Nat) (ac1 : Int) (hbac0 : RO w (hkeys []) (fun w' => w'.rangeAt qc0 0 [.int .i64 ac0])) (hbac1 : RO w (hkeys []) (fun w' => w'.rangeAt qc1 0 [.int .i64 ac1])) (r : Bool) (H0 : i_Cache_place_1 fl a0 ac0 ac1 = some r) :
  Ct Tryz.prog 75 [.agg #[.bool a0.va, .int .i64 a0.tg, .int .i64 a0.pg, .int .i64 a0.fr, .int .i64 a0.ri, .bool a0.wi], .pointer (some ⟨qc0, 0, none⟩), .pointer (some ⟨qc1, 0, none⟩)] w [] (fun rv h' => rv = .bool r ∧ h' = []) := by
 unfold i_Cache_place_1 at H0
 refine ct_of_cw Tryz.func75 rfl Tryz.ntmps75 rfl (Sat.refl _ _) ?_
 refine sr (oE (stpU_box 0 rfl rfl) rfl ?_)
 rintro _ _ ⟨b1, rfl, rfl⟩
 obtain ⟨y2, ey2, H0⟩ := bS H0
 refine oS rfl (nn (sr (oA 0 Tryz.underlying66 rfl ts4 rfl (oL 0 ts4 rfl (oM rfl (ow_cutY 5 12 y2 ?_ ?_))))))
 ·rcases Bool.eq_false_or_eq_true a0.va with hy2 | hy2
  ·have ey2 := cond_t ey2 hy2
   refine oG rfl hy2 (fA 2 Tryz.underlying66 rfl ts3 rfl rfl rfl) rfl (oG rfl hy2 (lB 0 ts3 rfl rfl rfl) rfl (oG rfl hy2 (stp_load1 ts3 rfl (Cells.ofRO hbac0 1 rfl)) rfl (oG rfl hy2 (stp_eql rfl rfl) rfl (oD (stp_pick_t rfl hy2 rfl) rfl ?_))))
   obtain rfl := sI ey2
   exact ow_nil (jy 5 0)
  have ey2 := cond_f ey2 hy2
  refine oO rfl hy2 rfl (oO rfl hy2 rfl (oO rfl hy2 rfl (oO rfl hy2 rfl (oD (stp_pick_f rfl hy2 rfl) rfl ?_))))
  obtain rfl := sI ey2
  exact ow_nil (jy 5 0)
 obtain ⟨y3, ey3, H0⟩ := bS H0
 refine oM rfl (ow_cutY 10 23 y3 ?_ ?_)
 ·rcases Bool.eq_false_or_eq_true y2 with hy3 | hy3
  ·have ey3 := cond_t ey3 hy3
   obtain ⟨y4, ey4, ey3⟩ := bS ey3
   refine oG rfl hy3 (fA 1 Tryz.underlying66 rfl ts3 rfl rfl rfl) rfl (oG rfl hy3 (lB 0 ts3 rfl rfl rfl) rfl (oG rfl hy3 (stp_load1 ts3 rfl (Cells.ofRO hbac1 1 rfl)) rfl (oG rfl hy3 (stp_eql rfl rfl) rfl (oG rfl hy3 (mv rfl) rfl (ow_cutY 4 22 y4 ?_ ?_)))))
   ·rcases Bool.eq_false_or_eq_true (a0.tg == ac1) with hy4 | hy4
    ·have ey4 := cond_t ey4 hy4
     refine oO rfl hy4 rfl (oO rfl hy4 rfl (oO rfl hy4 rfl (oG rfl hy3 (stp_pick_t rfl hy4 rfl) rfl ?_)))
     obtain rfl := sI ey4
     exact ow_nil (jy 4 0)
    have ey4 := cond_f ey4 hy4
    refine oG rfl hy4 (fA 1 Tryz.underlying66 rfl ts3 rfl rfl rfl) rfl (oG rfl hy4 (lB 0 ts3 rfl rfl rfl) rfl (oG rfl hy4 (stp_eql rfl rfl) rfl (oG rfl hy3 (stp_pick_f rfl hy4 rfl) rfl ?_)))
    obtain rfl := sI ey4
    exact ow_nil (jy 4 0)
   refine oD (stp_pick_t rfl hy3 rfl) rfl ?_
   obtain rfl := sI ey3
   exact ow_nil (jy 7 0)
  have ey3 := cond_f ey3 hy3
  refine oO rfl hy3 rfl (oO rfl hy3 rfl (oO rfl hy3 rfl (oO rfl hy3 rfl (oO rfl hy3 rfl (oX rfl rfl rfl (oX rfl rfl rfl (oX rfl rfl rfl (oO rfl hy3 rfl (oD (stp_pick_f rfl hy3 rfl) rfl ?_)))))))))
  obtain rfl := sI ey3
  exact ow_nil (jy 10 0)
 refine oS rfl (nn (cw_ret ?_))
 obtain rfl := sI H0
 exact kr Tryz.results75 (rT rfl) [] ⟨rfl, rfl⟩

theorem c_slices_IndexFunc_Line_of_i_Cache_place_1 (fl : Nat) (w : World) (a0 : (List Ln)) (q1_0 : Nat) (a1_0 : Int) (q1_1 : Nat) (a1_1 : Int) (hn0_0 : n0_0 = (a0).length) (hr0_0 : RO w (hkeys []) (RdL p0_0 c0_0 a0)) (hba1_0 : RO w (hkeys []) (fun w' => w'.rangeAt q1_0 0 [.int .i64 a1_0])) (hba1_1 : RO w (hkeys []) (fun w' => w'.rangeAt q1_1 0 [.int .i64 a1_1])) (r : Int) (H0 : slices_IndexFunc_Line_of_i_Cache_place_1 fl a0 a1_0 a1_1 = some r) :
  Ct Tryz.prog 74 [.slice p0_0 n0_0 c0_0, .func (.func 75) #[] #[.pointer (some ⟨q1_0, 0, none⟩), .pointer (some ⟨q1_1, 0, none⟩)]] w [] (fun rv h' => rv = .int .i64 r ∧ h' = []) := by
 subst hn0_0
 unfold slices_IndexFunc_Line_of_i_Cache_place_1 at H0
 refine ct_of_cw Tryz.func74 rfl Tryz.ntmps74 rfl (Sat.refl _ _) ?_
 obtain ⟨o0_0, eo0_0, H0⟩ := bS H0
 refine sr (oS rfl (nn (cw_seq (sr (oM rfl (oD (stp_len Tryz.underlying27 rfl) rfl (oM rfl (nn (cw_join (ι := Int) (fun | v1 => o0_0 = .out v1) (fun | v1 => [(0, .slice p0_0 ((a0).length) c0_0), (1, .func (.func 75) #[] #[.pointer (some ⟨q1_0, 0, none⟩), .pointer (some ⟨q1_1, 0, none⟩)]), (7, .int .i64 ((a0).length : Int)), (8, .int .i64 v1)]) (fun | v1 => []) ?_ ?_)))))))))
 ·refine cw_block (cw_loopS (ι := Nat × Int) (js := []) (fun x => x.1) (fun | (fuel, v1) => slices_IndexFunc_Line_of_i_Cache_place_1_L0 fl a0 a1_0 a1_1 fuel v1 = some o0_0) (fun | (_, v1) => [(0, .slice p0_0 ((a0).length) c0_0), (1, .func (.func 75) #[] #[.pointer (some ⟨q1_0, 0, none⟩), .pointer (some ⟨q1_1, 0, none⟩)]), (7, .int .i64 ((a0).length : Int)), (8, .int .i64 v1)]) (fun | (_, v1) => []) (fl, 0) eo0_0 ⟨rfl, rfl, rfl, rfl, trivial⟩ trivial (by decide) ?_)
  rintro ⟨fuel, v1⟩ H1
  have H1 : slices_IndexFunc_Line_of_i_Cache_place_1_L0 fl a0 a1_0 a1_1 fuel v1 = some o0_0 := H1
  rcases fuel with _ | fuel
  ·rw [slices_IndexFunc_Line_of_i_Cache_place_1_L0.eq_1] at H1; cases H1
  rw [slices_IndexFunc_Line_of_i_Cache_place_1_L0.eq_2] at H1
  dsimp only
  refine sr (oW rfl (nn (cw_seq (cw_cond rfl (fun h2 => ?_) (fun h2 => ?_)))))
  ·have H1 := cond_t H1 h2
   obtain ⟨x3, e3, H1⟩ := bS H1
   refine cw_skip (kw_nx (cw_seq (cw_block (sr (oM rfl (oS rfl (nn (sr (oM rfl (oM rfl (oM rfl (oD (stp_indexAddr Tryz.underlying27 ts66 (by decide) rfl rfl rfl (Rdb.ro hr0_0) e3) rfl (oD (stp_loadN (us := [_, _, _, _, _, _]) ts66 rfl (Cells.el (Rdb.ro hr0_0) (by decide) e3 0 6 rfl)) rfl ?_)))))))))))))
   obtain ⟨x4, e4, H1⟩ := bS H1
   refine oE (stpU_callF (vals := [_]) (ca := [_, _]) (fun i => 0 + i) cf75 (fun w hw => c_i_Cache_place_1 fl w x3 q1_0 a1_0 q1_1 a1_1 (RO.pass hba1_0 hw) (RO.pass hba1_1 hw) x4 e4) rfl (yA rfl)) rfl ?_
   rintro _ _ ⟨_, ⟨rfl, rfl⟩, rfl⟩
   refine nn (cw_cond rfl (fun h5 => ?_) (fun h5 => ?_))
   ·have H1 := cond_t H1 h5
    refine sr (oM rfl (oS rfl (nn (cw_ret (kw_bl_ret (kw_nx_ret (kw_lq_ret (kw_bl_ret (kw_join_ret (kw_nx_ret ?_))))))))))
    obtain rfl := sI H1
    obtain rfl := sI H0
    exact kr Tryz.results74 (rT rfl) [] ⟨rfl, rfl⟩
   have H1 := cond_f H1 h5
   obtain ⟨x6, e6, H1⟩ := bS H1
   exact cw_skip (kw_bl_normal (kw_nx (cw_region (oP e6 rfl (oM rfl (ow_nil (kw_lqS (js := []) (fuel, x6) H1 (Nat.lt_succ_self _) ⟨rfl, rfl, rfl, rfl, trivial⟩ trivial (by decide))))))))
  have H1 := cond_f H1 h2
  refine cw_exit (kw_nx_exit (kw_lq_exit (kw_bl ?_)))
  obtain rfl := sI H1
  exact kw_joinS (js := []) v1 rfl ⟨rfl, rfl, rfl, rfl, trivial⟩ trivial (by decide)
 rintro v1 rfl
 dsimp only
 refine kw_nx (sr (oS rfl (nn (cw_ret ?_))))
 obtain rfl := sI H0
 exact kr Tryz.results74 (rT rfl) [] ⟨rfl, rfl⟩

theorem c_i_Cache_place (fl : Nat) (w : World) (a0 : Ca) (a1 : Int) (a2 : Int) (hn0_0 : n0_0 = (a0.l).length) (hr0_0 : RO w (hkeys []) (RdL p0_0 c0_0 a0.l)) (r : Int) (H0 : i_Cache_place fl a0 a1 a2 = some r) :
  Ct Tryz.prog 32 [.agg #[.slice p0_0 n0_0 c0_0, .int .i64 a0.h], .int .i64 a1, .int .i64 a2] w [] (fun rv h' => rv = .int .i64 r ∧ h' = []) := by
 subst hn0_0
 unfold i_Cache_place at H0
 refine ct_of_cw Tryz.func32 rfl Tryz.ntmps32 rfl (Sat.refl _ _) ?_
 refine sr (oE (stpU_box 0 rfl rfl) rfl ?_)
 rintro _ _ ⟨b1, rfl, rfl⟩
 refine oE (stpU_box 1 rfl rfl) rfl ?_
 rintro _ _ ⟨b2, rfl, rfl⟩
 refine oE (stpU_box 2 rfl rfl) rfl ?_
 rintro _ _ ⟨b3, rfl, rfl⟩
 obtain ⟨x4, e4, H0⟩ := bS H0
 refine oS rfl (nn (sr (oA 0 Tryz.underlying29 rfl ts27 rfl (oL 0 ts27 rfl (oD (stp_makeFunc (yB rfl rfl)) rfl (oE (stpU_call (fun i => 3 + i) cf74 (fun w hw => c_slices_IndexFunc_Line_of_i_Cache_place_1 fl w a0.l b3 a2 b2 a1 rfl (RO.pass hr0_0 hw) (box_pass (id := 2) rfl hw) (box_pass (id := 1) rfl hw) x4 e4) (yB rfl rfl)) rfl ?_))))))
 rintro _ _ ⟨_, ⟨rfl, rfl⟩, rfl⟩
 refine oS rfl (nn (cw_ret ?_))
 obtain rfl := sI H0
 exact kr Tryz.results32 (rT rfl) [] ⟨rfl, rfl⟩

theorem c_i_Machine_dropped (fl : Nat) (w : World) (a0 : Mc) (a1 : T) (a2 : K) (hn0_0 : n0_0 = (a0.t.b).length) (hr0_0 : RO w (hkeys [(0, C1_0), (1, C1_1)]) (RdL p0_0 c0_0 a0.t.b)) (hn0_1 : n0_1 = (a0.t.f).length) (hr0_1 : RO w (hkeys [(0, C1_0), (1, C1_1)]) (RdL p0_1 c0_1 a0.t.f)) (hn0_2 : n0_2 = (a0.c.l).length) (hr0_2 : RO w (hkeys [(0, C1_0), (1, C1_1)]) (RdL p0_2 c0_2 a0.c.l)) (hn0_3 : n0_3 = (a0.g.o).length) (hr0_3 : RO w (hkeys [(0, C1_0), (1, C1_1)]) (RdL p0_3 c0_3 a0.g.o)) (hn1_0 : n1_0 = (a1.b).length) (ho1_0 : OwnC 3 p1_0 c1_0 a1.b C1_0) (hn1_1 : n1_1 = (a1.f).length) (ho1_1 : OwnC 74 p1_1 c1_1 a1.f C1_1) (hM : Sat w (hkeys [(0, C1_0), (1, C1_1)]) w [(0, C1_0), (1, C1_1)]) (r : Mc) (H0 : i_Machine_dropped fl a0 a1 a2 = some r) :
  Ct Tryz.prog 20 [.agg #[.slice p0_0 n0_0 c0_0, .slice p0_1 n0_1 c0_1, .slice p0_2 n0_2 c0_2, .int .i64 a0.c.h, .int .i64 a0.g.c, .int .i64 a0.g.n, .int .i64 a0.g.r, .slice p0_3 n0_3 c0_3, .int .i64 a0.s], .agg #[.slice p1_0 n1_0 c1_0, .slice p1_1 n1_1 c1_1], .agg #[.int .i64 a2.s, .int .i64 a2.p]] w [(0, C1_0), (1, C1_1)] (fun rv h' => ∃ (x2 : Option Addr) (y2 z2 : Nat) (C2 : Res) (x3 : Option Addr) (y3 z3 : Nat) (C3 : Res) (x4 : Option Addr) (y4 z4 : Nat) (C4 : Res) (x5 : Option Addr) (y5 z5 : Nat) (C5 : Res), rv = .agg #[.slice x2 y2 z2, .slice x3 y3 z3, .slice x4 y4 z4, .int .i64 r.c.h, .int .i64 r.g.c, .int .i64 r.g.n, .int .i64 r.g.r, .slice x5 y5 z5, .int .i64 r.s] ∧ h' = [(0, []), (1, []), (2, C2), (3, C3), (4, C4), (5, C5)] ∧ y2 = (r.t.b).length ∧ OwnC 3 x2 z2 r.t.b C2 ∧ y3 = (r.t.f).length ∧ OwnC 74 x3 z3 r.t.f C3 ∧ y4 = (r.c.l).length ∧ OwnC 66 x4 z4 r.c.l C4 ∧ y5 = (r.g.o).length ∧ OwnC 108 x5 z5 r.g.o C5) := by
 subst hn0_0 hn0_1 hn0_2 hn0_3 hn1_0 hn1_1
 unfold i_Machine_dropped at H0
 refine ct_of_cw Tryz.func20 rfl Tryz.ntmps20 rfl hM ?_
 refine sr (oE (stpU_box 2 rfl rfl) rfl ?_)
 rintro _ _ ⟨b1, rfl, rfl⟩
 refine oE (stpU_box 3 rfl rfl) rfl ?_
 rintro _ _ ⟨b2, rfl, rfl⟩
 refine oE (stpU_box 4 rfl rfl) rfl ?_
 rintro _ _ ⟨b3, rfl, rfl⟩
 refine oE (stpU_alloc 5 tz34 rfl) rfl ?_
 rintro _ _ ⟨b4, rfl, rfl⟩
 obtain ⟨x5, e5, H0⟩ := bS H0
 refine nn (sr (oB9 2 ts34 rfl (oE (stpU_call (fun i => 6 + i) cf28 (fun w hw => c_i_Machine_clone fl w a0 rfl (RO.pass hr0_0 hw) rfl (RO.pass hr0_1 hw) rfl (RO.pass hr0_2 hw) rfl (RO.pass hr0_3 hw) x5 e5) (yA rfl)) rfl ?_)))
 rintro _ _ ⟨_, ⟨p6, _, c8, C9, p10, _, c12, C13, p14, _, c16, C17, p18, _, c20, C21, rfl, rfl, rfl, o9, rfl, o13, rfl, o17, rfl, o21⟩, rfl⟩
 refine oE (stpU_alloc 10 tz34 rfl) rfl ?_
 rintro _ _ ⟨b22, rfl, rfl⟩
 refine oC9 10 ts34 rfl rfl (nn (sr (oB2 3 ts26 rfl (oA 0 Tryz.underlying34 rfl ts26 rfl (oC9 10 ts26 rfl rfl (nn (cw_seq (sr (oB9 2 ts34 rfl (oA 0 Tryz.underlying36 rfl ts3 rfl (oL 4 ts3 rfl (oA 1 Tryz.underlying36 rfl ts3 rfl (oL 4 ts3 rfl ?_)))))))))))))
 obtain ⟨x23, e23, H0⟩ := bS H0
 refine oE (stpU_call (fun i => 11 + i) cf31 (fun w hw => c_i_Machine_tagFor fl w a0 a2.s a2.p rfl (RO.pass hr0_0 hw) rfl (RO.pass hr0_1 hw) rfl (RO.pass hr0_2 hw) rfl (RO.pass hr0_3 hw) x23 e23) (yC rfl rfl rfl)) rfl ?_
 rintro _ _ ⟨_, ⟨rfl, rfl⟩, rfl⟩
 refine oM rfl (oT rfl (oT rfl (oS rfl (oS rfl (nn (sr (oM rfl (nn (cw_cond rfl (fun h24 => ?_) (fun h24 => ?_))))))))))
 ·have H0 := cond_t H0 h24
  obtain ⟨x25, e25, H0⟩ := bS H0
  refine sr (oA 2 Tryz.underlying34 rfl ts29 rfl (oB2 2 ts29 rfl (oM rfl (oA 1 Tryz.underlying36 rfl ts3 rfl (oL 4 ts3 rfl (oE (stpU_call (fun i => 11 + i) cf32 (fun w hw => c_i_Cache_place fl w a0.c x23.1 a2.p rfl (RO.pass hr0_2 hw) x25 e25) (yC rfl rfl rfl)) rfl ?_))))))
  rintro _ _ ⟨_, ⟨rfl, rfl⟩, rfl⟩
  refine oS rfl (nn (sr (oM rfl (oI rfl (nn (cw_cond rfl (fun h26 => ?_) (fun h26 => ?_)))))))
  ·have H0 := cond_t H0 h26
   obtain ⟨x27, e27, H0⟩ := bS H0
   refine cw_region (oA 2 Tryz.underlying34 rfl ts29 rfl (oA 0 Tryz.underlying29 rfl ts27 rfl (oL 10 ts27 rfl (oM rfl (oD (stp_build (cs := #[.bool false, .int .i64 0, .int .i64 0, .int .i64 0, .int .i64 0, .bool false]) sevp_nil bt66_11) rfl (oD (stp_indexAddr Tryz.underlying27 ts66 (by decide) rfl rfl rfl (Rdb.own (id := 8) rfl o17) e27) rfl (oF (stpU_storeEl (id := 8) (i := 0) (⟨false, 0, 0, 0, 0, false⟩ : Ln) (by decide) ts66 rfl rfl rfl o17 e27 rfl rfl rfl rfl) ?_)))))))
   rintro _ _ ⟨C28, rfl, o28⟩
   refine nn (sr (oB9 10 ts34 rfl (oC9 5 ts34 rfl rfl (nn (cw_ret (kw_addNil 11 (kw_addNil 12 ?_)))))))
   obtain rfl := sI H0
   exact kr Tryz.results20 (rC9 5 ts34 rfl rfl) [11, 12, 0, 1, 8, 9] ⟨_, _, _, _, _, _, _, _, _, _, _, _, _, _, _, _, rfl, rfl, rfl, ho1_0, rfl, ho1_1, (by simp), o28, rfl, o21⟩
  have H0 := cond_f H0 h26
  refine cw_skip (kw_nx (sr (oB9 10 ts34 rfl (oC9 5 ts34 rfl rfl (nn (cw_ret (kw_addNil 13 (kw_addNil 14 ?_))))))))
  obtain rfl := sI H0
  exact kr Tryz.results20 (rC9 5 ts34 rfl rfl) [13, 14, 0, 1, 8, 9] ⟨_, _, _, _, _, _, _, _, _, _, _, _, _, _, _, _, rfl, rfl, rfl, ho1_0, rfl, ho1_1, rfl, o17, rfl, o21⟩
 have H0 := cond_f H0 h24
 refine cw_skip (kw_nx (sr (oB9 10 ts34 rfl (oC9 5 ts34 rfl rfl (nn (cw_ret (kw_addNil 15 (kw_addNil 16 ?_))))))))
 obtain rfl := sI H0
 exact kr Tryz.results20 (rC9 5 ts34 rfl rfl) [15, 16, 0, 1, 8, 9] ⟨_, _, _, _, _, _, _, _, _, _, _, _, _, _, _, _, rfl, rfl, rfl, ho1_0, rfl, ho1_1, rfl, o17, rfl, o21⟩

theorem c_i_GuardPage (fl : Nat) (w : World) (a0 : Mc) (a1 : K) (a2 : Int) (hn0_0 : n0_0 = (a0.t.b).length) (hr0_0 : RO w (hkeys []) (RdL p0_0 c0_0 a0.t.b)) (hn0_1 : n0_1 = (a0.t.f).length) (hr0_1 : RO w (hkeys []) (RdL p0_1 c0_1 a0.t.f)) (hn0_2 : n0_2 = (a0.c.l).length) (hr0_2 : RO w (hkeys []) (RdL p0_2 c0_2 a0.c.l)) (hn0_3 : n0_3 = (a0.g.o).length) (hr0_3 : RO w (hkeys []) (RdL p0_3 c0_3 a0.g.o)) (hg : RO w (hkeys []) (fun w' => w'.rangeAt 0 0 [.bool false, .int .i64 0, .int .i64 0, .int .i64 0, .int .i64 (-1)])) (r : Mc × Bool) (H0 : i_GuardPage fl a0 a1 a2 = some r) :
  Ct Tryz.prog 6 [.agg #[.slice p0_0 n0_0 c0_0, .slice p0_1 n0_1 c0_1, .slice p0_2 n0_2 c0_2, .int .i64 a0.c.h, .int .i64 a0.g.c, .int .i64 a0.g.n, .int .i64 a0.g.r, .slice p0_3 n0_3 c0_3, .int .i64 a0.s], .agg #[.int .i64 a1.s, .int .i64 a1.p], .int .i64 a2] w [] (fun rv h' => ∃ (x0 : Option Addr) (y0 z0 : Nat) (C0 : Res) (x1 : Option Addr) (y1 z1 : Nat) (C1 : Res) (x2 : Option Addr) (y2 z2 : Nat) (C2 : Res) (x3 : Option Addr) (y3 z3 : Nat) (C3 : Res), rv = .tuple #[.agg #[.slice x0 y0 z0, .slice x1 y1 z1, .slice x2 y2 z2, .int .i64 r.1.c.h, .int .i64 r.1.g.c, .int .i64 r.1.g.n, .int .i64 r.1.g.r, .slice x3 y3 z3, .int .i64 r.1.s], .bool r.2] ∧ h' = [(0, C0), (1, C1), (2, C2), (3, C3)] ∧ y0 = (r.1.t.b).length ∧ OwnC 3 x0 z0 r.1.t.b C0 ∧ y1 = (r.1.t.f).length ∧ OwnC 74 x1 z1 r.1.t.f C1 ∧ y2 = (r.1.c.l).length ∧ OwnC 66 x2 z2 r.1.c.l C2 ∧ y3 = (r.1.g.o).length ∧ OwnC 108 x3 z3 r.1.g.o C3) := by
 subst hn0_0 hn0_1 hn0_2 hn0_3
 unfold i_GuardPage at H0
 refine ct_of_cw Tryz.func6 rfl Tryz.ntmps6 rfl (Sat.refl _ _) ?_
 refine sr (oE (stpU_box 0 rfl rfl) rfl ?_)
 rintro _ _ ⟨b1, rfl, rfl⟩
 refine oE (stpU_box 1 rfl rfl) rfl ?_
 rintro _ _ ⟨b2, rfl, rfl⟩
 refine oE (stpU_alloc 2 tz34 rfl) rfl ?_
 rintro _ _ ⟨b3, rfl, rfl⟩
 obtain ⟨x4, e4, H0⟩ := bS H0
 refine oS rfl (nn (cw_seq (sr (oB9 0 ts34 rfl (oE (stpU_call (fun i => 3 + i) cf12 (fun w hw => c_i_MachineValid fl w a0 rfl (RO.pass hr0_0 hw) rfl (RO.pass hr0_1 hw) rfl (RO.pass hr0_2 hw) rfl (RO.pass hr0_3 hw) (RO.pass hg hw) x4 e4) (yA rfl)) rfl ?_)))))
 rintro _ _ ⟨_, ⟨rfl, rfl⟩, rfl⟩
 refine oK rfl (nn (cw_cond rfl (fun h5 => ?_) (fun h5 => ?_)))
 ·have H0 := cond_t H0 h5
  refine sr (oD (stp_build (cs := #[.slice none 0 0, .slice none 0 0, .slice none 0 0, .int .i64 0, .int .i64 0, .int .i64 0, .int .i64 0, .slice none 0 0, .int .i64 0]) sevp_nil bt34_6) rfl (oC9 2 ts34 rfl rfl (oS rfl (nn (cw_ret (kw_nx_ret (kw_addNil 3 (kw_addNil 4 (kw_addNil 5 (kw_addNil 6 ?_))))))))))
  obtain rfl := sI H0
  exact kr Tryz.results6 (.cons (.cellN (us := [_, _, _, _, _, _, _, _, _]) ts34 rfl (Cells.box (id := 2) rfl 9 rfl)) (rT rfl)) [3, 4, 5, 6] ⟨_, _, _, _, _, _, _, _, _, _, _, _, _, _, _, _, rfl, rfl, rfl, (OwnC.nil _ _), rfl, (OwnC.nil _ _), rfl, (OwnC.nil _ _), rfl, (OwnC.nil _ _)⟩
 have H0 := cond_f H0 h5
 obtain ⟨x6, e6, H0⟩ := bS H0
 refine cw_skip (kw_nx (sr (oA 0 Tryz.underlying34 rfl ts26 rfl (oB2 0 ts26 rfl (oB2 1 ts36 rfl (oM rfl (oE (stpU_call (fun i => 7 + i) cf19 (fun w hw => c_i_ProtectPage fl w a0.t a1 a2 rfl (RO.pass hr0_0 hw) rfl (RO.pass hr0_1 hw) (RO.pass hg hw) x6 e6) (yC rfl rfl rfl)) rfl ?_)))))))
 rintro _ _ ⟨_, ⟨p7, _, c9, C10, p11, _, c13, C14, rfl, rfl, rfl, o10, rfl, o14⟩, rfl⟩
 refine oM rfl (oT rfl (oT rfl (oE (stpU_alloc 9 tz26 rfl) rfl ?_)))
 rintro _ _ ⟨b15, rfl, rfl⟩
 refine oC2 9 ts26 rfl rfl (oS rfl (nn (cw_seq (sr (oM rfl (oK rfl (nn (cw_cond rfl (fun h16 => ?_) (fun h16 => ?_)))))))))
 ·have H0 := cond_t H0 h16
  refine sr (oD (stp_build (cs := #[.slice none 0 0, .slice none 0 0, .slice none 0 0, .int .i64 0, .int .i64 0, .int .i64 0, .int .i64 0, .slice none 0 0, .int .i64 0]) sevp_nil bt34_6) rfl (oC9 2 ts34 rfl rfl (oS rfl (nn (cw_ret (kw_nx_ret (kw_addNil 10 (kw_addNil 11 (kw_addNil 12 (kw_addNil 13 ?_))))))))))
  obtain rfl := sI H0
  exact kr Tryz.results6 (.cons (.cellN (us := [_, _, _, _, _, _, _, _, _]) ts34 rfl (Cells.box (id := 2) rfl 9 rfl)) (rT rfl)) [10, 11, 12, 13] ⟨_, _, _, _, _, _, _, _, _, _, _, _, _, _, _, _, rfl, rfl, rfl, (OwnC.nil _ _), rfl, (OwnC.nil _ _), rfl, (OwnC.nil _ _), rfl, (OwnC.nil _ _)⟩
 have H0 := cond_f H0 h16
 obtain ⟨x17, e17, H0⟩ := bS H0
 refine cw_skip (kw_nx (sr (oB9 0 ts34 rfl (oB2 9 ts26 rfl (oB2 1 ts36 rfl (oE (stpU_callM (fun i => bif Nat.beq i 0 then 7 else bif Nat.beq i 1 then 8 else 14 + i) cf20 (fun w hw hb => c_i_Machine_dropped fl w a0 x6.1 a1 rfl (RO.passM hr0_0 hw hb) rfl (RO.passM hr0_1 hw hb) rfl (RO.passM hr0_2 hw hb) rfl (RO.passM hr0_3 hw hb) rfl o10 rfl o14 (hw.pass (js := [7, 8]) ⟨7, [8], rfl, rfl, 8, [], rfl, rfl, trivial⟩ (by decide)) x17 e17) (yC rfl rfl rfl) ⟨rfl, (fun _ _ hp => by obtain ⟨_, _, _, _, _, _, _, _, _, _, _, _, _, _, _, _, _, rfl, _⟩ := hp; exact ⟨_, rfl⟩), rfl, (fun _ _ hp => by obtain ⟨_, _, _, _, _, _, _, _, _, _, _, _, _, _, _, _, _, rfl, _⟩ := hp; exact ⟨_, rfl⟩), trivial⟩) rfl ?_))))))
 rintro _ _ ⟨_, ⟨p18, _, c20, C21, p22, _, c24, C25, p26, _, c28, C29, p30, _, c32, C33, rfl, rfl, rfl, o21, rfl, o25, rfl, o29, rfl, o33⟩, rfl⟩
 refine oC9 2 ts34 rfl rfl (oS rfl (nn (cw_ret ?_)))
 obtain rfl := sI H0
 exact kr Tryz.results6 (.cons (.cellN (us := [_, _, _, _, _, _, _, _, _]) ts34 rfl (Cells.box (id := 2) rfl 9 rfl)) (rT rfl)) [16, 17, 18, 19] ⟨_, _, _, _, _, _, _, _, _, _, _, _, _, _, _, _, rfl, rfl, rfl, o21, rfl, o25, rfl, o29, rfl, o33⟩

theorem c_s_ProtectPage (fl : Nat) (w : World) (a0 : T) (a1 : K) (a2 : Int) (hn0_0 : n0_0 = (a0.b).length) (hr0_0 : RO w (hkeys []) (RdL p0_0 c0_0 a0.b)) (hn0_1 : n0_1 = (a0.f).length) (hr0_1 : RO w (hkeys []) (RdL p0_1 c0_1 a0.f)) (r : T × Bool) (H0 : s_ProtectPage fl a0 a1 a2 = some r) :
  Ct Tryz.prog 22 [.agg #[.slice p0_0 n0_0 c0_0, .slice p0_1 n0_1 c0_1], .agg #[.int .i64 a1.s, .int .i64 a1.p], .int .i64 a2] w [] (fun rv h' => ∃ (x0 : Option Addr) (y0 z0 : Nat) (C0 : Res) (x1 : Option Addr) (y1 z1 : Nat) (C1 : Res), rv = .tuple #[.agg #[.slice x0 y0 z0, .slice x1 y1 z1], .bool r.2] ∧ h' = [(0, C0), (1, C1)] ∧ y0 = (r.1.b).length ∧ OwnC 3 x0 z0 r.1.b C0 ∧ y1 = (r.1.f).length ∧ OwnC 74 x1 z1 r.1.f C1) := by
 subst hn0_0 hn0_1
 unfold s_ProtectPage at H0
 refine ct_of_cw Tryz.func22 rfl Tryz.ntmps22 rfl (Sat.refl _ _) ?_
 refine sr (oE (stpU_box 0 rfl rfl) rfl ?_)
 rintro _ _ ⟨b1, rfl, rfl⟩
 refine oE (stpU_box 1 rfl rfl) rfl ?_
 rintro _ _ ⟨b2, rfl, rfl⟩
 refine oE (stpU_alloc 2 tz26 rfl) rfl ?_
 rintro _ _ ⟨b3, rfl, rfl⟩
 obtain ⟨x4, e4, H0⟩ := bS H0
 refine oS rfl (nn (sr (oB2 0 ts26 rfl (oB2 1 ts36 rfl (oE (stpU_call (fun i => 3 + i) cf59 (fun w hw => c_s_FindPage fl w a0 a1 rfl (RO.pass hr0_0 hw) rfl (RO.pass hr0_1 hw) x4 e4) (yB rfl rfl)) rfl ?_)))))
 rintro _ _ ⟨_, ⟨rfl, rfl⟩, rfl⟩
 obtain ⟨y5, ey5, H0⟩ := bS H0
 refine oM rfl (oT rfl (oT rfl (oT rfl (oS rfl (oS rfl (oS rfl (nn (cw_seq (sr (oM rfl (oK rfl (oM rfl (ow_cutY 4 25 y5 ?_ ?_)))))))))))))
 ·rcases Bool.eq_false_or_eq_true (!x4.2.2) with hy5 | hy5
  ·have ey5 := cond_t ey5 hy5
   refine oO rfl hy5 rfl (oO rfl hy5 rfl (oO rfl hy5 rfl (oD (stp_pick_t rfl hy5 rfl) rfl ?_)))
   obtain rfl := sI ey5
   exact ow_nil (jy 4 0)
  have ey5 := cond_f ey5 hy5
  obtain ⟨x6, e6, ey5⟩ := bS ey5
  refine oG rfl hy5 (mv rfl) rfl (ow_eff (.some rfl hy5) (stpU_call (fun i => 3 + i) cf60 (fun w hw => c_s_RightsValid fl w a2 x6 e6) (yA rfl)) rfl ?_)
  rintro _ _ ⟨_, ⟨rfl, rfl⟩, rfl⟩
  refine oG rfl hy5 (stp_not rfl) rfl (oD (stp_pick_f rfl hy5 rfl) rfl ?_)
  obtain rfl := sI ey5
  exact ow_nil (jy 4 0)
 refine ow_nil (kw_nx (cw_cond rfl (fun h7 => ?_) (fun h7 => ?_)))
 ·have H0 := cond_t H0 h7
  refine sr (oD (stp_build (cs := #[.slice none 0 0, .slice none 0 0]) sevp_nil bt26_0) rfl (oC2 2 ts26 rfl rfl (oS rfl (nn (cw_ret (kw_nx_ret (kw_addNil 3 (kw_addNil 4 ?_))))))))
  obtain rfl := sI H0
  exact kr Tryz.results22 (.cons (.cellN (us := [_, _]) ts26 rfl (Cells.box (id := 2) rfl 2 rfl)) (rT rfl)) [3, 4] ⟨_, _, _, _, _, _, _, _, rfl, rfl, rfl, (OwnC.nil _ _), rfl, (OwnC.nil _ _)⟩
 have H0 := cond_f H0 h7
 obtain ⟨x8, e8, H0⟩ := bS H0
 refine cw_skip (kw_nx (sr (oB2 0 ts26 rfl (oE (stpU_call (fun i => 5 + i) cf61 (fun w hw => c_s_l3Copy fl w a0 rfl (RO.pass hr0_0 hw) rfl (RO.pass hr0_1 hw) x8 e8) (yA rfl)) rfl ?_))))
 rintro _ _ ⟨_, ⟨p9, _, c11, C12, p13, _, c15, C16, rfl, rfl, rfl, o12, rfl, o16⟩, rfl⟩
 refine oE (stpU_alloc 7 tz26 rfl) rfl ?_
 rintro _ _ ⟨b17, rfl, rfl⟩
 obtain ⟨x18, e18, H0⟩ := bS H0
 refine oC2 7 ts26 rfl rfl (nn (sr (oA 1 Tryz.underlying26 rfl ts24 rfl (oL 7 ts24 rfl (oM rfl (oM rfl (oD (stp_indexAddr Tryz.underlying24 ts74 (by decide) rfl rfl rfl (Rdb.own (id := 6) rfl o16) e18) rfl (oA 3 Tryz.underlying74 rfl ts3 rfl (oF (stpU_storeEl (id := 6) (i := 3) (⟨x18.u, x18.k, a2, x18.nx⟩ : F) (by decide) ts3 rfl rfl rfl o16 e18 rfl rfl rfl rfl) ?_)))))))))
 rintro _ _ ⟨C19, rfl, o19⟩
 refine nn (sr (oB2 7 ts26 rfl (oC2 2 ts26 rfl rfl (oS rfl (nn (cw_ret ?_))))))
 obtain rfl := sI H0
 exact kr Tryz.results22 (.cons (.cellN (us := [_, _]) ts26 rfl (Cells.box (id := 2) rfl 2 rfl)) (rT rfl)) [5, 6] ⟨_, _, _, _, _, _, _, _, rfl, rfl, rfl, o12, (by simp), o19⟩

theorem c_s_GuardPage (fl : Nat) (w : World) (a0 : Mc) (a1 : K) (a2 : Int) (hn0_0 : n0_0 = (a0.t.b).length) (hr0_0 : RO w (hkeys []) (RdL p0_0 c0_0 a0.t.b)) (hn0_1 : n0_1 = (a0.t.f).length) (hr0_1 : RO w (hkeys []) (RdL p0_1 c0_1 a0.t.f)) (hn0_2 : n0_2 = (a0.c.l).length) (hr0_2 : RO w (hkeys []) (RdL p0_2 c0_2 a0.c.l)) (hn0_3 : n0_3 = (a0.g.o).length) (hr0_3 : RO w (hkeys []) (RdL p0_3 c0_3 a0.g.o)) (r : Mc × Bool) (H0 : s_GuardPage fl a0 a1 a2 = some r) :
  Ct Tryz.prog 7 [.agg #[.slice p0_0 n0_0 c0_0, .slice p0_1 n0_1 c0_1, .slice p0_2 n0_2 c0_2, .int .i64 a0.c.h, .int .i64 a0.g.c, .int .i64 a0.g.n, .int .i64 a0.g.r, .slice p0_3 n0_3 c0_3, .int .i64 a0.s], .agg #[.int .i64 a1.s, .int .i64 a1.p], .int .i64 a2] w [] (fun rv h' => ∃ (x0 : Option Addr) (y0 z0 : Nat) (C0 : Res) (x1 : Option Addr) (y1 z1 : Nat) (C1 : Res) (x2 : Option Addr) (y2 z2 : Nat) (C2 : Res) (x3 : Option Addr) (y3 z3 : Nat) (C3 : Res), rv = .tuple #[.agg #[.slice x0 y0 z0, .slice x1 y1 z1, .slice x2 y2 z2, .int .i64 r.1.c.h, .int .i64 r.1.g.c, .int .i64 r.1.g.n, .int .i64 r.1.g.r, .slice x3 y3 z3, .int .i64 r.1.s], .bool r.2] ∧ h' = [(0, C0), (1, C1), (2, C2), (3, C3)] ∧ y0 = (r.1.t.b).length ∧ OwnC 3 x0 z0 r.1.t.b C0 ∧ y1 = (r.1.t.f).length ∧ OwnC 74 x1 z1 r.1.t.f C1 ∧ y2 = (r.1.c.l).length ∧ OwnC 66 x2 z2 r.1.c.l C2 ∧ y3 = (r.1.g.o).length ∧ OwnC 108 x3 z3 r.1.g.o C3) := by
 subst hn0_0 hn0_1 hn0_2 hn0_3
 unfold s_GuardPage at H0
 refine ct_of_cw Tryz.func7 rfl Tryz.ntmps7 rfl (Sat.refl _ _) ?_
 refine sr (oE (stpU_box 0 rfl rfl) rfl ?_)
 rintro _ _ ⟨b1, rfl, rfl⟩
 refine oE (stpU_box 1 rfl rfl) rfl ?_
 rintro _ _ ⟨b2, rfl, rfl⟩
 refine oE (stpU_alloc 2 tz34 rfl) rfl ?_
 rintro _ _ ⟨b3, rfl, rfl⟩
 obtain ⟨x4, e4, H0⟩ := bS H0
 refine oS rfl (nn (cw_seq (sr (oB9 0 ts34 rfl (oE (stpU_call (fun i => 3 + i) cf21 (fun w hw => c_s_MachineValid fl w a0 rfl (RO.pass hr0_0 hw) rfl (RO.pass hr0_1 hw) rfl (RO.pass hr0_2 hw) rfl (RO.pass hr0_3 hw) x4 e4) (yA rfl)) rfl ?_)))))
 rintro _ _ ⟨_, ⟨rfl, rfl⟩, rfl⟩
 refine oK rfl (nn (cw_cond rfl (fun h5 => ?_) (fun h5 => ?_)))
 ·have H0 := cond_t H0 h5
  refine sr (oD (stp_build (cs := #[.slice none 0 0, .slice none 0 0, .slice none 0 0, .int .i64 0, .int .i64 0, .int .i64 0, .int .i64 0, .slice none 0 0, .int .i64 0]) sevp_nil bt34_6) rfl (oC9 2 ts34 rfl rfl (oS rfl (nn (cw_ret (kw_nx_ret (kw_addNil 3 (kw_addNil 4 (kw_addNil 5 (kw_addNil 6 ?_))))))))))
  obtain rfl := sI H0
  exact kr Tryz.results7 (.cons (.cellN (us := [_, _, _, _, _, _, _, _, _]) ts34 rfl (Cells.box (id := 2) rfl 9 rfl)) (rT rfl)) [3, 4, 5, 6] ⟨_, _, _, _, _, _, _, _, _, _, _, _, _, _, _, _, rfl, rfl, rfl, (OwnC.nil _ _), rfl, (OwnC.nil _ _), rfl, (OwnC.nil _ _), rfl, (OwnC.nil _ _)⟩
 have H0 := cond_f H0 h5
 obtain ⟨x6, e6, H0⟩ := bS H0
 refine cw_skip (kw_nx (sr (oA 0 Tryz.underlying34 rfl ts26 rfl (oB2 0 ts26 rfl (oB2 1 ts36 rfl (oM rfl (oE (stpU_call (fun i => 7 + i) cf22 (fun w hw => c_s_ProtectPage fl w a0.t a1 a2 rfl (RO.pass hr0_0 hw) rfl (RO.pass hr0_1 hw) x6 e6) (yC rfl rfl rfl)) rfl ?_)))))))
 rintro _ _ ⟨_, ⟨p7, _, c9, C10, p11, _, c13, C14, rfl, rfl, rfl, o10, rfl, o14⟩, rfl⟩
 refine oM rfl (oT rfl (oT rfl (oE (stpU_alloc 9 tz26 rfl) rfl ?_)))
 rintro _ _ ⟨b15, rfl, rfl⟩
 refine oC2 9 ts26 rfl rfl (oS rfl (nn (cw_seq (sr (oM rfl (oK rfl (nn (cw_cond rfl (fun h16 => ?_) (fun h16 => ?_)))))))))
 ·have H0 := cond_t H0 h16
  refine sr (oD (stp_build (cs := #[.slice none 0 0, .slice none 0 0, .slice none 0 0, .int .i64 0, .int .i64 0, .int .i64 0, .int .i64 0, .slice none 0 0, .int .i64 0]) sevp_nil bt34_6) rfl (oC9 2 ts34 rfl rfl (oS rfl (nn (cw_ret (kw_nx_ret (kw_addNil 10 (kw_addNil 11 (kw_addNil 12 (kw_addNil 13 ?_))))))))))
  obtain rfl := sI H0
  exact kr Tryz.results7 (.cons (.cellN (us := [_, _, _, _, _, _, _, _, _]) ts34 rfl (Cells.box (id := 2) rfl 9 rfl)) (rT rfl)) [10, 11, 12, 13] ⟨_, _, _, _, _, _, _, _, _, _, _, _, _, _, _, _, rfl, rfl, rfl, (OwnC.nil _ _), rfl, (OwnC.nil _ _), rfl, (OwnC.nil _ _), rfl, (OwnC.nil _ _)⟩
 have H0 := cond_f H0 h16
 obtain ⟨x17, e17, H0⟩ := bS H0
 refine cw_skip (kw_nx (sr (oB9 0 ts34 rfl (oB2 1 ts36 rfl (oE (stpU_call (fun i => 14 + i) cf23 (fun w hw => c_s_l6Forget fl w a0 a1 rfl (RO.pass hr0_0 hw) rfl (RO.pass hr0_1 hw) rfl (RO.pass hr0_2 hw) rfl (RO.pass hr0_3 hw) x17 e17) (yB rfl rfl)) rfl ?_)))))
 rintro _ _ ⟨_, ⟨p18, _, c20, C21, p22, _, c24, C25, p26, _, c28, C29, p30, _, c32, C33, rfl, rfl, rfl, o21, rfl, o25, rfl, o29, rfl, o33⟩, rfl⟩
 refine oE (stpU_alloc 18 tz34 rfl) rfl ?_
 rintro _ _ ⟨b34, rfl, rfl⟩
 refine oC9 18 ts34 rfl rfl (nn (sr (oB2 9 ts26 rfl (oA 0 Tryz.underlying34 rfl ts26 rfl (oC9 18 ts26 rfl rfl (nn (sr (oB9 18 ts34 rfl (oC9 2 ts34 rfl rfl (oS rfl (nn (cw_ret ?_))))))))))))
 obtain rfl := sI H0
 exact kr Tryz.results7 (.cons (.cellN (us := [_, _, _, _, _, _, _, _, _]) ts34 rfl (Cells.box (id := 2) rfl 9 rfl)) (rT rfl)) [7, 8, 16, 17] ⟨_, _, _, _, _, _, _, _, _, _, _, _, _, _, _, _, rfl, rfl, rfl, o10, rfl, o14, rfl, o29, rfl, o33⟩

theorem c_slices_Equal_Int (fl : Nat) (w : World) (a0 : (List Int)) (a1 : (List Int)) (hn0_0 : n0_0 = (a0).length) (hr0_0 : RO w (hkeys []) (RdL p0_0 c0_0 a0)) (hn1_0 : n1_0 = (a1).length) (hr1_0 : RO w (hkeys []) (RdL p1_0 c1_0 a1)) (r : Bool) (H0 : slices_Equal_Int fl a0 a1 = some r) :
  Ct Tryz.prog 65 [.slice p0_0 n0_0 c0_0, .slice p1_0 n1_0 c1_0] w [] (fun rv h' => rv = .bool r ∧ h' = []) := by
 subst hn0_0 hn1_0
 unfold slices_Equal_Int at H0
 refine ct_of_cw Tryz.func65 rfl Tryz.ntmps65 rfl (Sat.refl _ _) ?_
 refine sr (oS rfl (nn (cw_seq (sr (oM rfl (oD (stp_len Tryz.underlying23 rfl) rfl (oM rfl (oD (stp_len Tryz.underlying23 rfl) rfl (oU rfl (nn (cw_cond rfl (fun h1 => ?_) (fun h1 => ?_))))))))))))
 ·have H0 := cond_t H0 h1
  refine sr (oS rfl (nn (cw_ret (kw_nx_ret ?_))))
  obtain rfl := sI H0
  exact kr Tryz.results65 (rT rfl) [] ⟨rfl, rfl⟩
 have H0 := cond_f H0 h1
 obtain ⟨o0_0, eo0_0, H0⟩ := bS H0
 refine cw_skip (kw_nx (cw_seq (sr (oM rfl (oD (stp_len Tryz.underlying23 rfl) rfl (oM rfl (nn (cw_join (ι := Int) (fun | v2 => o0_0 = .out v2) (fun | v2 => [(0, .slice p0_0 ((a0).length) c0_0), (1, .slice p1_0 ((a1).length) c1_0), (12, .int .i64 ((a0).length : Int)), (13, .int .i64 v2)]) (fun | v2 => []) ?_ ?_))))))))
 ·refine cw_block (cw_loopS (ι := Nat × Int) (js := []) (fun x => x.1) (fun | (fuel, v2) => slices_Equal_Int_L0 fl a0 a1 fuel v2 = some o0_0) (fun | (_, v2) => [(0, .slice p0_0 ((a0).length) c0_0), (1, .slice p1_0 ((a1).length) c1_0), (12, .int .i64 ((a0).length : Int)), (13, .int .i64 v2)]) (fun | (_, v2) => []) (fl, 0) eo0_0 ⟨rfl, rfl, rfl, rfl, trivial⟩ trivial (by decide) ?_)
  rintro ⟨fuel, v2⟩ H1
  have H1 : slices_Equal_Int_L0 fl a0 a1 fuel v2 = some o0_0 := H1
  rcases fuel with _ | fuel
  ·rw [slices_Equal_Int_L0.eq_1] at H1; cases H1
  rw [slices_Equal_Int_L0.eq_2] at H1
  dsimp only
  refine sr (oW rfl (nn (cw_seq (cw_cond rfl (fun h3 => ?_) (fun h3 => ?_)))))
  ·have H1 := cond_t H1 h3
   obtain ⟨x4, e4, H1⟩ := bS H1
   refine cw_skip (kw_nx (cw_seq (cw_block (sr (oM rfl (oS rfl (nn (cw_seq (rdt g_mixed (rn 0 9) ⟨[], [], []⟩ (dM rfl (dM rfl (dD rfl (stp_indexAddr Tryz.underlying23 ts3 (by decide) rfl rfl rfl (Rdb.ro hr0_0) e4) (dD rfl (stp_load1 ts3 rfl (Cells.el (Rdb.ro hr0_0) (by decide) e4 0 1 rfl)) ?_)))))))))))))
   obtain ⟨x5, e5, H1⟩ := bS H1
   refine dM rfl (dM rfl (dD rfl (stp_indexAddr Tryz.underlying23 ts3 (by decide) rfl rfl rfl (Rdb.ro hr1_0) e5) (dD rfl (stp_load1 ts3 rfl (Cells.el (Rdb.ro hr1_0) (by decide) e5 0 1 rfl)) (dNe rfl (dn (kw_nx (cw_cond rfl (fun h6 => ?_) (fun h6 => ?_))))))))
   ·have H1 := cond_t H1 h6
    refine sr (oS rfl (nn (cw_ret (kw_bl_ret (kw_nx_ret (kw_lq_ret (kw_bl_ret (kw_join_ret (kw_nx_ret ?_)))))))))
    obtain rfl := sI H1
    obtain rfl := sI H0
    exact kr Tryz.results65 (rT rfl) [] ⟨rfl, rfl⟩
   have H1 := cond_f H1 h6
   obtain ⟨x7, e7, H1⟩ := bS H1
   exact cw_skip (kw_bl_normal (kw_nx (cw_region (oP e7 rfl (oM rfl (ow_nil (kw_lqS (js := []) (fuel, x7) H1 (Nat.lt_succ_self _) ⟨rfl, rfl, rfl, rfl, trivial⟩ trivial (by decide))))))))
  have H1 := cond_f H1 h3
  refine cw_exit (kw_nx_exit (kw_lq_exit (kw_bl ?_)))
  obtain rfl := sI H1
  exact kw_joinS (js := []) v2 rfl ⟨rfl, rfl, rfl, rfl, trivial⟩ trivial (by decide)
 rintro v2 rfl
 dsimp only
 refine kw_nx (sr (oS rfl (nn (cw_ret ?_))))
 obtain rfl := sI H0
 exact kr Tryz.results65 (rT rfl) [] ⟨rfl, rfl⟩

theorem c_slices_Equal_Frame (fl : Nat) (w : World) (a0 : (List F)) (a1 : (List F)) (hn0_0 : n0_0 = (a0).length) (hr0_0 : RO w (hkeys []) (RdL p0_0 c0_0 a0)) (hn1_0 : n1_0 = (a1).length) (hr1_0 : RO w (hkeys []) (RdL p1_0 c1_0 a1)) (r : Bool) (H0 : slices_Equal_Frame fl a0 a1 = some r) :
  Ct Tryz.prog 66 [.slice p0_0 n0_0 c0_0, .slice p1_0 n1_0 c1_0] w [] (fun rv h' => rv = .bool r ∧ h' = []) := by
 subst hn0_0 hn1_0
 unfold slices_Equal_Frame at H0
 refine ct_of_cw Tryz.func66 rfl Tryz.ntmps66 rfl (Sat.refl _ _) ?_
 refine sr (oS rfl (nn (cw_seq (sr (oM rfl (oD (stp_len Tryz.underlying24 rfl) rfl (oM rfl (oD (stp_len Tryz.underlying24 rfl) rfl (oU rfl (nn (cw_cond rfl (fun h1 => ?_) (fun h1 => ?_))))))))))))
 ·have H0 := cond_t H0 h1
  refine sr (oS rfl (nn (cw_ret (kw_nx_ret ?_))))
  obtain rfl := sI H0
  exact kr Tryz.results66 (rT rfl) [] ⟨rfl, rfl⟩
 have H0 := cond_f H0 h1
 obtain ⟨o0_0, eo0_0, H0⟩ := bS H0
 refine cw_skip (kw_nx (cw_seq (sr (oM rfl (oD (stp_len Tryz.underlying24 rfl) rfl (oM rfl (nn (cw_join (ι := Int) (fun | v2 => o0_0 = .out v2) (fun | v2 => [(0, .slice p0_0 ((a0).length) c0_0), (1, .slice p1_0 ((a1).length) c1_0), (12, .int .i64 ((a0).length : Int)), (13, .int .i64 v2)]) (fun | v2 => []) ?_ ?_))))))))
 ·refine cw_block (cw_loopS (ι := Nat × Int) (js := []) (fun x => x.1) (fun | (fuel, v2) => slices_Equal_Frame_L0 fl a0 a1 fuel v2 = some o0_0) (fun | (_, v2) => [(0, .slice p0_0 ((a0).length) c0_0), (1, .slice p1_0 ((a1).length) c1_0), (12, .int .i64 ((a0).length : Int)), (13, .int .i64 v2)]) (fun | (_, v2) => []) (fl, 0) eo0_0 ⟨rfl, rfl, rfl, rfl, trivial⟩ trivial (by decide) ?_)
  rintro ⟨fuel, v2⟩ H1
  have H1 : slices_Equal_Frame_L0 fl a0 a1 fuel v2 = some o0_0 := H1
  rcases fuel with _ | fuel
  ·rw [slices_Equal_Frame_L0.eq_1] at H1; cases H1
  rw [slices_Equal_Frame_L0.eq_2] at H1
  dsimp only
  refine sr (oW rfl (nn (cw_seq (cw_cond rfl (fun h3 => ?_) (fun h3 => ?_)))))
  ·have H1 := cond_t H1 h3
   obtain ⟨x4, e4, H1⟩ := bS H1
   refine cw_skip (kw_nx (cw_seq (cw_block (sr (oM rfl (oS rfl (nn (cw_seq (rdt g_mixed (rn 0 9) ⟨[], [], []⟩ (dM rfl (dM rfl (dD rfl (stp_indexAddr Tryz.underlying24 ts74 (by decide) rfl rfl rfl (Rdb.ro hr0_0) e4) (dD rfl (stp_loadN (us := [_, _, _, _, _]) ts74 rfl (Cells.el (Rdb.ro hr0_0) (by decide) e4 0 5 rfl)) ?_)))))))))))))
   obtain ⟨x5, e5, H1⟩ := bS H1
   refine dM rfl (dM rfl (dD rfl (stp_indexAddr Tryz.underlying24 ts74 (by decide) rfl rfl rfl (Rdb.ro hr1_0) e5) (dD rfl (stp_loadN (us := [_, _, _, _, _]) ts74 rfl (Cells.el (Rdb.ro hr1_0) (by decide) e5 0 5 rfl)) (dD rfl (stp_neqS te74 x4 x5 rfl rfl) (dn (kw_nx (cw_cond rfl (fun h6 => ?_) (fun h6 => ?_))))))))
   ·have H1 := cond_t H1 h6
    refine sr (oS rfl (nn (cw_ret (kw_bl_ret (kw_nx_ret (kw_lq_ret (kw_bl_ret (kw_join_ret (kw_nx_ret ?_)))))))))
    obtain rfl := sI H1
    obtain rfl := sI H0
    exact kr Tryz.results66 (rT rfl) [] ⟨rfl, rfl⟩
   have H1 := cond_f H1 h6
   obtain ⟨x7, e7, H1⟩ := bS H1
   exact cw_skip (kw_bl_normal (kw_nx (cw_region (oP e7 rfl (oM rfl (ow_nil (kw_lqS (js := []) (fuel, x7) H1 (Nat.lt_succ_self _) ⟨rfl, rfl, rfl, rfl, trivial⟩ trivial (by decide))))))))
  have H1 := cond_f H1 h3
  refine cw_exit (kw_nx_exit (kw_lq_exit (kw_bl ?_)))
  obtain rfl := sI H1
  exact kw_joinS (js := []) v2 rfl ⟨rfl, rfl, rfl, rfl, trivial⟩ trivial (by decide)
 rintro v2 rfl
 dsimp only
 refine kw_nx (sr (oS rfl (nn (cw_ret ?_))))
 obtain rfl := sI H0
 exact kr Tryz.results66 (rT rfl) [] ⟨rfl, rfl⟩

theorem c_i_TableSame (fl : Nat) (w : World) (a0 : T) (a1 : T) (hn0_0 : n0_0 = (a0.b).length) (hr0_0 : RO w (hkeys []) (RdL p0_0 c0_0 a0.b)) (hn0_1 : n0_1 = (a0.f).length) (hr0_1 : RO w (hkeys []) (RdL p0_1 c0_1 a0.f)) (hn1_0 : n1_0 = (a1.b).length) (hr1_0 : RO w (hkeys []) (RdL p1_0 c1_0 a1.b)) (hn1_1 : n1_1 = (a1.f).length) (hr1_1 : RO w (hkeys []) (RdL p1_1 c1_1 a1.f)) (r : Bool) (H0 : i_TableSame fl a0 a1 = some r) :
  Ct Tryz.prog 24 [.agg #[.slice p0_0 n0_0 c0_0, .slice p0_1 n0_1 c0_1], .agg #[.slice p1_0 n1_0 c1_0, .slice p1_1 n1_1 c1_1]] w [] (fun rv h' => rv = .bool r ∧ h' = []) := by
 subst hn0_0 hn0_1 hn1_0 hn1_1
 unfold i_TableSame at H0
 refine ct_of_cw Tryz.func24 rfl Tryz.ntmps24 rfl (Sat.refl _ _) ?_
 refine sr (oE (stpU_box 0 rfl rfl) rfl ?_)
 rintro _ _ ⟨b1, rfl, rfl⟩
 refine oE (stpU_box 1 rfl rfl) rfl ?_
 rintro _ _ ⟨b2, rfl, rfl⟩
 obtain ⟨x3, e3, H0⟩ := bS H0
 refine oS rfl (nn (sr (oA 0 Tryz.underlying26 rfl ts23 rfl (oL 0 ts23 rfl (oA 0 Tryz.underlying26 rfl ts23 rfl (oL 1 ts23 rfl (oE (stpU_call (fun i => 2 + i) cf65 (fun w hw => c_slices_Equal_Int fl w a0.b a1.b rfl (RO.pass hr0_0 hw) rfl (RO.pass hr1_0 hw) x3 e3) (yB rfl rfl)) rfl ?_)))))))
 rintro _ _ ⟨_, ⟨rfl, rfl⟩, rfl⟩
 obtain ⟨y4, ey4, H0⟩ := bS H0
 refine oM rfl (ow_cutY 6 16 y4 ?_ ?_)
 ·rcases Bool.eq_false_or_eq_true x3 with hy4 | hy4
  ·have ey4 := cond_t ey4 hy4
   obtain ⟨x5, e5, ey4⟩ := bS ey4
   refine oG rfl hy4 (fA 1 Tryz.underlying26 rfl ts24 rfl rfl rfl) rfl (oG rfl hy4 (lB 0 ts24 rfl rfl rfl) rfl (oG rfl hy4 (fA 1 Tryz.underlying26 rfl ts24 rfl rfl rfl) rfl (oG rfl hy4 (lB 1 ts24 rfl rfl rfl) rfl (ow_eff (.some rfl hy4) (stpU_call (fun i => 2 + i) cf66 (fun w hw => c_slices_Equal_Frame fl w a0.f a1.f rfl (RO.pass hr0_1 hw) rfl (RO.pass hr1_1 hw) x5 e5) (yB rfl rfl)) rfl ?_))))
   rintro _ _ ⟨_, ⟨rfl, rfl⟩, rfl⟩
   refine oD (stp_pick_t rfl hy4 rfl) rfl ?_
   obtain rfl := sI ey4
   exact ow_nil (jy 6 0)
  have ey4 := cond_f ey4 hy4
  refine oO rfl hy4 rfl (oO rfl hy4 rfl (oO rfl hy4 rfl (oO rfl hy4 rfl (oO rfl hy4 rfl (oD (stp_pick_f rfl hy4 rfl) rfl ?_)))))
  obtain rfl := sI ey4
  exact ow_nil (jy 6 0)
 refine oS rfl (nn (cw_ret ?_))
 obtain rfl := sI H0
 exact kr Tryz.results24 (rT rfl) [] ⟨rfl, rfl⟩

theorem c_slices_Equal_Line (fl : Nat) (w : World) (a0 : (List Ln)) (a1 : (List Ln)) (hn0_0 : n0_0 = (a0).length) (hr0_0 : RO w (hkeys []) (RdL p0_0 c0_0 a0)) (hn1_0 : n1_0 = (a1).length) (hr1_0 : RO w (hkeys []) (RdL p1_0 c1_0 a1)) (r : Bool) (H0 : slices_Equal_Line fl a0 a1 = some r) :
  Ct Tryz.prog 67 [.slice p0_0 n0_0 c0_0, .slice p1_0 n1_0 c1_0] w [] (fun rv h' => rv = .bool r ∧ h' = []) := by
 subst hn0_0 hn1_0
 unfold slices_Equal_Line at H0
 refine ct_of_cw Tryz.func67 rfl Tryz.ntmps67 rfl (Sat.refl _ _) ?_
 refine sr (oS rfl (nn (cw_seq (sr (oM rfl (oD (stp_len Tryz.underlying27 rfl) rfl (oM rfl (oD (stp_len Tryz.underlying27 rfl) rfl (oU rfl (nn (cw_cond rfl (fun h1 => ?_) (fun h1 => ?_))))))))))))
 ·have H0 := cond_t H0 h1
  refine sr (oS rfl (nn (cw_ret (kw_nx_ret ?_))))
  obtain rfl := sI H0
  exact kr Tryz.results67 (rT rfl) [] ⟨rfl, rfl⟩
 have H0 := cond_f H0 h1
 obtain ⟨o0_0, eo0_0, H0⟩ := bS H0
 refine cw_skip (kw_nx (cw_seq (sr (oM rfl (oD (stp_len Tryz.underlying27 rfl) rfl (oM rfl (nn (cw_join (ι := Int) (fun | v2 => o0_0 = .out v2) (fun | v2 => [(0, .slice p0_0 ((a0).length) c0_0), (1, .slice p1_0 ((a1).length) c1_0), (12, .int .i64 ((a0).length : Int)), (13, .int .i64 v2)]) (fun | v2 => []) ?_ ?_))))))))
 ·refine cw_block (cw_loopS (ι := Nat × Int) (js := []) (fun x => x.1) (fun | (fuel, v2) => slices_Equal_Line_L0 fl a0 a1 fuel v2 = some o0_0) (fun | (_, v2) => [(0, .slice p0_0 ((a0).length) c0_0), (1, .slice p1_0 ((a1).length) c1_0), (12, .int .i64 ((a0).length : Int)), (13, .int .i64 v2)]) (fun | (_, v2) => []) (fl, 0) eo0_0 ⟨rfl, rfl, rfl, rfl, trivial⟩ trivial (by decide) ?_)
  rintro ⟨fuel, v2⟩ H1
  have H1 : slices_Equal_Line_L0 fl a0 a1 fuel v2 = some o0_0 := H1
  rcases fuel with _ | fuel
  ·rw [slices_Equal_Line_L0.eq_1] at H1; cases H1
  rw [slices_Equal_Line_L0.eq_2] at H1
  dsimp only
  refine sr (oW rfl (nn (cw_seq (cw_cond rfl (fun h3 => ?_) (fun h3 => ?_)))))
  ·have H1 := cond_t H1 h3
   obtain ⟨x4, e4, H1⟩ := bS H1
   refine cw_skip (kw_nx (cw_seq (cw_block (sr (oM rfl (oS rfl (nn (cw_seq (rdt g_mixed (rn 0 9) ⟨[], [], []⟩ (dM rfl (dM rfl (dD rfl (stp_indexAddr Tryz.underlying27 ts66 (by decide) rfl rfl rfl (Rdb.ro hr0_0) e4) (dD rfl (stp_loadN (us := [_, _, _, _, _, _]) ts66 rfl (Cells.el (Rdb.ro hr0_0) (by decide) e4 0 6 rfl)) ?_)))))))))))))
   obtain ⟨x5, e5, H1⟩ := bS H1
   refine dM rfl (dM rfl (dD rfl (stp_indexAddr Tryz.underlying27 ts66 (by decide) rfl rfl rfl (Rdb.ro hr1_0) e5) (dD rfl (stp_loadN (us := [_, _, _, _, _, _]) ts66 rfl (Cells.el (Rdb.ro hr1_0) (by decide) e5 0 6 rfl)) (dD rfl (stp_neqS te66 x4 x5 rfl rfl) (dn (kw_nx (cw_cond rfl (fun h6 => ?_) (fun h6 => ?_))))))))
   ·have H1 := cond_t H1 h6
    refine sr (oS rfl (nn (cw_ret (kw_bl_ret (kw_nx_ret (kw_lq_ret (kw_bl_ret (kw_join_ret (kw_nx_ret ?_)))))))))
    obtain rfl := sI H1
    obtain rfl := sI H0
    exact kr Tryz.results67 (rT rfl) [] ⟨rfl, rfl⟩
   have H1 := cond_f H1 h6
   obtain ⟨x7, e7, H1⟩ := bS H1
   exact cw_skip (kw_bl_normal (kw_nx (cw_region (oP e7 rfl (oM rfl (ow_nil (kw_lqS (js := []) (fuel, x7) H1 (Nat.lt_succ_self _) ⟨rfl, rfl, rfl, rfl, trivial⟩ trivial (by decide))))))))
  have H1 := cond_f H1 h3
  refine cw_exit (kw_nx_exit (kw_lq_exit (kw_bl ?_)))
  obtain rfl := sI H1
  exact kw_joinS (js := []) v2 rfl ⟨rfl, rfl, rfl, rfl, trivial⟩ trivial (by decide)
 rintro v2 rfl
 dsimp only
 refine kw_nx (sr (oS rfl (nn (cw_ret ?_))))
 obtain rfl := sI H0
 exact kr Tryz.results67 (rT rfl) [] ⟨rfl, rfl⟩

theorem c_i_CacheSame (fl : Nat) (w : World) (a0 : Ca) (a1 : Ca) (hn0_0 : n0_0 = (a0.l).length) (hr0_0 : RO w (hkeys []) (RdL p0_0 c0_0 a0.l)) (hn1_0 : n1_0 = (a1.l).length) (hr1_0 : RO w (hkeys []) (RdL p1_0 c1_0 a1.l)) (r : Bool) (H0 : i_CacheSame fl a0 a1 = some r) :
  Ct Tryz.prog 25 [.agg #[.slice p0_0 n0_0 c0_0, .int .i64 a0.h], .agg #[.slice p1_0 n1_0 c1_0, .int .i64 a1.h]] w [] (fun rv h' => rv = .bool r ∧ h' = []) := by
 subst hn0_0 hn1_0
 unfold i_CacheSame at H0
 refine ct_of_cw Tryz.func25 rfl Tryz.ntmps25 rfl (Sat.refl _ _) ?_
 refine sr (oE (stpU_box 0 rfl rfl) rfl ?_)
 rintro _ _ ⟨b1, rfl, rfl⟩
 refine oE (stpU_box 1 rfl rfl) rfl ?_
 rintro _ _ ⟨b2, rfl, rfl⟩
 obtain ⟨y3, ey3, H0⟩ := bS H0
 refine oS rfl (nn (sr (oA 1 Tryz.underlying29 rfl ts3 rfl (oL 0 ts3 rfl (oA 1 Tryz.underlying29 rfl ts3 rfl (oL 1 ts3 rfl (oQ rfl (oM rfl (ow_cutY 6 16 y3 ?_ ?_)))))))))
 ·rcases Bool.eq_false_or_eq_true (a0.h == a1.h) with hy3 | hy3
  ·have ey3 := cond_t ey3 hy3
   obtain ⟨x4, e4, ey3⟩ := bS ey3
   refine oG rfl hy3 (fA 0 Tryz.underlying29 rfl ts27 rfl rfl rfl) rfl (oG rfl hy3 (lB 0 ts27 rfl rfl rfl) rfl (oG rfl hy3 (fA 0 Tryz.underlying29 rfl ts27 rfl rfl rfl) rfl (oG rfl hy3 (lB 1 ts27 rfl rfl rfl) rfl (ow_eff (.some rfl hy3) (stpU_call (fun i => 2 + i) cf67 (fun w hw => c_slices_Equal_Line fl w a0.l a1.l rfl (RO.pass hr0_0 hw) rfl (RO.pass hr1_0 hw) x4 e4) (yB rfl rfl)) rfl ?_))))
   rintro _ _ ⟨_, ⟨rfl, rfl⟩, rfl⟩
   refine oD (stp_pick_t rfl hy3 rfl) rfl ?_
   obtain rfl := sI ey3
   exact ow_nil (jy 6 0)
  have ey3 := cond_f ey3 hy3
  refine oO rfl hy3 rfl (oO rfl hy3 rfl (oO rfl hy3 rfl (oO rfl hy3 rfl (oO rfl hy3 rfl (oD (stp_pick_f rfl hy3 rfl) rfl ?_)))))
  obtain rfl := sI ey3
  exact ow_nil (jy 6 0)
 refine oS rfl (nn (cw_ret ?_))
 obtain rfl := sI H0
 exact kr Tryz.results25 (rT rfl) [] ⟨rfl, rfl⟩

theorem c_slices_Equal_Own (fl : Nat) (w : World) (a0 : (List Ow)) (a1 : (List Ow)) (hn0_0 : n0_0 = (a0).length) (hr0_0 : RO w (hkeys []) (RdL p0_0 c0_0 a0)) (hn1_0 : n1_0 = (a1).length) (hr1_0 : RO w (hkeys []) (RdL p1_0 c1_0 a1)) (r : Bool) (H0 : slices_Equal_Own fl a0 a1 = some r) :
  Ct Tryz.prog 68 [.slice p0_0 n0_0 c0_0, .slice p1_0 n1_0 c1_0] w [] (fun rv h' => rv = .bool r ∧ h' = []) := by
 subst hn0_0 hn1_0
 unfold slices_Equal_Own at H0
 refine ct_of_cw Tryz.func68 rfl Tryz.ntmps68 rfl (Sat.refl _ _) ?_
 refine sr (oS rfl (nn (cw_seq (sr (oM rfl (oD (stp_len Tryz.underlying30 rfl) rfl (oM rfl (oD (stp_len Tryz.underlying30 rfl) rfl (oU rfl (nn (cw_cond rfl (fun h1 => ?_) (fun h1 => ?_))))))))))))
 ·have H0 := cond_t H0 h1
  refine sr (oS rfl (nn (cw_ret (kw_nx_ret ?_))))
  obtain rfl := sI H0
  exact kr Tryz.results68 (rT rfl) [] ⟨rfl, rfl⟩
 have H0 := cond_f H0 h1
 obtain ⟨o0_0, eo0_0, H0⟩ := bS H0
 refine cw_skip (kw_nx (cw_seq (sr (oM rfl (oD (stp_len Tryz.underlying30 rfl) rfl (oM rfl (nn (cw_join (ι := Int) (fun | v2 => o0_0 = .out v2) (fun | v2 => [(0, .slice p0_0 ((a0).length) c0_0), (1, .slice p1_0 ((a1).length) c1_0), (12, .int .i64 ((a0).length : Int)), (13, .int .i64 v2)]) (fun | v2 => []) ?_ ?_))))))))
 ·refine cw_block (cw_loopS (ι := Nat × Int) (js := []) (fun x => x.1) (fun | (fuel, v2) => slices_Equal_Own_L0 fl a0 a1 fuel v2 = some o0_0) (fun | (_, v2) => [(0, .slice p0_0 ((a0).length) c0_0), (1, .slice p1_0 ((a1).length) c1_0), (12, .int .i64 ((a0).length : Int)), (13, .int .i64 v2)]) (fun | (_, v2) => []) (fl, 0) eo0_0 ⟨rfl, rfl, rfl, rfl, trivial⟩ trivial (by decide) ?_)
  rintro ⟨fuel, v2⟩ H1
  have H1 : slices_Equal_Own_L0 fl a0 a1 fuel v2 = some o0_0 := H1
  rcases fuel with _ | fuel
  ·rw [slices_Equal_Own_L0.eq_1] at H1; cases H1
  rw [slices_Equal_Own_L0.eq_2] at H1
  dsimp only
  refine sr (oW rfl (nn (cw_seq (cw_cond rfl (fun h3 => ?_) (fun h3 => ?_)))))
  ·have H1 := cond_t H1 h3
   obtain ⟨x4, e4, H1⟩ := bS H1
   refine cw_skip (kw_nx (cw_seq (cw_block (sr (oM rfl (oS rfl (nn (cw_seq (rdt g_mixed (rn 0 9) ⟨[], [], []⟩ (dM rfl (dM rfl (dD rfl (stp_indexAddr Tryz.underlying30 ts108 (by decide) rfl rfl rfl (Rdb.ro hr0_0) e4) (dD rfl (stp_loadN (us := [_, _]) ts108 rfl (Cells.el (Rdb.ro hr0_0) (by decide) e4 0 2 rfl)) ?_)))))))))))))
   obtain ⟨x5, e5, H1⟩ := bS H1
   refine dM rfl (dM rfl (dD rfl (stp_indexAddr Tryz.underlying30 ts108 (by decide) rfl rfl rfl (Rdb.ro hr1_0) e5) (dD rfl (stp_loadN (us := [_, _]) ts108 rfl (Cells.el (Rdb.ro hr1_0) (by decide) e5 0 2 rfl)) (dD rfl (stp_neqS te108 x4 x5 rfl rfl) (dn (kw_nx (cw_cond rfl (fun h6 => ?_) (fun h6 => ?_))))))))
   ·have H1 := cond_t H1 h6
    refine sr (oS rfl (nn (cw_ret (kw_bl_ret (kw_nx_ret (kw_lq_ret (kw_bl_ret (kw_join_ret (kw_nx_ret ?_)))))))))
    obtain rfl := sI H1
    obtain rfl := sI H0
    exact kr Tryz.results68 (rT rfl) [] ⟨rfl, rfl⟩
   have H1 := cond_f H1 h6
   obtain ⟨x7, e7, H1⟩ := bS H1
   exact cw_skip (kw_bl_normal (kw_nx (cw_region (oP e7 rfl (oM rfl (ow_nil (kw_lqS (js := []) (fuel, x7) H1 (Nat.lt_succ_self _) ⟨rfl, rfl, rfl, rfl, trivial⟩ trivial (by decide))))))))
  have H1 := cond_f H1 h3
  refine cw_exit (kw_nx_exit (kw_lq_exit (kw_bl ?_)))
  obtain rfl := sI H1
  exact kw_joinS (js := []) v2 rfl ⟨rfl, rfl, rfl, rfl, trivial⟩ trivial (by decide)
 rintro v2 rfl
 dsimp only
 refine kw_nx (sr (oS rfl (nn (cw_ret ?_))))
 obtain rfl := sI H0
 exact kr Tryz.results68 (rT rfl) [] ⟨rfl, rfl⟩

theorem c_i_TagsSame (fl : Nat) (w : World) (a0 : Tg) (a1 : Tg) (hn0_0 : n0_0 = (a0.o).length) (hr0_0 : RO w (hkeys []) (RdL p0_0 c0_0 a0.o)) (hn1_0 : n1_0 = (a1.o).length) (hr1_0 : RO w (hkeys []) (RdL p1_0 c1_0 a1.o)) (r : Bool) (H0 : i_TagsSame fl a0 a1 = some r) :
  Ct Tryz.prog 26 [.agg #[.int .i64 a0.c, .int .i64 a0.n, .int .i64 a0.r, .slice p0_0 n0_0 c0_0], .agg #[.int .i64 a1.c, .int .i64 a1.n, .int .i64 a1.r, .slice p1_0 n1_0 c1_0]] w [] (fun rv h' => rv = .bool r ∧ h' = []) := by
 subst hn0_0 hn1_0
 unfold i_TagsSame at H0
 refine ct_of_cw Tryz.func26 rfl Tryz.ntmps26 rfl (Sat.refl _ _) ?_
 refine sr (oE (stpU_box 0 rfl rfl) rfl ?_)
 rintro _ _ ⟨b1, rfl, rfl⟩
 refine oE (stpU_box 1 rfl rfl) rfl ?_
 rintro _ _ ⟨b2, rfl, rfl⟩
 obtain ⟨y3, ey3, H0⟩ := bS H0
 refine oS rfl (nn (sr (oA 0 Tryz.underlying32 rfl ts3 rfl (oL 0 ts3 rfl (oA 0 Tryz.underlying32 rfl ts3 rfl (oL 1 ts3 rfl (oQ rfl (oM rfl (ow_cutY 6 16 y3 ?_ ?_)))))))))
 ·rcases Bool.eq_false_or_eq_true (a0.c == a1.c) with hy3 | hy3
  ·have ey3 := cond_t ey3 hy3
   refine oG rfl hy3 (fA 1 Tryz.underlying32 rfl ts3 rfl rfl rfl) rfl (oG rfl hy3 (lB 0 ts3 rfl rfl rfl) rfl (oG rfl hy3 (fA 1 Tryz.underlying32 rfl ts3 rfl rfl rfl) rfl (oG rfl hy3 (lB 1 ts3 rfl rfl rfl) rfl (oG rfl hy3 (stp_eql rfl rfl) rfl (oD (stp_pick_t rfl hy3 rfl) rfl ?_)))))
   obtain rfl := sI ey3
   exact ow_nil (jy 6 0)
  have ey3 := cond_f ey3 hy3
  refine oO rfl hy3 rfl (oO rfl hy3 rfl (oO rfl hy3 rfl (oO rfl hy3 rfl (oO rfl hy3 rfl (oD (stp_pick_f rfl hy3 rfl) rfl ?_)))))
  obtain rfl := sI ey3
  exact ow_nil (jy 6 0)
 obtain ⟨y4, ey4, H0⟩ := bS H0
 refine oM rfl (ow_cutY 6 23 y4 ?_ ?_)
 ·rcases Bool.eq_false_or_eq_true y3 with hy4 | hy4
  ·have ey4 := cond_t ey4 hy4
   refine oG rfl hy4 (fA 2 Tryz.underlying32 rfl ts3 rfl rfl rfl) rfl (oG rfl hy4 (lB 0 ts3 rfl rfl rfl) rfl (oG rfl hy4 (fA 2 Tryz.underlying32 rfl ts3 rfl rfl rfl) rfl (oG rfl hy4 (lB 1 ts3 rfl rfl rfl) rfl (oG rfl hy4 (stp_eql rfl rfl) rfl (oD (stp_pick_t rfl hy4 rfl) rfl ?_)))))
   obtain rfl := sI ey4
   exact ow_nil (jy 6 0)
  have ey4 := cond_f ey4 hy4
  refine oO rfl hy4 rfl (oO rfl hy4 rfl (oO rfl hy4 rfl (oO rfl hy4 rfl (oO rfl hy4 rfl (oD (stp_pick_f rfl hy4 rfl) rfl ?_)))))
  obtain rfl := sI ey4
  exact ow_nil (jy 6 0)
 obtain ⟨y5, ey5, H0⟩ := bS H0
 refine oM rfl (ow_cutY 6 30 y5 ?_ ?_)
 ·rcases Bool.eq_false_or_eq_true y4 with hy5 | hy5
  ·have ey5 := cond_t ey5 hy5
   obtain ⟨x6, e6, ey5⟩ := bS ey5
   refine oG rfl hy5 (fA 3 Tryz.underlying32 rfl ts30 rfl rfl rfl) rfl (oG rfl hy5 (lB 0 ts30 rfl rfl rfl) rfl (oG rfl hy5 (fA 3 Tryz.underlying32 rfl ts30 rfl rfl rfl) rfl (oG rfl hy5 (lB 1 ts30 rfl rfl rfl) rfl (ow_eff (.some rfl hy5) (stpU_call (fun i => 2 + i) cf68 (fun w hw => c_slices_Equal_Own fl w a0.o a1.o rfl (RO.pass hr0_0 hw) rfl (RO.pass hr1_0 hw) x6 e6) (yB rfl rfl)) rfl ?_))))
   rintro _ _ ⟨_, ⟨rfl, rfl⟩, rfl⟩
   refine oD (stp_pick_t rfl hy5 rfl) rfl ?_
   obtain rfl := sI ey5
   exact ow_nil (jy 6 0)
  have ey5 := cond_f ey5 hy5
  refine oO rfl hy5 rfl (oO rfl hy5 rfl (oO rfl hy5 rfl (oO rfl hy5 rfl (oO rfl hy5 rfl (oD (stp_pick_f rfl hy5 rfl) rfl ?_)))))
  obtain rfl := sI ey5
  exact ow_nil (jy 6 0)
 refine oS rfl (nn (cw_ret ?_))
 obtain rfl := sI H0
 exact kr Tryz.results26 (rT rfl) [] ⟨rfl, rfl⟩

theorem c_i_MachineSame (fl : Nat) (w : World) (a0 : Mc) (a1 : Mc) (hn0_0 : n0_0 = (a0.t.b).length) (hr0_0 : RO w (hkeys []) (RdL p0_0 c0_0 a0.t.b)) (hn0_1 : n0_1 = (a0.t.f).length) (hr0_1 : RO w (hkeys []) (RdL p0_1 c0_1 a0.t.f)) (hn0_2 : n0_2 = (a0.c.l).length) (hr0_2 : RO w (hkeys []) (RdL p0_2 c0_2 a0.c.l)) (hn0_3 : n0_3 = (a0.g.o).length) (hr0_3 : RO w (hkeys []) (RdL p0_3 c0_3 a0.g.o)) (hn1_0 : n1_0 = (a1.t.b).length) (hr1_0 : RO w (hkeys []) (RdL p1_0 c1_0 a1.t.b)) (hn1_1 : n1_1 = (a1.t.f).length) (hr1_1 : RO w (hkeys []) (RdL p1_1 c1_1 a1.t.f)) (hn1_2 : n1_2 = (a1.c.l).length) (hr1_2 : RO w (hkeys []) (RdL p1_2 c1_2 a1.c.l)) (hn1_3 : n1_3 = (a1.g.o).length) (hr1_3 : RO w (hkeys []) (RdL p1_3 c1_3 a1.g.o)) (r : Bool) (H0 : i_MachineSame fl a0 a1 = some r) :
  Ct Tryz.prog 8 [.agg #[.slice p0_0 n0_0 c0_0, .slice p0_1 n0_1 c0_1, .slice p0_2 n0_2 c0_2, .int .i64 a0.c.h, .int .i64 a0.g.c, .int .i64 a0.g.n, .int .i64 a0.g.r, .slice p0_3 n0_3 c0_3, .int .i64 a0.s], .agg #[.slice p1_0 n1_0 c1_0, .slice p1_1 n1_1 c1_1, .slice p1_2 n1_2 c1_2, .int .i64 a1.c.h, .int .i64 a1.g.c, .int .i64 a1.g.n, .int .i64 a1.g.r, .slice p1_3 n1_3 c1_3, .int .i64 a1.s]] w [] (fun rv h' => rv = .bool r ∧ h' = []) := by
 subst hn0_0 hn0_1 hn0_2 hn0_3 hn1_0 hn1_1 hn1_2 hn1_3
 unfold i_MachineSame at H0
 refine ct_of_cw Tryz.func8 rfl Tryz.ntmps8 rfl (Sat.refl _ _) ?_
 refine sr (oE (stpU_box 0 rfl rfl) rfl ?_)
 rintro _ _ ⟨b1, rfl, rfl⟩
 refine oE (stpU_box 1 rfl rfl) rfl ?_
 rintro _ _ ⟨b2, rfl, rfl⟩
 obtain ⟨x3, e3, H0⟩ := bS H0
 refine oS rfl (nn (sr (oA 0 Tryz.underlying34 rfl ts26 rfl (oB2 0 ts26 rfl (oA 0 Tryz.underlying34 rfl ts26 rfl (oB2 1 ts26 rfl (oE (stpU_call (fun i => 2 + i) cf24 (fun w hw => c_i_TableSame fl w a0.t a1.t rfl (RO.pass hr0_0 hw) rfl (RO.pass hr0_1 hw) rfl (RO.pass hr1_0 hw) rfl (RO.pass hr1_1 hw) x3 e3) (yB rfl rfl)) rfl ?_)))))))
 rintro _ _ ⟨_, ⟨rfl, rfl⟩, rfl⟩
 obtain ⟨y4, ey4, H0⟩ := bS H0
 refine oM rfl (ow_cutY 6 16 y4 ?_ ?_)
 ·rcases Bool.eq_false_or_eq_true x3 with hy4 | hy4
  ·have ey4 := cond_t ey4 hy4
   obtain ⟨x5, e5, ey4⟩ := bS ey4
   refine oG rfl hy4 (fA 2 Tryz.underlying34 rfl ts29 rfl rfl rfl) rfl (oG rfl hy4 (stp_loadN (us := [_, _]) ts29 rfl (Cells.box (id := 0) rfl 2 rfl)) rfl (oG rfl hy4 (fA 2 Tryz.underlying34 rfl ts29 rfl rfl rfl) rfl (oG rfl hy4 (stp_loadN (us := [_, _]) ts29 rfl (Cells.box (id := 1) rfl 2 rfl)) rfl (ow_eff (.some rfl hy4) (stpU_call (fun i => 2 + i) cf25 (fun w hw => c_i_CacheSame fl w a0.c a1.c rfl (RO.pass hr0_2 hw) rfl (RO.pass hr1_2 hw) x5 e5) (yB rfl rfl)) rfl ?_))))
   rintro _ _ ⟨_, ⟨rfl, rfl⟩, rfl⟩
   refine oD (stp_pick_t rfl hy4 rfl) rfl ?_
   obtain rfl := sI ey4
   exact ow_nil (jy 6 0)
  have ey4 := cond_f ey4 hy4
  refine oO rfl hy4 rfl (oO rfl hy4 rfl (oO rfl hy4 rfl (oO rfl hy4 rfl (oO rfl hy4 rfl (oD (stp_pick_f rfl hy4 rfl) rfl ?_)))))
  obtain rfl := sI ey4
  exact ow_nil (jy 6 0)
 obtain ⟨y6, ey6, H0⟩ := bS H0
 refine oM rfl (ow_cutY 6 23 y6 ?_ ?_)
 ·rcases Bool.eq_false_or_eq_true y4 with hy6 | hy6
  ·have ey6 := cond_t ey6 hy6
   obtain ⟨x7, e7, ey6⟩ := bS ey6
   refine oG rfl hy6 (fA 4 Tryz.underlying34 rfl ts32 rfl rfl rfl) rfl (oG rfl hy6 (stp_loadN (us := [_, _, _, _]) ts32 rfl (Cells.box (id := 0) rfl 4 rfl)) rfl (oG rfl hy6 (fA 4 Tryz.underlying34 rfl ts32 rfl rfl rfl) rfl (oG rfl hy6 (stp_loadN (us := [_, _, _, _]) ts32 rfl (Cells.box (id := 1) rfl 4 rfl)) rfl (ow_eff (.some rfl hy6) (stpU_call (fun i => 2 + i) cf26 (fun w hw => c_i_TagsSame fl w a0.g a1.g rfl (RO.pass hr0_3 hw) rfl (RO.pass hr1_3 hw) x7 e7) (yB rfl rfl)) rfl ?_))))
   rintro _ _ ⟨_, ⟨rfl, rfl⟩, rfl⟩
   refine oD (stp_pick_t rfl hy6 rfl) rfl ?_
   obtain rfl := sI ey6
   exact ow_nil (jy 6 0)
  have ey6 := cond_f ey6 hy6
  refine oO rfl hy6 rfl (oO rfl hy6 rfl (oO rfl hy6 rfl (oO rfl hy6 rfl (oO rfl hy6 rfl (oD (stp_pick_f rfl hy6 rfl) rfl ?_)))))
  obtain rfl := sI ey6
  exact ow_nil (jy 6 0)
 obtain ⟨y8, ey8, H0⟩ := bS H0
 refine oM rfl (ow_cutY 6 30 y8 ?_ ?_)
 ·rcases Bool.eq_false_or_eq_true y6 with hy8 | hy8
  ·have ey8 := cond_t ey8 hy8
   refine oG rfl hy8 (fA 8 Tryz.underlying34 rfl ts3 rfl rfl rfl) rfl (oG rfl hy8 (lB 0 ts3 rfl rfl rfl) rfl (oG rfl hy8 (fA 8 Tryz.underlying34 rfl ts3 rfl rfl rfl) rfl (oG rfl hy8 (lB 1 ts3 rfl rfl rfl) rfl (oG rfl hy8 (stp_eql rfl rfl) rfl (oD (stp_pick_t rfl hy8 rfl) rfl ?_)))))
   obtain rfl := sI ey8
   exact ow_nil (jy 6 0)
  have ey8 := cond_f ey8 hy8
  refine oO rfl hy8 rfl (oO rfl hy8 rfl (oO rfl hy8 rfl (oO rfl hy8 rfl (oO rfl hy8 rfl (oD (stp_pick_f rfl hy8 rfl) rfl ?_)))))
  obtain rfl := sI ey8
  exact ow_nil (jy 6 0)
 refine oS rfl (nn (cw_ret ?_))
 obtain rfl := sI H0
 exact kr Tryz.results8 (rT rfl) [] ⟨rfl, rfl⟩

theorem c_i_TakeTag (fl : Nat) (w : World) (a0 : Tg) (a1 : Int) (hn0_0 : n0_0 = (a0.o).length) (hr0_0 : RO w (hkeys []) (RdL p0_0 c0_0 a0.o)) (r : Tg × Int × Bool × Bool) (H0 : i_TakeTag fl a0 a1 = some r) :
  Ct Tryz.prog 27 [.agg #[.int .i64 a0.c, .int .i64 a0.n, .int .i64 a0.r, .slice p0_0 n0_0 c0_0], .int .i64 a1] w [] (fun rv h' => ∃ (x0 : Option Addr) (y0 z0 : Nat) (C0 : Res), rv = .tuple #[.agg #[.int .i64 r.1.c, .int .i64 r.1.n, .int .i64 r.1.r, .slice x0 y0 z0], .int .i64 r.2.1, .bool r.2.2.1, .bool r.2.2.2] ∧ h' = [(0, C0)] ∧ y0 = (r.1.o).length ∧ OwnC 108 x0 z0 r.1.o C0) := by
 subst hn0_0
 unfold i_TakeTag at H0
 refine ct_of_cw Tryz.func27 rfl Tryz.ntmps27 rfl (Sat.refl _ _) ?_
 refine sr (oE (stpU_box 0 rfl rfl) rfl ?_)
 rintro _ _ ⟨b1, rfl, rfl⟩
 refine oE (stpU_alloc 1 tz32 rfl) rfl ?_
 rintro _ _ ⟨b2, rfl, rfl⟩
 obtain ⟨x3, e3, H0⟩ := bS H0
 refine oS rfl (oS rfl (oS rfl (nn (cw_seq (sr (oB4 0 ts32 rfl (oE (stpU_call (fun i => 2 + i) cf38 (fun w hw => c_i_TagsValid fl w a0 rfl (RO.pass hr0_0 hw) x3 e3) (yA rfl)) rfl ?_)))))))
 rintro _ _ ⟨_, ⟨rfl, rfl⟩, rfl⟩
 obtain ⟨y4, ey4, H0⟩ := bS H0
 refine oK rfl (oM rfl (ow_cutY 4 19 y4 ?_ ?_))
 ·rcases Bool.eq_false_or_eq_true (!x3) with hy4 | hy4
  ·have ey4 := cond_t ey4 hy4
   refine oO rfl hy4 rfl (oO rfl hy4 rfl (oO rfl hy4 rfl (oD (stp_pick_t rfl hy4 rfl) rfl ?_)))
   obtain rfl := sI ey4
   exact ow_nil (jy 4 0)
  have ey4 := cond_f ey4 hy4
  obtain ⟨x5, e5, ey4⟩ := bS ey4
  refine oG rfl hy4 (mv rfl) rfl (ow_eff (.some rfl hy4) (stpU_call (fun i => 2 + i) cf29 (fun w hw => c_i_within fl w a1 16 x5 e5) (yB rfl rfl)) rfl ?_)
  rintro _ _ ⟨_, ⟨rfl, rfl⟩, rfl⟩
  refine oG rfl hy4 (stp_not rfl) rfl (oD (stp_pick_f rfl hy4 rfl) rfl ?_)
  obtain rfl := sI ey4
  exact ow_nil (jy 4 0)
 refine ow_nil (kw_nx (cw_cond rfl (fun h6 => ?_) (fun h6 => ?_)))
 ·have H0 := cond_t H0 h6
  refine sr (oD (stp_build (cs := #[.int .i64 0, .int .i64 0, .int .i64 0, .slice none 0 0]) sevp_nil bt32_4) rfl (oC4 1 ts32 rfl rfl (oS rfl (oS rfl (oS rfl (nn (cw_ret (kw_nx_ret (kw_addNil 2 ?_)))))))))
  obtain rfl := sI H0
  exact kr Tryz.results27 (.cons (.cellN (us := [_, _, _, _]) ts32 rfl (Cells.box (id := 1) rfl 4 rfl)) (.cons (.tmp rfl) (.cons (.tmp rfl) (rT rfl)))) [2] ⟨_, _, _, _, rfl, rfl, rfl, (OwnC.nil _ _)⟩
 have H0 := cond_f H0 h6
 refine cw_skip (kw_nx (sr (oB4 0 ts32 rfl (oE (stpU_alloc 3 tz32 rfl) rfl ?_))))
 rintro _ _ ⟨b7, rfl, rfl⟩
 obtain ⟨x8, e8, H0⟩ := bS H0
 refine oC4 3 ts32 rfl rfl (nn (sr (oA 3 Tryz.underlying32 rfl ts30 rfl (oL 0 ts30 rfl (oE (stpU_call (fun i => 4 + i) cf70 (fun w hw => c_slices_Clone_Own fl w a0.o rfl (RO.pass hr0_0 hw) x8 e8) (yA rfl)) rfl ?_)))))
 rintro _ _ ⟨_, ⟨p9, _, c11, C12, rfl, rfl, rfl, o12⟩, rfl⟩
 refine oE (stpU_call (fun i => i) cf69 (fun w hw => c_clip69 w p9 ((x8).length) c11 (OwnC.len o12).1) (yA rfl)) rfl ?_
 rintro _ _ ⟨_, ⟨rfl, rfl⟩, rfl⟩
 obtain ⟨x13, e13, H0⟩ := bS H0
 refine oA 3 Tryz.underlying32 rfl ts30 rfl (oC4 3 ts30 rfl rfl (nn (cw_seq (sr (oB4 0 ts32 rfl (oM rfl (oE (stpU_call (fun i => 5 + i) cf39 (fun w hw => c_i_Tags_own fl w a0 a1 rfl (RO.pass hr0_0 hw) x13 e13) (yB rfl rfl)) rfl ?_)))))))
 rintro _ _ ⟨_, ⟨rfl, rfl⟩, rfl⟩
 refine oS rfl (nn (sr (oM rfl (oI rfl (nn (cw_cond rfl (fun h14 => ?_) (fun h14 => ?_)))))))
 ·have H0 := cond_t H0 h14
  obtain ⟨x15, e15, H0⟩ := bS H0
  refine cw_seq (rdt g_mixed (rn 0 11) ⟨[[3],[],[0],[],[],[],[],[1]], [[],[],[],[],[],[],[],[1]], []⟩ (dB4 3 ts32 rfl (dA 3 rfl Tryz.underlying32 rfl ts30 rfl (dL 0 ts30 rfl (dM rfl (dD rfl (stp_indexAddr Tryz.underlying30 ts108 (by decide) rfl rfl rfl (Rdb.ro hr0_0) e15) (dA 1 rfl Tryz.underlying108 rfl ts3 rfl (dD rfl (stp_load1 ts3 rfl (Cells.el (Rdb.ro hr0_0) (by decide) e15 1 1 rfl)) (dC4 1 ts32 rfl rfl rfl (dS rfl (dS rfl (dS rfl (dn ?_)))))))))))))
  refine kw_nx (cw_ret (kw_nx_ret ?_))
  obtain rfl := sI H0
  exact kr Tryz.results27 (.cons (.cellN (us := [_, _, _, _]) ts32 rfl (Cells.box (id := 1) rfl 4 rfl)) (.cons (.tmp rfl) (.cons (.tmp rfl) (rT rfl)))) [4] ⟨_, _, _, _, rfl, rfl, rfl, (OwnC.clip o12)⟩
 have H0 := cond_f H0 h14
 refine cw_skip (kw_nx (sr (oA 1 Tryz.underlying32 rfl ts3 rfl (oL 0 ts3 rfl (oA 0 Tryz.underlying32 rfl ts3 rfl (oL 0 ts3 rfl (oQ rfl (oS rfl (nn (cw_seq (sr (oM rfl (nn ?_)))))))))))))
 refine cw_cond rfl (fun h16 => ?_) (fun h16 => ?_)
 ·have H0 := cond_t H0 h16
  refine cw_seq (sr (oA 2 Tryz.underlying32 rfl ts3 rfl (oL 0 ts3 rfl (oQ rfl (nn (cw_cond rfl (fun h17 => ?_) (fun h17 => ?_)))))))
  ·have H0 := cond_t H0 h17
   refine sr (oD (stp_build (cs := #[.int .i64 0, .int .i64 0, .int .i64 0, .slice none 0 0]) sevp_nil bt32_4) rfl (oC4 1 ts32 rfl rfl (oS rfl (oS rfl (oS rfl (nn (cw_ret (kw_nx_ret (kw_nx_ret (kw_addNil 5 ?_))))))))))
   obtain rfl := sI H0
   exact kr Tryz.results27 (.cons (.cellN (us := [_, _, _, _]) ts32 rfl (Cells.box (id := 1) rfl 4 rfl)) (.cons (.tmp rfl) (.cons (.tmp rfl) (rT rfl)))) [5] ⟨_, _, _, _, rfl, rfl, rfl, (OwnC.nil _ _)⟩
  have H0 := cond_f H0 h17
  obtain ⟨x18, e18, H0⟩ := bS H0
  refine cw_skip (kw_nx (cw_region (oA 0 Tryz.underlying32 rfl ts3 rfl (oL 0 ts3 rfl (oA 2 Tryz.underlying32 rfl ts3 rfl (oL 0 ts3 rfl (oP e18 rfl (oD (stp_build (cs := #[.int .i64 a0.c, .int .i64 0, .int .i64 x18, .slice none 0 0]) (sevp_cons rfl (sevp_cons rfl sevp_nil)) bt32_19) rfl (oC4 3 ts32 rfl rfl (nn (sr (oA 1 Tryz.underlying32 rfl ts3 rfl (oL 3 ts3 rfl ?_)))))))))))))
  refine oS rfl (nn (sr (oA 3 Tryz.underlying32 rfl ts30 rfl (oL 3 ts30 rfl (oM rfl (oM rfl (oD (stp_build (cs := #[.int .i64 a1, .int .i64 0]) (sevp_cons rfl (sevp_cons rfl sevp_nil)) bt108_9) rfl (oE (stpU_lit (sz := 2) (l := [(⟨a1, 0⟩ : Ow)]) [.agg #[.int .i64 a1, .int .i64 0]] sl30 6 (sevp_cons rfl sevp_nil) rfl rfl rfl rfl rfl rfl rfl rfl rfl) rfl ?_))))))))
  rintro _ _ ⟨p19, C20, rfl, rfl, o20⟩
  obtain ⟨x21, e21, H0⟩ := bS H0
  refine ow_addNil 7 (oE (stpU_append sl30 rfl (id := 7) rfl rfl rfl (by simp) rfl (OwnC.nil 108 none) (Rdb.own (id := 6) rfl o20) e21) rfl ?_)
  rintro _ _ ⟨p22, c23, C24, rfl, rfl, o24⟩
  refine oE (stpU_call (fun i => i) cf69 (fun w hw => c_clip69 w p22 ((x21).length) c23 (OwnC.len o24).1) (yA rfl)) rfl ?_
  rintro _ _ ⟨_, ⟨rfl, rfl⟩, rfl⟩
  obtain ⟨x25, e25, H0⟩ := bS H0
  refine oA 3 Tryz.underlying32 rfl ts30 rfl (oC4 3 ts30 rfl rfl (nn (sr (oA 1 Tryz.underlying32 rfl ts3 rfl (oL 3 ts3 rfl (oP e25 rfl (oA 1 Tryz.underlying32 rfl ts3 rfl (oC4 3 ts3 rfl rfl (nn (sr (oB4 3 ts32 rfl (oM rfl (oM rfl ?_)))))))))))))
  refine oC4 1 ts32 rfl rfl (oS rfl (oS rfl (oS rfl (nn (cw_ret ?_)))))
  obtain rfl := sI H0
  exact kr Tryz.results27 (.cons (.cellN (us := [_, _, _, _]) ts32 rfl (Cells.box (id := 1) rfl 4 rfl)) (.cons (.tmp rfl) (.cons (.tmp rfl) (rT rfl)))) [7] ⟨_, _, _, _, rfl, rfl, rfl, (OwnC.clip o24)⟩
 have H0 := cond_f H0 h16
 refine cw_skip (kw_nx (sr (oA 1 Tryz.underlying32 rfl ts3 rfl (oL 3 ts3 rfl (oS rfl (nn (sr (oA 3 Tryz.underlying32 rfl ts30 rfl (oL 3 ts30 rfl (oM rfl (oM rfl (oD (stp_build (cs := #[.int .i64 a1, .int .i64 a0.n]) (sevp_cons rfl (sevp_cons rfl sevp_nil)) bt108_9) rfl (oE (stpU_lit (sz := 2) (l := [(⟨a1, a0.n⟩ : Ow)]) [.agg #[.int .i64 a1, .int .i64 a0.n]] sl30 8 (sevp_cons rfl sevp_nil) rfl rfl rfl rfl rfl rfl rfl rfl rfl) rfl ?_)))))))))))))
 rintro _ _ ⟨p26, C27, rfl, rfl, o27⟩
 obtain ⟨x28, e28, H0⟩ := bS H0
 refine oE (stpU_append sl30 rfl (id := 4) rfl rfl rfl (by simp) rfl (OwnC.clip o12) (Rdb.own (id := 8) rfl o27) e28) rfl ?_
 rintro _ _ ⟨p29, c30, C31, rfl, rfl, o31⟩
 refine oE (stpU_call (fun i => i) cf69 (fun w hw => c_clip69 w p29 ((x28).length) c30 (OwnC.len o31).1) (yA rfl)) rfl ?_
 rintro _ _ ⟨_, ⟨rfl, rfl⟩, rfl⟩
 obtain ⟨x32, e32, H0⟩ := bS H0
 refine oA 3 Tryz.underlying32 rfl ts30 rfl (oC4 3 ts30 rfl rfl (nn (sr (oA 1 Tryz.underlying32 rfl ts3 rfl (oL 3 ts3 rfl (oP e32 rfl (oA 1 Tryz.underlying32 rfl ts3 rfl (oC4 3 ts3 rfl rfl (nn (sr (oB4 3 ts32 rfl (oM rfl (oM rfl ?_)))))))))))))
 refine oC4 1 ts32 rfl rfl (oS rfl (oS rfl (oS rfl (nn (cw_ret ?_)))))
 obtain rfl := sI H0
 exact kr Tryz.results27 (.cons (.cellN (us := [_, _, _, _]) ts32 rfl (Cells.box (id := 1) rfl 4 rfl)) (.cons (.tmp rfl) (.cons (.tmp rfl) (rT rfl)))) [4] ⟨_, _, _, _, rfl, rfl, rfl, (OwnC.clip o31)⟩

theorem c_i_EnterSpace (fl : Nat) (w : World) (a0 : Mc) (a1 : Int) (hn0_0 : n0_0 = (a0.t.b).length) (hr0_0 : RO w (hkeys []) (RdL p0_0 c0_0 a0.t.b)) (hn0_1 : n0_1 = (a0.t.f).length) (hr0_1 : RO w (hkeys []) (RdL p0_1 c0_1 a0.t.f)) (hn0_2 : n0_2 = (a0.c.l).length) (hr0_2 : RO w (hkeys []) (RdL p0_2 c0_2 a0.c.l)) (hn0_3 : n0_3 = (a0.g.o).length) (hr0_3 : RO w (hkeys []) (RdL p0_3 c0_3 a0.g.o)) (hg : RO w (hkeys []) (fun w' => w'.rangeAt 0 0 [.bool false, .int .i64 0, .int .i64 0, .int .i64 0, .int .i64 (-1)])) (r : Mc × Bool) (H0 : i_EnterSpace fl a0 a1 = some r) :
  Ct Tryz.prog 9 [.agg #[.slice p0_0 n0_0 c0_0, .slice p0_1 n0_1 c0_1, .slice p0_2 n0_2 c0_2, .int .i64 a0.c.h, .int .i64 a0.g.c, .int .i64 a0.g.n, .int .i64 a0.g.r, .slice p0_3 n0_3 c0_3, .int .i64 a0.s], .int .i64 a1] w [] (fun rv h' => ∃ (x0 : Option Addr) (y0 z0 : Nat) (C0 : Res) (x1 : Option Addr) (y1 z1 : Nat) (C1 : Res) (x2 : Option Addr) (y2 z2 : Nat) (C2 : Res) (x3 : Option Addr) (y3 z3 : Nat) (C3 : Res), rv = .tuple #[.agg #[.slice x0 y0 z0, .slice x1 y1 z1, .slice x2 y2 z2, .int .i64 r.1.c.h, .int .i64 r.1.g.c, .int .i64 r.1.g.n, .int .i64 r.1.g.r, .slice x3 y3 z3, .int .i64 r.1.s], .bool r.2] ∧ h' = [(0, C0), (1, C1), (2, C2), (3, C3)] ∧ y0 = (r.1.t.b).length ∧ OwnC 3 x0 z0 r.1.t.b C0 ∧ y1 = (r.1.t.f).length ∧ OwnC 74 x1 z1 r.1.t.f C1 ∧ y2 = (r.1.c.l).length ∧ OwnC 66 x2 z2 r.1.c.l C2 ∧ y3 = (r.1.g.o).length ∧ OwnC 108 x3 z3 r.1.g.o C3) := by
 subst hn0_0 hn0_1 hn0_2 hn0_3
 unfold i_EnterSpace at H0
 refine ct_of_cw Tryz.func9 rfl Tryz.ntmps9 rfl (Sat.refl _ _) ?_
 refine sr (oE (stpU_box 0 rfl rfl) rfl ?_)
 rintro _ _ ⟨b1, rfl, rfl⟩
 refine oE (stpU_alloc 1 tz34 rfl) rfl ?_
 rintro _ _ ⟨b2, rfl, rfl⟩
 obtain ⟨x3, e3, H0⟩ := bS H0
 refine oS rfl (nn (cw_seq (sr (oB9 0 ts34 rfl (oE (stpU_call (fun i => 2 + i) cf12 (fun w hw => c_i_MachineValid fl w a0 rfl (RO.pass hr0_0 hw) rfl (RO.pass hr0_1 hw) rfl (RO.pass hr0_2 hw) rfl (RO.pass hr0_3 hw) (RO.pass hg hw) x3 e3) (yA rfl)) rfl ?_)))))
 rintro _ _ ⟨_, ⟨rfl, rfl⟩, rfl⟩
 refine oK rfl (nn (cw_cond rfl (fun h4 => ?_) (fun h4 => ?_)))
 ·have H0 := cond_t H0 h4
  refine sr (oD (stp_build (cs := #[.slice none 0 0, .slice none 0 0, .slice none 0 0, .int .i64 0, .int .i64 0, .int .i64 0, .int .i64 0, .slice none 0 0, .int .i64 0]) sevp_nil bt34_6) rfl (oC9 1 ts34 rfl rfl (oS rfl (nn (cw_ret (kw_nx_ret (kw_addNil 2 (kw_addNil 3 (kw_addNil 4 (kw_addNil 5 ?_))))))))))
  obtain rfl := sI H0
  exact kr Tryz.results9 (.cons (.cellN (us := [_, _, _, _, _, _, _, _, _]) ts34 rfl (Cells.box (id := 1) rfl 9 rfl)) (rT rfl)) [2, 3, 4, 5] ⟨_, _, _, _, _, _, _, _, _, _, _, _, _, _, _, _, rfl, rfl, rfl, (OwnC.nil _ _), rfl, (OwnC.nil _ _), rfl, (OwnC.nil _ _), rfl, (OwnC.nil _ _)⟩
 have H0 := cond_f H0 h4
 obtain ⟨x5, e5, H0⟩ := bS H0
 refine cw_skip (kw_nx (sr (oA 4 Tryz.underlying34 rfl ts32 rfl (oB4 0 ts32 rfl (oM rfl (oE (stpU_call (fun i => 6 + i) cf27 (fun w hw => c_i_TakeTag fl w a0.g a1 rfl (RO.pass hr0_3 hw) x5 e5) (yB rfl rfl)) rfl ?_))))))
 rintro _ _ ⟨_, ⟨p6, _, c8, C9, rfl, rfl, rfl, o9⟩, rfl⟩
 refine oM rfl (oT rfl (oT rfl (oT rfl (oT rfl (oE (stpU_alloc 7 tz32 rfl) rfl ?_)))))
 rintro _ _ ⟨b10, rfl, rfl⟩
 refine oC4 7 ts32 rfl rfl (oS rfl (oS rfl (oS rfl (nn (cw_seq (sr (oM rfl (oK rfl (nn (cw_cond rfl (fun h11 => ?_) (fun h11 => ?_)))))))))))
 ·have H0 := cond_t H0 h11
  refine sr (oD (stp_build (cs := #[.slice none 0 0, .slice none 0 0, .slice none 0 0, .int .i64 0, .int .i64 0, .int .i64 0, .int .i64 0, .slice none 0 0, .int .i64 0]) sevp_nil bt34_6) rfl (oC9 1 ts34 rfl rfl (oS rfl (nn (cw_ret (kw_nx_ret (kw_addNil 8 (kw_addNil 9 (kw_addNil 10 (kw_addNil 11 ?_))))))))))
  obtain rfl := sI H0
  exact kr Tryz.results9 (.cons (.cellN (us := [_, _, _, _, _, _, _, _, _]) ts34 rfl (Cells.box (id := 1) rfl 9 rfl)) (rT rfl)) [8, 9, 10, 11] ⟨_, _, _, _, _, _, _, _, _, _, _, _, _, _, _, _, rfl, rfl, rfl, (OwnC.nil _ _), rfl, (OwnC.nil _ _), rfl, (OwnC.nil _ _), rfl, (OwnC.nil _ _)⟩
 have H0 := cond_f H0 h11
 obtain ⟨x12, e12, H0⟩ := bS H0
 refine cw_skip (kw_nx (sr (oB9 0 ts34 rfl (oE (stpU_call (fun i => 12 + i) cf28 (fun w hw => c_i_Machine_clone fl w a0 rfl (RO.pass hr0_0 hw) rfl (RO.pass hr0_1 hw) rfl (RO.pass hr0_2 hw) rfl (RO.pass hr0_3 hw) x12 e12) (yA rfl)) rfl ?_))))
 rintro _ _ ⟨_, ⟨p13, _, c15, C16, p17, _, c19, C20, p21, _, c23, C24, p25, _, c27, C28, rfl, rfl, rfl, o16, rfl, o20, rfl, o24, rfl, o28⟩, rfl⟩
 refine oE (stpU_alloc 16 tz34 rfl) rfl ?_
 rintro _ _ ⟨b29, rfl, rfl⟩
 refine oC9 16 ts34 rfl rfl (nn (sr (oB4 7 ts32 rfl (oM rfl (oA 4 Tryz.underlying34 rfl ts32 rfl (oC9 16 ts32 rfl rfl (oA 8 Tryz.underlying34 rfl ts3 rfl (oC9 16 ts3 rfl rfl (nn (cw_seq (sr (oA 2 Tryz.underlying34 rfl ts29 rfl (oA 0 Tryz.underlying29 rfl ts27 rfl ?_)))))))))))))
 obtain ⟨o0_0, eo0_0, H0⟩ := bS H0
 refine oL 16 ts27 rfl (oD (stp_len Tryz.underlying27 rfl) rfl (oM rfl (nn (cw_join (ι := (List Ln) × Int × Res) (fun | (v30, v32, C31) => o0_0 = .out (v30, v32) ∧ (x12.c.l).length = (v30).length ∧ OwnC 66 p21 c23 v30 C31) (fun | (v30, v32, C31) => [(4, .pointer (some ⟨b2, 0, none⟩)), (8, .bool x5.2.2.1), (10, .pointer (some ⟨b29, 0, none⟩)), (37, .slice p21 ((x12.c.l).length) c23), (38, .int .i64 ((x12.c.l).length : Int)), (39, .int .i64 v32)]) (fun | (v30, v32, C31) => [(1, [(b2, .cells #[.slice none 0 0, .slice none 0 0, .slice none 0 0, .int .i64 0, .int .i64 0, .int .i64 0, .int .i64 0, .slice none 0 0, .int .i64 0] 34 (0, 0))]), (6, C9), (12, C16), (13, C20), (14, C31), (16, [(b29, .cells #[.slice p13 ((x12.t.b).length) c15, .slice p17 ((x12.t.f).length) c19, .slice p21 ((x12.c.l).length) c23, .int .i64 x12.c.h, .int .i64 x5.1.c, .int .i64 x5.1.n, .int .i64 x5.1.r, .slice p6 ((x5.1.o).length) c8, .int .i64 a1] 34 (0, 0))])]) ?_ ?_))))
 ·refine cw_block (cw_loopS (ι := Nat × (List Ln) × Int × Res) (js := [1, 6, 12, 13, 14, 16]) (fun x => x.1) (fun | (fuel, v30, v32, C31) => i_EnterSpace_L0 fl x5 x12 fuel v30 v32 = some o0_0 ∧ (x12.c.l).length = (v30).length ∧ OwnC 66 p21 c23 v30 C31) (fun | (_, v30, v32, C31) => [(4, .pointer (some ⟨b2, 0, none⟩)), (8, .bool x5.2.2.1), (10, .pointer (some ⟨b29, 0, none⟩)), (37, .slice p21 ((x12.c.l).length) c23), (38, .int .i64 ((x12.c.l).length : Int)), (39, .int .i64 v32)]) (fun | (_, v30, v32, C31) => [(1, [(b2, .cells #[.slice none 0 0, .slice none 0 0, .slice none 0 0, .int .i64 0, .int .i64 0, .int .i64 0, .int .i64 0, .slice none 0 0, .int .i64 0] 34 (0, 0))]), (6, C9), (12, C16), (13, C20), (14, C31), (16, [(b29, .cells #[.slice p13 ((x12.t.b).length) c15, .slice p17 ((x12.t.f).length) c19, .slice p21 ((x12.c.l).length) c23, .int .i64 x12.c.h, .int .i64 x5.1.c, .int .i64 x5.1.n, .int .i64 x5.1.r, .slice p6 ((x5.1.o).length) c8, .int .i64 a1] 34 (0, 0))])]) (fl, x12.c.l, 0, C24) ⟨eo0_0, rfl, o24⟩ ⟨rfl, rfl, rfl, rfl, rfl, rfl, trivial⟩ ⟨1, [6, 12, 13, 14, 16], rfl, rfl, 6, [12, 13, 14, 16], rfl, rfl, 12, [13, 14, 16], rfl, rfl, 13, [14, 16], rfl, rfl, 14, [16], rfl, rfl, 16, [], rfl, rfl, trivial⟩ (by decide) ?_)
  rintro ⟨fuel, v30, v32, C31⟩ ⟨H1, hl31, o31⟩
  have H1 : i_EnterSpace_L0 fl x5 x12 fuel v30 v32 = some o0_0 := H1
  rcases fuel with _ | fuel
  ·rw [i_EnterSpace_L0.eq_1] at H1; cases H1
  rw [i_EnterSpace_L0.eq_2] at H1
  dsimp only
  refine sr (oW rfl (nn (cw_seq (cw_cond rfl (fun h33 => ?_) (fun h33 => ?_)))))
  ·have H1 := cond_t H1 h33
   obtain ⟨x34, e34, H1⟩ := bS H1
   refine cw_skip (kw_nx (cw_seq (cw_block (sr (oM rfl (oD (stp_indexAddr Tryz.underlying27 ts66 (by decide) rfl (by simp [hl31]) rfl (Rdb.own (id := 14) rfl o31) e34) rfl (oD (stp_loadN (us := [_, _, _, _, _, _]) ts66 rfl (Cells.el (Rdb.own (id := 14) rfl o31) (by decide) e34 0 6 rfl)) rfl (oE (stpU_alloc 17 tz66 rfl) rfl ?_))))))))
   rintro _ _ ⟨b35, rfl, rfl⟩
   obtain ⟨y36, ey36, H1⟩ := bS H1
   refine oS rfl (oC6 17 ts66 rfl rfl (nn (sr (oM rfl (oM rfl (ow_cutY 4 49 y36 ?_ ?_))))))
   ·rcases Bool.eq_false_or_eq_true x5.2.2.1 with hy36 | hy36
    ·have ey36 := cond_t ey36 hy36
     refine oG rfl hy36 (fA 1 Tryz.underlying66 rfl ts3 rfl rfl rfl) rfl (oG rfl hy36 (lB 17 ts3 rfl rfl rfl) rfl (oG rfl hy36 (stp_neq rfl rfl) rfl (oD (stp_pick_t rfl hy36 rfl) rfl ?_)))
     obtain rfl := sI ey36
     exact ow_nil (jy 4 0)
    have ey36 := cond_f ey36 hy36
    refine oO rfl hy36 rfl (oO rfl hy36 rfl (oO rfl hy36 rfl (oD (stp_pick_f rfl hy36 rfl) rfl ?_)))
    obtain rfl := sI ey36
    exact ow_nil (jy 4 0)
   refine ow_nil (kw_nx (cw_cond rfl (fun h37 => ?_) (fun h37 => ?_)))
   ·have H1 := cond_t H1 h37
    refine cw_region (oA 2 Tryz.underlying34 rfl ts29 rfl (oA 0 Tryz.underlying29 rfl ts27 rfl (oL 16 ts27 rfl (oM rfl (oD (stp_build (cs := #[.bool false, .int .i64 0, .int .i64 0, .int .i64 0, .int .i64 0, .bool false]) sevp_nil bt66_11) rfl (oD (stp_indexAddr Tryz.underlying27 ts66 (by decide) rfl (by simp [hl31]) rfl (Rdb.own (id := 14) rfl o31) e34) rfl (oF (stpU_storeEl (id := 14) (i := 0) (⟨false, 0, 0, 0, 0, false⟩ : Ln) (by decide) ts66 rfl rfl rfl o31 e34 rfl rfl rfl rfl) ?_)))))))
    rintro _ _ ⟨C38, rfl, o38⟩
    obtain ⟨x39, e39, H1⟩ := bS H1
    exact ow_nil (kw_bl_normal (kw_nx (cw_region (oP e39 rfl (oM rfl (ow_nil (kw_lqS (js := [1, 6, 12, 13, 14, 16]) (fuel, (v30.set (Int.toNat v32) (⟨false, 0, 0, 0, 0, false⟩ : Ln)), x39, C38) ⟨H1, (by simp [hl31]), o38⟩ (Nat.lt_succ_self _) ⟨rfl, rfl, rfl, rfl, rfl, rfl, trivial⟩ ⟨1, [6, 12, 13, 14, 16], rfl, rfl, 6, [12, 13, 14, 16], rfl, rfl, 12, [13, 14, 16], rfl, rfl, 13, [14, 16], rfl, rfl, 14, [16], rfl, rfl, 16, [], rfl, rfl, trivial⟩ (by decide))))))))
   have H1 := cond_f H1 h37
   obtain ⟨x40, e40, H1⟩ := bS H1
   exact cw_skip (kw_bl_normal (kw_nx (cw_region (oP e40 rfl (oM rfl (ow_nil (kw_lqS (js := [1, 6, 12, 13, 14, 16]) (fuel, v30, x40, C31) ⟨H1, (by simp [hl31]), o31⟩ (Nat.lt_succ_self _) ⟨rfl, rfl, rfl, rfl, rfl, rfl, trivial⟩ ⟨1, [6, 12, 13, 14, 16], rfl, rfl, 6, [12, 13, 14, 16], rfl, rfl, 12, [13, 14, 16], rfl, rfl, 13, [14, 16], rfl, rfl, 14, [16], rfl, rfl, 16, [], rfl, rfl, trivial⟩ (by decide))))))))
  have H1 := cond_f H1 h33
  refine cw_exit (kw_nx_exit (kw_lq_exit (kw_bl ?_)))
  obtain rfl := sI H1
  exact kw_joinS (js := [1, 6, 12, 13, 14, 16]) (v30, v32, C31) ⟨rfl, (by simp [hl31]), o31⟩ ⟨rfl, rfl, rfl, rfl, rfl, rfl, trivial⟩ ⟨1, [6, 12, 13, 14, 16], rfl, rfl, 6, [12, 13, 14, 16], rfl, rfl, 12, [13, 14, 16], rfl, rfl, 13, [14, 16], rfl, rfl, 14, [16], rfl, rfl, 16, [], rfl, rfl, trivial⟩ (by decide)
 rintro ⟨v30, v32, C31⟩ ⟨rfl, hl31, o31⟩
 dsimp only
 refine kw_nx (sr (oB9 16 ts34 rfl (oC9 1 ts34 rfl rfl (oS rfl (nn (cw_ret ?_))))))
 obtain rfl := sI H0
 exact kr Tryz.results9 (.cons (.cellN (us := [_, _, _, _, _, _, _, _, _]) ts34 rfl (Cells.box (id := 1) rfl 9 rfl)) (rT rfl)) [12, 13, 14, 6] ⟨_, _, _, _, _, _, _, _, _, _, _, _, _, _, _, _, rfl, rfl, rfl, o16, rfl, o20, (by simp [hl31]), o31, rfl, o9⟩

theorem c_i_Allows (fl : Nat) (w : World) (a0 : Int) (a1 : Int) (r : Bool) (H0 : i_Allows fl a0 a1 = some r) :
  Ct Tryz.prog 11 [.int .i64 a0, .int .i64 a1] w [] (fun rv h' => rv = .bool r ∧ h' = []) := by
 unfold i_Allows at H0
 refine ct_of_cw Tryz.func11 rfl Tryz.ntmps11 rfl (Sat.refl _ _) ?_
 obtain ⟨x1, e1, H0⟩ := bS H0
 refine sr (oS rfl (nn (sr (oM rfl (oE (stpU_call (fun i => 0 + i) cf30 (fun w hw => c_i_RightsValid fl w a0 x1 e1) (yA rfl)) rfl ?_)))))
 rintro _ _ ⟨_, ⟨rfl, rfl⟩, rfl⟩
 obtain ⟨y2, ey2, H0⟩ := bS H0
 refine oM rfl (ow_cutY 3 10 y2 ?_ ?_)
 ·rcases Bool.eq_false_or_eq_true x1 with hy2 | hy2
  ·have ey2 := cond_t ey2 hy2
   obtain ⟨x3, e3, ey2⟩ := bS ey2
   refine oG rfl hy2 (mv rfl) rfl (ow_eff (.some rfl hy2) (stpU_call (fun i => 0 + i) cf30 (fun w hw => c_i_RightsValid fl w a1 x3 e3) (yA rfl)) rfl ?_)
   rintro _ _ ⟨_, ⟨rfl, rfl⟩, rfl⟩
   refine oD (stp_pick_t rfl hy2 rfl) rfl ?_
   obtain rfl := sI ey2
   exact ow_nil (jy 3 0)
  have ey2 := cond_f ey2 hy2
  refine oO rfl hy2 rfl (oO rfl hy2 rfl (oD (stp_pick_f rfl hy2 rfl) rfl ?_))
  obtain rfl := sI ey2
  exact ow_nil (jy 3 0)
 obtain ⟨y4, ey4, H0⟩ := bS H0
 refine oM rfl (ow_cutY 5 16 y4 ?_ ?_)
 ·rcases Bool.eq_false_or_eq_true y2 with hy4 | hy4
  ·have ey4 := cond_t ey4 hy4
   refine oG rfl hy4 (mv rfl) rfl (oG rfl hy4 (mv rfl) rfl (oG rfl hy4 (stp_andNot rfl rfl) rfl (oG rfl hy4 (stp_eql rfl rfl) rfl (oD (stp_pick_t rfl hy4 rfl) rfl ?_))))
   obtain rfl := sI ey4
   exact ow_nil (jy 5 0)
  have ey4 := cond_f ey4 hy4
  refine oO rfl hy4 rfl (oO rfl hy4 rfl (oO rfl hy4 rfl (oO rfl hy4 rfl (oD (stp_pick_f rfl hy4 rfl) rfl ?_))))
  obtain rfl := sI ey4
  exact ow_nil (jy 5 0)
 refine oS rfl (nn (cw_ret ?_))
 obtain rfl := sI H0
 exact kr Tryz.results11 (rT rfl) [] ⟨rfl, rfl⟩

theorem c_i_VictimOf (fl : Nat) (w : World) (a0 : Ca) (hn0_0 : n0_0 = (a0.l).length) (hr0_0 : RO w (hkeys []) (RdL p0_0 c0_0 a0.l)) (r : Int × Bool) (H0 : i_VictimOf fl a0 = some r) :
  Ct Tryz.prog 78 [.agg #[.slice p0_0 n0_0 c0_0, .int .i64 a0.h]] w [] (fun rv h' => rv = .tuple #[.int .i64 r.1, .bool r.2] ∧ h' = []) := by
 subst hn0_0
 unfold i_VictimOf at H0
 refine ct_of_cw Tryz.func78 rfl Tryz.ntmps78 rfl (Sat.refl _ _) ?_
 refine sr (oE (stpU_box 0 rfl rfl) rfl ?_)
 rintro _ _ ⟨b1, rfl, rfl⟩
 obtain ⟨x2, e2, H0⟩ := bS H0
 refine oS rfl (oS rfl (nn (cw_seq (sr (oB2 0 ts29 rfl (oE (stpU_call (fun i => 1 + i) cf37 (fun w hw => c_i_CacheValid fl w a0 rfl (RO.pass hr0_0 hw) x2 e2) (yA rfl)) rfl ?_))))))
 rintro _ _ ⟨_, ⟨rfl, rfl⟩, rfl⟩
 refine oK rfl (nn (cw_cond rfl (fun h3 => ?_) (fun h3 => ?_)))
 ·have H0 := cond_t H0 h3
  refine sr (oS rfl (oS rfl (nn (cw_ret (kw_nx_ret ?_)))))
  obtain rfl := sI H0
  exact kr Tryz.results78 (.cons (.tmp rfl) (rT rfl)) [] ⟨rfl, rfl⟩
 have H0 := cond_f H0 h3
 obtain ⟨o0_0, eo0_0, H0⟩ := bS H0
 refine cw_skip (kw_nx (cw_seq (sr (oA 0 Tryz.underlying29 rfl ts27 rfl (oL 0 ts27 rfl (oD (stp_len Tryz.underlying27 rfl) rfl (oM rfl (nn (cw_join (ι := Int) (fun | v4 => o0_0 = .out v4) (fun | v4 => [(1, .pointer (some ⟨b1, 0, none⟩)), (11, .slice p0_0 ((a0.l).length) c0_0), (12, .int .i64 ((a0.l).length : Int)), (13, .int .i64 v4)]) (fun | v4 => [(0, [(b1, .cells #[.slice p0_0 ((a0.l).length) c0_0, .int .i64 a0.h] 29 (0, 0))])]) ?_ ?_)))))))))
 ·refine cw_block (cw_loopS (ι := Nat × Int) (js := [0]) (fun x => x.1) (fun | (fuel, v4) => i_VictimOf_L0 fl a0 fuel v4 = some o0_0) (fun | (_, v4) => [(1, .pointer (some ⟨b1, 0, none⟩)), (11, .slice p0_0 ((a0.l).length) c0_0), (12, .int .i64 ((a0.l).length : Int)), (13, .int .i64 v4)]) (fun | (_, v4) => [(0, [(b1, .cells #[.slice p0_0 ((a0.l).length) c0_0, .int .i64 a0.h] 29 (0, 0))])]) (fl, 0) eo0_0 ⟨rfl, rfl, rfl, rfl, trivial⟩ ⟨0, [], rfl, rfl, trivial⟩ (by decide) ?_)
  rintro ⟨fuel, v4⟩ H1
  have H1 : i_VictimOf_L0 fl a0 fuel v4 = some o0_0 := H1
  rcases fuel with _ | fuel
  ·rw [i_VictimOf_L0.eq_1] at H1; cases H1
  rw [i_VictimOf_L0.eq_2] at H1
  dsimp only
  refine sr (oW rfl (nn (cw_seq (cw_cond rfl (fun h5 => ?_) (fun h5 => ?_)))))
  ·have H1 := cond_t H1 h5
   obtain ⟨x6, e6, H1⟩ := bS H1
   refine cw_skip (kw_nx (cw_seq (cw_block (sr (oM rfl (oD (stp_indexAddr Tryz.underlying27 ts66 (by decide) rfl rfl rfl (Rdb.ro hr0_0) e6) rfl (oD (stp_loadN (us := [_, _, _, _, _, _]) ts66 rfl (Cells.el (Rdb.ro hr0_0) (by decide) e6 0 6 rfl)) rfl (oE (stpU_alloc 1 tz66 rfl) rfl ?_))))))))
   rintro _ _ ⟨b7, rfl, rfl⟩
   refine oS rfl (oC6 1 ts66 rfl rfl (nn (sr (oA 0 Tryz.underlying66 rfl ts4 rfl (oL 1 ts4 rfl (oK rfl (nn (cw_cond rfl (fun h8 => ?_) (fun h8 => ?_)))))))))
   ·have H1 := cond_t H1 h8
    refine sr (oM rfl (oS rfl (oS rfl (nn (cw_ret (kw_bl_ret (kw_nx_ret (kw_lq_ret (kw_bl_ret (kw_join_ret (kw_nx_ret ?_)))))))))))
    obtain rfl := sI H1
    obtain rfl := sI H0
    exact kr Tryz.results78 (.cons (.tmp rfl) (rT rfl)) [] ⟨rfl, rfl⟩
   have H1 := cond_f H1 h8
   obtain ⟨x9, e9, H1⟩ := bS H1
   exact cw_skip (kw_bl_normal (kw_nx (cw_region (oP e9 rfl (oM rfl (ow_nil (kw_lqS (js := [0]) (fuel, x9) H1 (Nat.lt_succ_self _) ⟨rfl, rfl, rfl, rfl, trivial⟩ ⟨0, [], rfl, rfl, trivial⟩ (by decide))))))))
  have H1 := cond_f H1 h5
  refine cw_exit (kw_nx_exit (kw_lq_exit (kw_bl ?_)))
  obtain rfl := sI H1
  exact kw_joinS (js := [0]) v4 rfl ⟨rfl, rfl, rfl, rfl, trivial⟩ ⟨0, [], rfl, rfl, trivial⟩ (by decide)
 rintro v4 rfl
 dsimp only
 obtain ⟨o0_1, eo0_1, H0⟩ := bS H0
 refine kw_nx (sr (oA 1 Tryz.underlying29 rfl ts3 rfl (oL 0 ts3 rfl (oS rfl (nn (cw_seq (cw_join (ι := Int) (fun | v10 => o0_1 = .out v10) (fun | v10 => [(1, .pointer (some ⟨b1, 0, none⟩)), (6, .int .i64 v10)]) (fun | v10 => [(0, [(b1, .cells #[.slice p0_0 ((a0.l).length) c0_0, .int .i64 a0.h] 29 (0, 0))])]) ?_ ?_)))))))
 ·refine cw_block (cw_loopS (ι := Nat × Int) (js := [0]) (fun x => x.1) (fun | (fuel, v10) => i_VictimOf_L1 fl a0 fuel v10 = some o0_1) (fun | (_, v10) => [(1, .pointer (some ⟨b1, 0, none⟩)), (6, .int .i64 v10)]) (fun | (_, v10) => [(0, [(b1, .cells #[.slice p0_0 ((a0.l).length) c0_0, .int .i64 a0.h] 29 (0, 0))])]) (fl, a0.h) eo0_1 ⟨rfl, rfl, trivial⟩ ⟨0, [], rfl, rfl, trivial⟩ (by decide) ?_)
  rintro ⟨fuel, v10⟩ H1
  have H1 : i_VictimOf_L1 fl a0 fuel v10 = some o0_1 := H1
  rcases fuel with _ | fuel
  ·rw [i_VictimOf_L1.eq_1] at H1; cases H1
  rw [i_VictimOf_L1.eq_2] at H1
  dsimp only
  obtain ⟨x11, e11, H1⟩ := bS H1
  refine cw_seq (sr (oA 0 Tryz.underlying29 rfl ts27 rfl (oL 0 ts27 rfl (oM rfl (oD (stp_indexAddr Tryz.underlying27 ts66 (by decide) rfl rfl rfl (Rdb.ro hr0_0) e11) rfl (oA 5 Tryz.underlying66 rfl ts4 rfl (oD (stp_load1 ts4 rfl (Cells.el (Rdb.ro hr0_0) (by decide) e11 5 1 rfl)) rfl (nn (cw_cond rfl (fun h12 => ?_) (fun h12 => ?_))))))))))
  ·have H1 := cond_t H1 h12
   obtain ⟨x13, e13, H1⟩ := bS H1
   obtain ⟨x14, e14, H1⟩ := bS H1
   exact cw_skip (kw_nx (cw_block (cw_region (oM rfl (oP e13 rfl (oA 0 Tryz.underlying29 rfl ts27 rfl (oL 0 ts27 rfl (oD (stp_len Tryz.underlying27 rfl) rfl (oD (stp_rem rfl rfl e14) rfl (oS rfl (ow_nil (kw_bl_normal (kw_lqS (js := [0]) (fuel, x14) H1 (Nat.lt_succ_self _) ⟨rfl, rfl, trivial⟩ ⟨0, [], rfl, rfl, trivial⟩ (by decide))))))))))))))
  have H1 := cond_f H1 h12
  refine cw_exit (kw_nx_exit (kw_lq_exit (kw_bl ?_)))
  obtain rfl := sI H1
  exact kw_joinS (js := [0]) v10 rfl ⟨rfl, rfl, trivial⟩ ⟨0, [], rfl, rfl, trivial⟩ (by decide)
 rintro v10 rfl
 dsimp only
 refine kw_nx (sr (oM rfl (oS rfl (oS rfl (nn (cw_ret ?_))))))
 obtain rfl := sI H0
 exact kr Tryz.results78 (.cons (.tmp rfl) (rT rfl)) [] ⟨rfl, rfl⟩

theorem c_i_Cache_with (fl : Nat) (w : World) (a0 : Ca) (a1 : Int) (a2 : Ln) (hn0_0 : n0_0 = (a0.l).length) (hr0_0 : RO w (hkeys []) (RdL p0_0 c0_0 a0.l)) (r : Ca) (H0 : i_Cache_with fl a0 a1 a2 = some r) :
  Ct Tryz.prog 80 [.agg #[.slice p0_0 n0_0 c0_0, .int .i64 a0.h], .int .i64 a1, .agg #[.bool a2.va, .int .i64 a2.tg, .int .i64 a2.pg, .int .i64 a2.fr, .int .i64 a2.ri, .bool a2.wi]] w [] (fun rv h' => ∃ (x0 : Option Addr) (y0 z0 : Nat) (C0 : Res), rv = .agg #[.slice x0 y0 z0, .int .i64 r.h] ∧ h' = [(0, C0)] ∧ y0 = (r.l).length ∧ OwnC 66 x0 z0 r.l C0) := by
 subst hn0_0
 unfold i_Cache_with at H0
 refine ct_of_cw Tryz.func80 rfl Tryz.ntmps80 rfl (Sat.refl _ _) ?_
 refine sr (oE (stpU_box 0 rfl rfl) rfl ?_)
 rintro _ _ ⟨b1, rfl, rfl⟩
 refine oE (stpU_box 1 rfl rfl) rfl ?_
 rintro _ _ ⟨b2, rfl, rfl⟩
 refine oE (stpU_alloc 2 tz29 rfl) rfl ?_
 rintro _ _ ⟨b3, rfl, rfl⟩
 obtain ⟨x4, e4, H0⟩ := bS H0
 refine nn (cw_seq (rdt g_mixed [.n 0, .n 1, .n 4, .n 5, .d 2, .d 7, .o 2, .n 3, .n 6, .o 7, .n 8] ⟨[[],[0],[],[],[],[0],[],[],[4]], [[],[],[3],[],[],[],[],[4],[4]], [2,7]⟩ (dA 0 rfl Tryz.underlying29 rfl ts27 rfl (dL 0 ts27 rfl (dA 1 rfl Tryz.underlying29 rfl ts3 rfl (dL 0 ts3 rfl (dq rfl (fun hh => stpU_call (fun i => 3 + i) cf72 (fun w hw => c_slices_Clone_Line fl w a0.l rfl (RO.pass hr0_0 hw) x4 e4) (yA rfl)) (by rintro _ _ ⟨_, ⟨_, _, _, _, rfl, rfl, _, _⟩, rfl⟩; rfl) (dq rfl (fun hh => stpU_alloc 4 tz29 rfl) (by rintro _ _ ⟨_, rfl, rfl⟩; rfl) (dp rfl ?_)))))))))
 rintro _ _ ⟨_, ⟨p5, _, c7, C8, rfl, rfl, rfl, o8⟩, rfl⟩
 refine dV rfl (fun hh => stpU_call (fun i => i) cf71 (fun w hw => c_clip71 w p5 ((x4).length) c7 (OwnC.len o8).1) (yA rfl)) rfl (dD rfl (stp_build (cs := #[.slice p5 ((x4).length) ((x4).length), .int .i64 a0.h]) (sevp_cons rfl (sevp_cons rfl sevp_nil)) bt29_15) (dp rfl ?_))
 rintro _ _ ⟨b9, rfl, rfl⟩
 obtain ⟨x10, e10, H0⟩ := bS H0
 refine dC2 4 ts29 rfl rfl rfl (dn (kw_nx (sr (oA 0 Tryz.underlying29 rfl ts27 rfl (oL 4 ts27 rfl (oM rfl (oB6 1 ts66 rfl (oD (stp_indexAddr Tryz.underlying27 ts66 (by decide) rfl rfl rfl (Rdb.own (id := 3) rfl (OwnC.clip o8)) e10) rfl (oF (stpU_storeEl (id := 3) (i := 0) a2 (by decide) ts66 rfl rfl rfl (OwnC.clip o8) e10 rfl rfl rfl rfl) ?_)))))))))
 rintro _ _ ⟨C11, rfl, o11⟩
 refine nn (sr (oB2 4 ts29 rfl (oC2 2 ts29 rfl rfl (nn (cw_ret ?_)))))
 obtain rfl := sI H0
 exact kr Tryz.results80 (rC2 2 ts29 rfl rfl) [3] ⟨_, _, _, _, rfl, rfl, (by simp), o11⟩

theorem c_i_FillLine (fl : Nat) (w : World) (a0 : Ca) (a1 : Ln) (hn0_0 : n0_0 = (a0.l).length) (hr0_0 : RO w (hkeys []) (RdL p0_0 c0_0 a0.l)) (r : Ca × Int × Bool) (H0 : i_FillLine fl a0 a1 = some r) :
  Ct Tryz.prog 35 [.agg #[.slice p0_0 n0_0 c0_0, .int .i64 a0.h], .agg #[.bool a1.va, .int .i64 a1.tg, .int .i64 a1.pg, .int .i64 a1.fr, .int .i64 a1.ri, .bool a1.wi]] w [] (fun rv h' => ∃ (x0 : Option Addr) (y0 z0 : Nat) (C0 : Res), rv = .tuple #[.agg #[.slice x0 y0 z0, .int .i64 r.1.h], .int .i64 r.2.1, .bool r.2.2] ∧ h' = [(0, C0)] ∧ y0 = (r.1.l).length ∧ OwnC 66 x0 z0 r.1.l C0) := by
 subst hn0_0
 unfold i_FillLine at H0
 refine ct_of_cw Tryz.func35 rfl Tryz.ntmps35 rfl (Sat.refl _ _) ?_
 refine sr (oE (stpU_box 0 rfl rfl) rfl ?_)
 rintro _ _ ⟨b1, rfl, rfl⟩
 refine oE (stpU_box 1 rfl rfl) rfl ?_
 rintro _ _ ⟨b2, rfl, rfl⟩
 refine oE (stpU_alloc 2 tz29 rfl) rfl ?_
 rintro _ _ ⟨b3, rfl, rfl⟩
 obtain ⟨x4, e4, H0⟩ := bS H0
 refine oS rfl (oS rfl (nn (sr (oB2 0 ts29 rfl (oE (stpU_call (fun i => 3 + i) cf78 (fun w hw => c_i_VictimOf fl w a0 rfl (RO.pass hr0_0 hw) x4 e4) (yA rfl)) rfl ?_)))))
 rintro _ _ ⟨_, ⟨rfl, rfl⟩, rfl⟩
 obtain ⟨y5, ey5, H0⟩ := bS H0
 refine oM rfl (oT rfl (oT rfl (oS rfl (oS rfl (nn (cw_seq (sr (oM rfl (oK rfl (oM rfl (ow_cutY 4 21 y5 ?_ ?_)))))))))))
 ·rcases Bool.eq_false_or_eq_true (!x4.2) with hy5 | hy5
  ·have ey5 := cond_t ey5 hy5
   refine oO rfl hy5 rfl (oO rfl hy5 rfl (oO rfl hy5 rfl (oD (stp_pick_t rfl hy5 rfl) rfl ?_)))
   obtain rfl := sI ey5
   exact ow_nil (jy 4 0)
  have ey5 := cond_f ey5 hy5
  refine oG rfl hy5 (fA 0 Tryz.underlying66 rfl ts4 rfl rfl rfl) rfl (oG rfl hy5 (lB 1 ts4 rfl rfl rfl) rfl (oG rfl hy5 (stp_not rfl) rfl (oD (stp_pick_f rfl hy5 rfl) rfl ?_)))
  obtain rfl := sI ey5
  exact ow_nil (jy 4 0)
 obtain ⟨y6, ey6, H0⟩ := bS H0
 refine oM rfl (ow_cutY 4 26 y6 ?_ ?_)
 ·rcases Bool.eq_false_or_eq_true y5 with hy6 | hy6
  ·have ey6 := cond_t ey6 hy6
   refine oO rfl hy6 rfl (oO rfl hy6 rfl (oO rfl hy6 rfl (oD (stp_pick_t rfl hy6 rfl) rfl ?_)))
   obtain rfl := sI ey6
   exact ow_nil (jy 4 0)
  have ey6 := cond_f ey6 hy6
  obtain ⟨x7, e7, ey6⟩ := bS ey6
  refine oG rfl hy6 (stp_loadN (us := [_, _, _, _, _, _]) ts66 rfl (Cells.box (id := 1) rfl 6 rfl)) rfl (ow_eff (.some rfl hy6) (stpU_call (fun i => 3 + i) cf79 (fun w hw => c_i_lineValid fl w a1 x7 e7) (yA rfl)) rfl ?_)
  rintro _ _ ⟨_, ⟨rfl, rfl⟩, rfl⟩
  refine oG rfl hy6 (stp_not rfl) rfl (oD (stp_pick_f rfl hy6 rfl) rfl ?_)
  obtain rfl := sI ey6
  exact ow_nil (jy 4 0)
 obtain ⟨y8, ey8, H0⟩ := bS H0
 refine oM rfl (ow_cutY 8 35 y8 ?_ ?_)
 ·rcases Bool.eq_false_or_eq_true y6 with hy8 | hy8
  ·have ey8 := cond_t ey8 hy8
   refine oO rfl hy8 rfl (oO rfl hy8 rfl (oO rfl hy8 rfl (oO rfl hy8 rfl (oO rfl hy8 rfl (oO rfl hy8 rfl (oO rfl hy8 rfl (oD (stp_pick_t rfl hy8 rfl) rfl ?_)))))))
   obtain rfl := sI ey8
   exact ow_nil (jy 8 0)
  have ey8 := cond_f ey8 hy8
  obtain ⟨x9, e9, ey8⟩ := bS ey8
  refine oG rfl hy8 (stp_loadN (us := [_, _]) ts29 rfl (Cells.box (id := 0) rfl 2 rfl)) rfl (oG rfl hy8 (fA 1 Tryz.underlying66 rfl ts3 rfl rfl rfl) rfl (oG rfl hy8 (lB 1 ts3 rfl rfl rfl) rfl (oG rfl hy8 (fA 2 Tryz.underlying66 rfl ts3 rfl rfl rfl) rfl (oG rfl hy8 (lB 1 ts3 rfl rfl rfl) rfl (ow_eff (.some rfl hy8) (stpU_call (fun i => 3 + i) cf32 (fun w hw => c_i_Cache_place fl w a0 a1.tg a1.pg rfl (RO.pass hr0_0 hw) x9 e9) (yC rfl rfl rfl)) rfl ?_)))))
  rintro _ _ ⟨_, ⟨rfl, rfl⟩, rfl⟩
  refine oG rfl hy8 (stp_geq rfl rfl) rfl (oD (stp_pick_f rfl hy8 rfl) rfl ?_)
  obtain rfl := sI ey8
  exact ow_nil (jy 8 0)
 refine ow_nil (kw_nx (cw_cond rfl (fun h10 => ?_) (fun h10 => ?_)))
 ·have H0 := cond_t H0 h10
  refine sr (oD (stp_build (cs := #[.slice none 0 0, .int .i64 0]) sevp_nil bt29_2) rfl (oC2 2 ts29 rfl rfl (oS rfl (oS rfl (nn (cw_ret (kw_nx_ret (kw_addNil 3 ?_))))))))
  obtain rfl := sI H0
  exact kr Tryz.results35 (.cons (.cellN (us := [_, _]) ts29 rfl (Cells.box (id := 2) rfl 2 rfl)) (.cons (.tmp rfl) (rT rfl))) [3] ⟨_, _, _, _, rfl, rfl, rfl, (OwnC.nil _ _)⟩
 have H0 := cond_f H0 h10
 obtain ⟨x11, e11, H0⟩ := bS H0
 refine cw_skip (kw_nx (sr (oB2 0 ts29 rfl (oM rfl (oB6 1 ts66 rfl (oE (stpU_call (fun i => 4 + i) cf80 (fun w hw => c_i_Cache_with fl w a0 x4.1 a1 rfl (RO.pass hr0_0 hw) x11 e11) (yC rfl rfl rfl)) rfl ?_))))))
 rintro _ _ ⟨_, ⟨p12, _, c14, C15, rfl, rfl, rfl, o15⟩, rfl⟩
 refine oE (stpU_alloc 5 tz29 rfl) rfl ?_
 rintro _ _ ⟨b16, rfl, rfl⟩
 obtain ⟨x17, e17, H0⟩ := bS H0
 refine oC2 5 ts29 rfl rfl (nn (cw_seq (sr (oA 0 Tryz.underlying29 rfl ts27 rfl (oL 0 ts27 rfl (oM rfl (oD (stp_indexAddr Tryz.underlying27 ts66 (by decide) rfl rfl rfl (Rdb.ro hr0_0) e17) rfl (oA 0 Tryz.underlying66 rfl ts4 rfl (oD (stp_load1 ts4 rfl (Cells.el (Rdb.ro hr0_0) (by decide) e17 0 1 rfl)) rfl (nn (cw_cond rfl (fun h18 => ?_) (fun h18 => ?_))))))))))))
 ·have H0 := cond_t H0 h18
  obtain ⟨x19, e19, H0⟩ := bS H0
  obtain ⟨x20, e20, H0⟩ := bS H0
  obtain ⟨x21, e21, H0⟩ := bS H0
  refine cw_region (oM rfl (oP e19 rfl (oA 0 Tryz.underlying29 rfl ts27 rfl (oL 0 ts27 rfl (oD (stp_len Tryz.underlying27 rfl) rfl (oD (stp_rem rfl rfl e20) rfl (oA 1 Tryz.underlying29 rfl ts3 rfl (oC2 5 ts3 rfl rfl (nn (cw_seq (sr (oB2 5 ts29 rfl (oE (stpU_call (fun i => 6 + i) cf37 (fun w hw => c_i_CacheValid fl w (⟨x11.l, x20⟩ : Ca) rfl (OwnC.pass (id := 4) rfl o15 hw) x21 e21) (yA rfl)) rfl ?_)))))))))))))
  rintro _ _ ⟨_, ⟨rfl, rfl⟩, rfl⟩
  refine oK rfl (nn (cw_cond rfl (fun h22 => ?_) (fun h22 => ?_)))
  ·have H0 := cond_t H0 h22
   refine sr (oD (stp_build (cs := #[.slice none 0 0, .int .i64 0]) sevp_nil bt29_2) rfl (oC2 2 ts29 rfl rfl (oS rfl (oS rfl (nn (cw_ret (kw_nx_ret (kw_addNil 6 ?_))))))))
   obtain rfl := sI H0
   exact kr Tryz.results35 (.cons (.cellN (us := [_, _]) ts29 rfl (Cells.box (id := 2) rfl 2 rfl)) (.cons (.tmp rfl) (rT rfl))) [6] ⟨_, _, _, _, rfl, rfl, rfl, (OwnC.nil _ _)⟩
  have H0 := cond_f H0 h22
  refine cw_skip (kw_nx (sr (oB2 5 ts29 rfl (oM rfl (oC2 2 ts29 rfl rfl (oS rfl (oS rfl (nn (cw_ret ?_)))))))))
  obtain rfl := sI H0
  exact kr Tryz.results35 (.cons (.cellN (us := [_, _]) ts29 rfl (Cells.box (id := 2) rfl 2 rfl)) (.cons (.tmp rfl) (rT rfl))) [4] ⟨_, _, _, _, rfl, rfl, rfl, o15⟩
 have H0 := cond_f H0 h18
 obtain ⟨x23, e23, H0⟩ := bS H0
 refine cw_skip (kw_nx (cw_seq (sr (oB2 5 ts29 rfl (oE (stpU_call (fun i => 7 + i) cf37 (fun w hw => c_i_CacheValid fl w x11 rfl (OwnC.pass (id := 4) rfl o15 hw) x23 e23) (yA rfl)) rfl ?_)))))
 rintro _ _ ⟨_, ⟨rfl, rfl⟩, rfl⟩
 refine oK rfl (nn (cw_cond rfl (fun h24 => ?_) (fun h24 => ?_)))
 ·have H0 := cond_t H0 h24
  refine sr (oD (stp_build (cs := #[.slice none 0 0, .int .i64 0]) sevp_nil bt29_2) rfl (oC2 2 ts29 rfl rfl (oS rfl (oS rfl (nn (cw_ret (kw_nx_ret (kw_addNil 7 ?_))))))))
  obtain rfl := sI H0
  exact kr Tryz.results35 (.cons (.cellN (us := [_, _]) ts29 rfl (Cells.box (id := 2) rfl 2 rfl)) (.cons (.tmp rfl) (rT rfl))) [7] ⟨_, _, _, _, rfl, rfl, rfl, (OwnC.nil _ _)⟩
 have H0 := cond_f H0 h24
 refine cw_skip (kw_nx (sr (oB2 5 ts29 rfl (oM rfl (oC2 2 ts29 rfl rfl (oS rfl (oS rfl (nn (cw_ret ?_)))))))))
 obtain rfl := sI H0
 exact kr Tryz.results35 (.cons (.cellN (us := [_, _]) ts29 rfl (Cells.box (id := 2) rfl 2 rfl)) (.cons (.tmp rfl) (rT rfl))) [4] ⟨_, _, _, _, rfl, rfl, rfl, o15⟩

theorem c_i_TouchPage (fl : Nat) (w : World) (a0 : Mc) (a1 : Int) (a2 : Int) (hn0_0 : n0_0 = (a0.t.b).length) (hr0_0 : RO w (hkeys []) (RdL p0_0 c0_0 a0.t.b)) (hn0_1 : n0_1 = (a0.t.f).length) (hr0_1 : RO w (hkeys []) (RdL p0_1 c0_1 a0.t.f)) (hn0_2 : n0_2 = (a0.c.l).length) (hr0_2 : RO w (hkeys []) (RdL p0_2 c0_2 a0.c.l)) (hn0_3 : n0_3 = (a0.g.o).length) (hr0_3 : RO w (hkeys []) (RdL p0_3 c0_3 a0.g.o)) (hg : RO w (hkeys []) (fun w' => w'.rangeAt 0 0 [.bool false, .int .i64 0, .int .i64 0, .int .i64 0, .int .i64 (-1)])) (r : Mc × Int × Int × Bool) (H0 : i_TouchPage fl a0 a1 a2 = some r) :
  Ct Tryz.prog 10 [.agg #[.slice p0_0 n0_0 c0_0, .slice p0_1 n0_1 c0_1, .slice p0_2 n0_2 c0_2, .int .i64 a0.c.h, .int .i64 a0.g.c, .int .i64 a0.g.n, .int .i64 a0.g.r, .slice p0_3 n0_3 c0_3, .int .i64 a0.s], .int .i64 a1, .int .i64 a2] w [] (fun rv h' => ∃ (x0 : Option Addr) (y0 z0 : Nat) (C0 : Res) (x1 : Option Addr) (y1 z1 : Nat) (C1 : Res) (x2 : Option Addr) (y2 z2 : Nat) (C2 : Res) (x3 : Option Addr) (y3 z3 : Nat) (C3 : Res), rv = .tuple #[.agg #[.slice x0 y0 z0, .slice x1 y1 z1, .slice x2 y2 z2, .int .i64 r.1.c.h, .int .i64 r.1.g.c, .int .i64 r.1.g.n, .int .i64 r.1.g.r, .slice x3 y3 z3, .int .i64 r.1.s], .int .i64 r.2.1, .int .i64 r.2.2.1, .bool r.2.2.2] ∧ h' = [(0, C0), (1, C1), (2, C2), (3, C3)] ∧ y0 = (r.1.t.b).length ∧ OwnC 3 x0 z0 r.1.t.b C0 ∧ y1 = (r.1.t.f).length ∧ OwnC 74 x1 z1 r.1.t.f C1 ∧ y2 = (r.1.c.l).length ∧ OwnC 66 x2 z2 r.1.c.l C2 ∧ y3 = (r.1.g.o).length ∧ OwnC 108 x3 z3 r.1.g.o C3) := by
 subst hn0_0 hn0_1 hn0_2 hn0_3
 unfold i_TouchPage at H0
 refine ct_of_cw Tryz.func10 rfl Tryz.ntmps10 rfl (Sat.refl _ _) ?_
 refine sr (oE (stpU_box 0 rfl rfl) rfl ?_)
 rintro _ _ ⟨b1, rfl, rfl⟩
 refine oE (stpU_alloc 1 tz34 rfl) rfl ?_
 rintro _ _ ⟨b2, rfl, rfl⟩
 obtain ⟨x3, e3, H0⟩ := bS H0
 refine oS rfl (oS rfl (oS rfl (nn (cw_seq (sr (oB9 0 ts34 rfl (oE (stpU_call (fun i => 2 + i) cf12 (fun w hw => c_i_MachineValid fl w a0 rfl (RO.pass hr0_0 hw) rfl (RO.pass hr0_1 hw) rfl (RO.pass hr0_2 hw) rfl (RO.pass hr0_3 hw) (RO.pass hg hw) x3 e3) (yA rfl)) rfl ?_)))))))
 rintro _ _ ⟨_, ⟨rfl, rfl⟩, rfl⟩
 obtain ⟨y4, ey4, H0⟩ := bS H0
 refine oK rfl (oM rfl (ow_cutY 4 27 y4 ?_ ?_))
 ·rcases Bool.eq_false_or_eq_true (!x3) with hy4 | hy4
  ·have ey4 := cond_t ey4 hy4
   refine oO rfl hy4 rfl (oO rfl hy4 rfl (oO rfl hy4 rfl (oD (stp_pick_t rfl hy4 rfl) rfl ?_)))
   obtain rfl := sI ey4
   exact ow_nil (jy 4 0)
  have ey4 := cond_f ey4 hy4
  obtain ⟨x5, e5, ey4⟩ := bS ey4
  refine oG rfl hy4 (mv rfl) rfl (ow_eff (.some rfl hy4) (stpU_call (fun i => 2 + i) cf29 (fun w hw => c_i_within fl w a1 256 x5 e5) (yB rfl rfl)) rfl ?_)
  rintro _ _ ⟨_, ⟨rfl, rfl⟩, rfl⟩
  refine oG rfl hy4 (stp_not rfl) rfl (oD (stp_pick_f rfl hy4 rfl) rfl ?_)
  obtain rfl := sI ey4
  exact ow_nil (jy 4 0)
 obtain ⟨y6, ey6, H0⟩ := bS H0
 refine oM rfl (ow_cutY 4 32 y6 ?_ ?_)
 ·rcases Bool.eq_false_or_eq_true y4 with hy6 | hy6
  ·have ey6 := cond_t ey6 hy6
   refine oO rfl hy6 rfl (oO rfl hy6 rfl (oO rfl hy6 rfl (oD (stp_pick_t rfl hy6 rfl) rfl ?_)))
   obtain rfl := sI ey6
   exact ow_nil (jy 4 0)
  have ey6 := cond_f ey6 hy6
  obtain ⟨x7, e7, ey6⟩ := bS ey6
  refine oG rfl hy6 (mv rfl) rfl (ow_eff (.some rfl hy6) (stpU_call (fun i => 2 + i) cf30 (fun w hw => c_i_RightsValid fl w a2 x7 e7) (yA rfl)) rfl ?_)
  rintro _ _ ⟨_, ⟨rfl, rfl⟩, rfl⟩
  refine oG rfl hy6 (stp_not rfl) rfl (oD (stp_pick_f rfl hy6 rfl) rfl ?_)
  obtain rfl := sI ey6
  exact ow_nil (jy 4 0)
 refine ow_nil (kw_nx (cw_cond rfl (fun h8 => ?_) (fun h8 => ?_)))
 ·have H0 := cond_t H0 h8
  refine sr (oD (stp_build (cs := #[.slice none 0 0, .slice none 0 0, .slice none 0 0, .int .i64 0, .int .i64 0, .int .i64 0, .int .i64 0, .slice none 0 0, .int .i64 0]) sevp_nil bt34_6) rfl (oC9 1 ts34 rfl rfl (oS rfl (oS rfl (oS rfl (nn (cw_ret (kw_nx_ret (kw_addNil 2 (kw_addNil 3 (kw_addNil 4 (kw_addNil 5 ?_))))))))))))
  obtain rfl := sI H0
  exact kr Tryz.results10 (.cons (.cellN (us := [_, _, _, _, _, _, _, _, _]) ts34 rfl (Cells.box (id := 1) rfl 9 rfl)) (.cons (.tmp rfl) (.cons (.tmp rfl) (rT rfl)))) [2, 3, 4, 5] ⟨_, _, _, _, _, _, _, _, _, _, _, _, _, _, _, _, rfl, rfl, rfl, (OwnC.nil _ _), rfl, (OwnC.nil _ _), rfl, (OwnC.nil _ _), rfl, (OwnC.nil _ _)⟩
 have H0 := cond_f H0 h8
 obtain ⟨x9, e9, H0⟩ := bS H0
 refine cw_skip (kw_nx (sr (oB9 0 ts34 rfl (oE (stpU_call (fun i => 6 + i) cf28 (fun w hw => c_i_Machine_clone fl w a0 rfl (RO.pass hr0_0 hw) rfl (RO.pass hr0_1 hw) rfl (RO.pass hr0_2 hw) rfl (RO.pass hr0_3 hw) x9 e9) (yA rfl)) rfl ?_))))
 rintro _ _ ⟨_, ⟨p10, _, c12, C13, p14, _, c16, C17, p18, _, c20, C21, p22, _, c24, C25, rfl, rfl, rfl, o13, rfl, o17, rfl, o21, rfl, o25⟩, rfl⟩
 refine oE (stpU_alloc 10 tz34 rfl) rfl ?_
 rintro _ _ ⟨b26, rfl, rfl⟩
 obtain ⟨x27, e27, H0⟩ := bS H0
 refine oC9 10 ts34 rfl rfl (nn (sr (oB9 0 ts34 rfl (oA 8 Tryz.underlying34 rfl ts3 rfl (oL 0 ts3 rfl (oM rfl (oE (stpU_call (fun i => 11 + i) cf31 (fun w hw => c_i_Machine_tagFor fl w a0 a0.s a1 rfl (RO.pass hr0_0 hw) rfl (RO.pass hr0_1 hw) rfl (RO.pass hr0_2 hw) rfl (RO.pass hr0_3 hw) x27 e27) (yC rfl rfl rfl)) rfl ?_)))))))
 rintro _ _ ⟨_, ⟨rfl, rfl⟩, rfl⟩
 refine oM rfl (oT rfl (oT rfl (oS rfl (oS rfl (nn (sr (oS rfl (oS rfl (oS rfl (nn (cw_seq (sr (oA 2 Tryz.underlying34 rfl ts29 rfl ?_)))))))))))))
 obtain ⟨x28, e28, H0⟩ := bS H0
 refine oB2 0 ts29 rfl (oM rfl (oM rfl (oE (stpU_call (fun i => 11 + i) cf32 (fun w hw => c_i_Cache_place fl w a0.c x27.1 a1 rfl (RO.pass hr0_2 hw) x28 e28) (yC rfl rfl rfl)) rfl ?_)))
 rintro _ _ ⟨_, ⟨rfl, rfl⟩, rfl⟩
 refine oS rfl (nn (sr (oM rfl (oI rfl (nn (cw_cond rfl (fun h29 => ?_) (fun h29 => ?_)))))))
 ·have H0 := cond_t H0 h29
  obtain ⟨x30, e30, H0⟩ := bS H0
  refine rdt g_mixed (rn 0 16) ⟨[[],[],[0],[],[],[],[],[],[],[0]], [], []⟩ (dA 2 rfl Tryz.underlying34 rfl ts29 rfl (dA 0 rfl Tryz.underlying29 rfl ts27 rfl (dL 0 ts27 rfl (dM rfl (dD rfl (stp_indexAddr Tryz.underlying27 ts66 (by decide) rfl rfl rfl (Rdb.ro hr0_2) e30) (dA 3 rfl Tryz.underlying66 rfl ts3 rfl (dD rfl (stp_load1 ts3 rfl (Cells.el (Rdb.ro hr0_2) (by decide) e30 3 1 rfl)) (dA 2 rfl Tryz.underlying34 rfl ts29 rfl (dA 0 rfl Tryz.underlying29 rfl ts27 rfl (dL 0 ts27 rfl (dM rfl (dD rfl (stp_indexAddr Tryz.underlying27 ts66 (by decide) rfl rfl rfl (Rdb.ro hr0_2) e30) (dA 4 rfl Tryz.underlying66 rfl ts3 rfl ?_)))))))))))))
  obtain ⟨x31, e31, H0⟩ := bS H0
  refine dD rfl (stp_load1 ts3 rfl (Cells.el (Rdb.ro hr0_2) (by decide) e30 4 1 rfl)) (dS rfl (dS rfl (dn (kw_nx (cw_seq (sr (oM rfl (oM rfl (oE (stpU_call (fun i => 11 + i) cf11 (fun w hw => c_i_Allows fl w x30.ri a2 x31 e31) (yB rfl rfl)) rfl ?_)))))))))
  rintro _ _ ⟨_, ⟨rfl, rfl⟩, rfl⟩
  refine oK rfl (nn (cw_cond rfl (fun h32 => ?_) (fun h32 => ?_)))
  ·have H0 := cond_t H0 h32
   refine cw_region (oS rfl (nn (sr (oB9 10 ts34 rfl (oM rfl (oM rfl (oC9 1 ts34 rfl rfl (oS rfl (oS rfl (oS rfl (nn (cw_ret ?_))))))))))))
   obtain rfl := sI H0
   exact kr Tryz.results10 (.cons (.cellN (us := [_, _, _, _, _, _, _, _, _]) ts34 rfl (Cells.box (id := 1) rfl 9 rfl)) (.cons (.tmp rfl) (.cons (.tmp rfl) (rT rfl)))) [6, 7, 8, 9] ⟨_, _, _, _, _, _, _, _, _, _, _, _, _, _, _, _, rfl, rfl, rfl, o13, rfl, o17, rfl, o21, rfl, o25⟩
  have H0 := cond_f H0 h32
  refine cw_skip (kw_nx (sr (oB9 10 ts34 rfl (oM rfl (oM rfl (oC9 1 ts34 rfl rfl (oS rfl (oS rfl (oS rfl (nn (cw_ret ?_)))))))))))
  obtain rfl := sI H0
  exact kr Tryz.results10 (.cons (.cellN (us := [_, _, _, _, _, _, _, _, _]) ts34 rfl (Cells.box (id := 1) rfl 9 rfl)) (.cons (.tmp rfl) (.cons (.tmp rfl) (rT rfl)))) [6, 7, 8, 9] ⟨_, _, _, _, _, _, _, _, _, _, _, _, _, _, _, _, rfl, rfl, rfl, o13, rfl, o17, rfl, o21, rfl, o25⟩
 have H0 := cond_f H0 h29
 obtain ⟨x33, e33, H0⟩ := bS H0
 obtain ⟨x34, e34, H0⟩ := bS H0
 refine cw_seq (rdt g_mixed (rn 0 8) ⟨[[],[0],[],[0]], [], []⟩ (dA 0 rfl Tryz.underlying34 rfl ts26 rfl (dB2 0 ts26 rfl (dA 8 rfl Tryz.underlying34 rfl ts3 rfl (dL 0 ts3 rfl (dM rfl (dV rfl (fun hh => stpU_call (fun i => 11 + i) cf34 (fun w hw => c_i_KeyFor fl w a0.s a1 x33 e33) (yB rfl rfl)) rfl (dV rfl (fun hh => stpU_call (fun i => 11 + i) cf33 (fun w hw => c_i_Table_find fl w a0.t x33 rfl (RO.pass hr0_0 hw) rfl (RO.pass hr0_1 hw) x34 e34) (yB rfl rfl)) rfl (dS rfl (dn (kw_nx (cw_seq (sr ?_)))))))))))))
 refine oM rfl (oW rfl (nn (cw_cond rfl (fun h35 => ?_) (fun h35 => ?_))))
 ·have H0 := cond_t H0 h35
  refine sr (oB9 10 ts34 rfl (oC9 1 ts34 rfl rfl (oS rfl (oS rfl (oS rfl (nn (cw_ret (kw_nx_ret (kw_nx_ret ?_)))))))))
  obtain rfl := sI H0
  exact kr Tryz.results10 (.cons (.cellN (us := [_, _, _, _, _, _, _, _, _]) ts34 rfl (Cells.box (id := 1) rfl 9 rfl)) (.cons (.tmp rfl) (.cons (.tmp rfl) (rT rfl)))) [6, 7, 8, 9] ⟨_, _, _, _, _, _, _, _, _, _, _, _, _, _, _, _, rfl, rfl, rfl, o13, rfl, o17, rfl, o21, rfl, o25⟩
 have H0 := cond_f H0 h35
 obtain ⟨x36, e36, H0⟩ := bS H0
 refine cw_skip (kw_nx (cw_seq (rdt g_mixed (rn 0 9) ⟨[[],[],[0]], [], []⟩ (dA 0 rfl Tryz.underlying34 rfl ts26 rfl (dA 1 rfl Tryz.underlying26 rfl ts24 rfl (dL 0 ts24 rfl (dM rfl (dD rfl (stp_indexAddr Tryz.underlying24 ts74 (by decide) rfl rfl rfl (Rdb.ro hr0_1) e36) (dA 3 rfl Tryz.underlying74 rfl ts3 rfl (dD rfl (stp_load1 ts3 rfl (Cells.el (Rdb.ro hr0_1) (by decide) e36 3 1 rfl)) (dS rfl (dS rfl (dn ?_)))))))))))))
 obtain ⟨x37, e37, H0⟩ := bS H0
 refine kw_nx (sr (oA 2 Tryz.underlying34 rfl ts29 rfl (oB2 10 ts29 rfl (oM rfl (oM rfl (oM rfl (oM rfl (oD (stp_build (cs := #[.bool true, .int .i64 x27.1, .int .i64 a1, .int .i64 x34, .int .i64 x36.r, .bool false]) (sevp_cons rfl (sevp_cons rfl (sevp_cons rfl (sevp_cons rfl (sevp_cons rfl (sevp_cons rfl sevp_nil)))))) bt66_20) rfl (oE (stpU_call (fun i => 11 + i) cf35 (fun w hw => c_i_FillLine fl w x9.c (⟨true, x27.1, a1, x34, x36.r, false⟩ : Ln) rfl (OwnC.pass (id := 8) rfl o21 hw) x37 e37) (yB rfl rfl)) rfl ?_)))))))))
 rintro _ _ ⟨_, ⟨p38, _, c40, C41, rfl, rfl, rfl, o41⟩, rfl⟩
 refine oM rfl (oT rfl (oT rfl (oT rfl (oE (stpU_alloc 12 tz29 rfl) rfl ?_))))
 rintro _ _ ⟨b42, rfl, rfl⟩
 refine oC2 12 ts29 rfl rfl (oS rfl (oS rfl (nn (cw_seq (sr (oM rfl (oK rfl (nn (cw_cond rfl (fun h43 => ?_) (fun h43 => ?_))))))))))
 ·have H0 := cond_t H0 h43
  refine sr (oD (stp_build (cs := #[.slice none 0 0, .slice none 0 0, .slice none 0 0, .int .i64 0, .int .i64 0, .int .i64 0, .int .i64 0, .slice none 0 0, .int .i64 0]) sevp_nil bt34_6) rfl (oC9 1 ts34 rfl rfl (oS rfl (oS rfl (oS rfl (nn (cw_ret (kw_nx_ret (kw_nx_ret (kw_addNil 13 (kw_addNil 14 (kw_addNil 15 (kw_addNil 16 ?_)))))))))))))
  obtain rfl := sI H0
  exact kr Tryz.results10 (.cons (.cellN (us := [_, _, _, _, _, _, _, _, _]) ts34 rfl (Cells.box (id := 1) rfl 9 rfl)) (.cons (.tmp rfl) (.cons (.tmp rfl) (rT rfl)))) [13, 14, 15, 16] ⟨_, _, _, _, _, _, _, _, _, _, _, _, _, _, _, _, rfl, rfl, rfl, (OwnC.nil _ _), rfl, (OwnC.nil _ _), rfl, (OwnC.nil _ _), rfl, (OwnC.nil _ _)⟩
 have H0 := cond_f H0 h43
 obtain ⟨x44, e44, H0⟩ := bS H0
 refine cw_skip (kw_nx (cw_region (oB2 12 ts29 rfl (oA 2 Tryz.underlying34 rfl ts29 rfl (oC9 10 ts29 rfl rfl (nn (cw_seq (sr (oM rfl (oM rfl (oE (stpU_call (fun i => 17 + i) cf11 (fun w hw => c_i_Allows fl w x36.r a2 x44 e44) (yB rfl rfl)) rfl ?_)))))))))))
 rintro _ _ ⟨_, ⟨rfl, rfl⟩, rfl⟩
 refine oK rfl (nn (cw_cond rfl (fun h45 => ?_) (fun h45 => ?_)))
 ·have H0 := cond_t H0 h45
  refine cw_region (oS rfl (nn (sr (oB9 10 ts34 rfl (oM rfl (oM rfl (oC9 1 ts34 rfl rfl (oS rfl (oS rfl (oS rfl (nn (cw_ret ?_))))))))))))
  obtain rfl := sI H0
  exact kr Tryz.results10 (.cons (.cellN (us := [_, _, _, _, _, _, _, _, _]) ts34 rfl (Cells.box (id := 1) rfl 9 rfl)) (.cons (.tmp rfl) (.cons (.tmp rfl) (rT rfl)))) [6, 7, 11, 9] ⟨_, _, _, _, _, _, _, _, _, _, _, _, _, _, _, _, rfl, rfl, rfl, o13, rfl, o17, rfl, o41, rfl, o25⟩
 have H0 := cond_f H0 h45
 refine cw_skip (kw_nx (sr (oB9 10 ts34 rfl (oM rfl (oM rfl (oC9 1 ts34 rfl rfl (oS rfl (oS rfl (oS rfl (nn (cw_ret ?_)))))))))))
 obtain rfl := sI H0
 exact kr Tryz.results10 (.cons (.cellN (us := [_, _, _, _, _, _, _, _, _]) ts34 rfl (Cells.box (id := 1) rfl 9 rfl)) (.cons (.tmp rfl) (.cons (.tmp rfl) (rT rfl)))) [6, 7, 11, 9] ⟨_, _, _, _, _, _, _, _, _, _, _, _, _, _, _, _, rfl, rfl, rfl, o13, rfl, o17, rfl, o41, rfl, o25⟩

theorem c_l_FnGuardPage (fl : Nat) (w : World) (a0 : (List UInt8)) (hn0_0 : n0_0 = (a0).length) (hr0_0 : RO w (hkeys []) (RdL p0_0 c0_0 a0)) (hg : RO w (hkeys []) (fun w' => w'.rangeAt 0 0 [.bool false, .int .i64 0, .int .i64 0, .int .i64 0, .int .i64 (-1)])) (r : Bool) (H0 : l_FnGuardPage fl a0 = some r) :
  Ct Tryz.prog 3 [.slice p0_0 n0_0 c0_0] w [] (fun rv h' => rv = .bool r ∧ h' = []) := by
 subst hn0_0
 unfold l_FnGuardPage at H0
 refine ct_of_cw Tryz.func3 rfl Tryz.ntmps3 rfl (Sat.refl _ _) ?_
 refine sr (oS rfl (nn (cw_seq (sr (oM rfl (oD (stp_len Tryz.underlying22 rfl) rfl (oJ rfl (nn (cw_cond rfl (fun h1 => ?_) (fun h1 => ?_))))))))))
 ·have H0 := cond_t H0 h1
  refine sr (oS rfl (nn (cw_ret (kw_nx_ret ?_))))
  obtain rfl := sI H0
  exact kr Tryz.results3 (rT rfl) [] ⟨rfl, rfl⟩
 have H0 := cond_f H0 h1
 obtain ⟨x2, e2, H0⟩ := bS H0
 refine cw_skip (kw_nx (sr (oM rfl (oE (stpU_call (fun i => 0 + i) cf5 (fun w hw => c_s_DrawGuardPage fl w a0 rfl (RO.pass hr0_0 hw) x2 e2) (yA rfl)) rfl ?_))))
 rintro _ _ ⟨_, ⟨p3, _, c5, C6, p7, _, c9, C10, p11, _, c13, C14, p15, _, c17, C18, rfl, rfl, rfl, o6, rfl, o10, rfl, o14, rfl, o18⟩, rfl⟩
 refine oM rfl (oT rfl (oT rfl (oT rfl (oE (stpU_alloc 4 tz34 rfl) rfl ?_))))
 rintro _ _ ⟨b19, rfl, rfl⟩
 refine oE (stpU_alloc 5 tz36 rfl) rfl ?_
 rintro _ _ ⟨b20, rfl, rfl⟩
 obtain ⟨x21, e21, H0⟩ := bS H0
 refine oC9 4 ts34 rfl rfl (oC2 5 ts36 rfl rfl (oS rfl (nn (sr (oB9 4 ts34 rfl (oB2 5 ts36 rfl (oM rfl (oE (stpU_call (fun i => 6 + i) cf6 (fun w hw => c_i_GuardPage fl w x2.1 x2.2.1 x2.2.2 rfl (OwnC.pass (id := 0) rfl o6 hw) rfl (OwnC.pass (id := 1) rfl o10 hw) rfl (OwnC.pass (id := 2) rfl o14 hw) rfl (OwnC.pass (id := 3) rfl o18 hw) (RO.pass hg hw) x21 e21) (yC rfl rfl rfl)) rfl ?_))))))))
 rintro _ _ ⟨_, ⟨p22, _, c24, C25, p26, _, c28, C29, p30, _, c32, C33, p34, _, c36, C37, rfl, rfl, rfl, o25, rfl, o29, rfl, o33, rfl, o37⟩, rfl⟩
 refine oM rfl (oT rfl (oT rfl (oE (stpU_alloc 10 tz34 rfl) rfl ?_)))
 rintro _ _ ⟨b38, rfl, rfl⟩
 obtain ⟨x39, e39, H0⟩ := bS H0
 refine oC9 10 ts34 rfl rfl (oS rfl (nn (sr (oB9 4 ts34 rfl (oB2 5 ts36 rfl (oM rfl (oE (stpU_call (fun i => 11 + i) cf7 (fun w hw => c_s_GuardPage fl w x2.1 x2.2.1 x2.2.2 rfl (OwnC.pass (id := 0) rfl o6 hw) rfl (OwnC.pass (id := 1) rfl o10 hw) rfl (OwnC.pass (id := 2) rfl o14 hw) rfl (OwnC.pass (id := 3) rfl o18 hw) x39 e39) (yC rfl rfl rfl)) rfl ?_)))))))
 rintro _ _ ⟨_, ⟨p40, _, c42, C43, p44, _, c46, C47, p48, _, c50, C51, p52, _, c54, C55, rfl, rfl, rfl, o43, rfl, o47, rfl, o51, rfl, o55⟩, rfl⟩
 refine oM rfl (oT rfl (oT rfl (oE (stpU_alloc 15 tz34 rfl) rfl ?_)))
 rintro _ _ ⟨b56, rfl, rfl⟩
 obtain ⟨x57, e57, H0⟩ := bS H0
 refine oC9 15 ts34 rfl rfl (oS rfl (nn (cw_seq (sr (oB9 10 ts34 rfl (oB9 15 ts34 rfl (oE (stpU_call (fun i => 16 + i) cf8 (fun w hw => c_i_MachineSame fl w x21.1 x39.1 rfl (OwnC.pass (id := 6) rfl o25 hw) rfl (OwnC.pass (id := 7) rfl o29 hw) rfl (OwnC.pass (id := 8) rfl o33 hw) rfl (OwnC.pass (id := 9) rfl o37 hw) rfl (OwnC.pass (id := 11) rfl o43 hw) rfl (OwnC.pass (id := 12) rfl o47 hw) rfl (OwnC.pass (id := 13) rfl o51 hw) rfl (OwnC.pass (id := 14) rfl o55 hw) x57 e57) (yB rfl rfl)) rfl ?_)))))))
 rintro _ _ ⟨_, ⟨rfl, rfl⟩, rfl⟩
 obtain ⟨y58, ey58, H0⟩ := bS H0
 refine oK rfl (oM rfl (ow_cutY 4 48 y58 ?_ ?_))
 ·rcases Bool.eq_false_or_eq_true (!x57) with hy58 | hy58
  ·have ey58 := cond_t ey58 hy58
   refine oO rfl hy58 rfl (oO rfl hy58 rfl (oO rfl hy58 rfl (oD (stp_pick_t rfl hy58 rfl) rfl ?_)))
   obtain rfl := sI ey58
   exact ow_nil (jy 4 0)
  have ey58 := cond_f ey58 hy58
  refine oG rfl hy58 (mv rfl) rfl (oG rfl hy58 (mv rfl) rfl (oG rfl hy58 (stp_neqB Tryz.underlying4 rfl rfl) rfl (oD (stp_pick_f rfl hy58 rfl) rfl ?_)))
  obtain rfl := sI ey58
  exact ow_nil (jy 4 0)
 obtain ⟨y59, ey59, H0⟩ := bS H0
 refine oM rfl (ow_cutY 3 52 y59 ?_ ?_)
 ·rcases Bool.eq_false_or_eq_true y58 with hy59 | hy59
  ·have ey59 := cond_t ey59 hy59
   refine oO rfl hy59 rfl (oO rfl hy59 rfl (oD (stp_pick_t rfl hy59 rfl) rfl ?_))
   obtain rfl := sI ey59
   exact ow_nil (jy 3 0)
  have ey59 := cond_f ey59 hy59
  refine oG rfl hy59 (mv rfl) rfl (oG rfl hy59 (stp_not rfl) rfl (oD (stp_pick_f rfl hy59 rfl) rfl ?_))
  obtain rfl := sI ey59
  exact ow_nil (jy 3 0)
 refine ow_nil (kw_nx (cw_cond rfl (fun h60 => ?_) (fun h60 => ?_)))
 ·have H0 := cond_t H0 h60
  refine sr (oB9 10 ts34 rfl (oB9 15 ts34 rfl (oE (stpU_call (fun i => 16 + i) cf8 (fun w hw => c_i_MachineSame fl w x21.1 x39.1 rfl (OwnC.pass (id := 6) rfl o25 hw) rfl (OwnC.pass (id := 7) rfl o29 hw) rfl (OwnC.pass (id := 8) rfl o33 hw) rfl (OwnC.pass (id := 9) rfl o37 hw) rfl (OwnC.pass (id := 11) rfl o43 hw) rfl (OwnC.pass (id := 12) rfl o47 hw) rfl (OwnC.pass (id := 13) rfl o51 hw) rfl (OwnC.pass (id := 14) rfl o55 hw) x57 e57) (yB rfl rfl)) rfl ?_)))
  rintro _ _ ⟨_, ⟨rfl, rfl⟩, rfl⟩
  obtain ⟨y61, ey61, H0⟩ := bS H0
  refine oM rfl (ow_cutY 4 60 y61 ?_ ?_)
  ·rcases Bool.eq_false_or_eq_true x57 with hy61 | hy61
   ·have ey61 := cond_t ey61 hy61
    refine oG rfl hy61 (mv rfl) rfl (oG rfl hy61 (mv rfl) rfl (oG rfl hy61 (stp_eqlB Tryz.underlying4 rfl rfl) rfl (oD (stp_pick_t rfl hy61 rfl) rfl ?_)))
    obtain rfl := sI ey61
    exact ow_nil (jy 4 0)
   have ey61 := cond_f ey61 hy61
   refine oO rfl hy61 rfl (oO rfl hy61 rfl (oO rfl hy61 rfl (oD (stp_pick_f rfl hy61 rfl) rfl ?_)))
   obtain rfl := sI ey61
   exact ow_nil (jy 4 0)
  refine oS rfl (nn (cw_ret (kw_nx_ret ?_)))
  obtain rfl := sI H0
  exact kr Tryz.results3 (rT rfl) [] ⟨rfl, rfl⟩
 have H0 := cond_f H0 h60
 obtain ⟨x62, e62, H0⟩ := bS H0
 refine cw_skip (kw_nx (sr (oB9 10 ts34 rfl (oA 0 Tryz.underlying36 rfl ts3 rfl (oL 5 ts3 rfl (oE (stpU_call (fun i => 16 + i) cf9 (fun w hw => c_i_EnterSpace fl w x21.1 x2.2.1.s rfl (OwnC.pass (id := 6) rfl o25 hw) rfl (OwnC.pass (id := 7) rfl o29 hw) rfl (OwnC.pass (id := 8) rfl o33 hw) rfl (OwnC.pass (id := 9) rfl o37 hw) (RO.pass hg hw) x62 e62) (yB rfl rfl)) rfl ?_))))))
 rintro _ _ ⟨_, ⟨p63, _, c65, C66, p67, _, c69, C70, p71, _, c73, C74, p75, _, c77, C78, rfl, rfl, rfl, o66, rfl, o70, rfl, o74, rfl, o78⟩, rfl⟩
 refine oM rfl (oT rfl (oT rfl (oE (stpU_alloc 20 tz34 rfl) rfl ?_)))
 rintro _ _ ⟨b79, rfl, rfl⟩
 obtain ⟨o0_0, eo0_0, H0⟩ := bS H0
 refine oC9 20 ts34 rfl rfl (oS rfl (nn (cw_seq (sr (oS rfl (nn (cw_join (ι := Int) (fun | v80 => o0_0 = .out v80) (fun | v80 => [(4, .pointer (some ⟨b20, 0, none⟩)), (5, .int .i64 x2.2.2), (6, .pointer (some ⟨b38, 0, none⟩)), (10, .pointer (some ⟨b79, 0, none⟩)), (11, .bool x62.2), (12, .int .i64 v80)]) (fun | v80 => [(5, [(b20, .cells #[.int .i64 x2.2.1.s, .int .i64 x2.2.1.p] 36 (0, 0))]), (6, C25), (7, C29), (8, C33), (9, C37), (10, [(b38, .cells #[.slice p22 ((x21.1.t.b).length) c24, .slice p26 ((x21.1.t.f).length) c28, .slice p30 ((x21.1.c.l).length) c32, .int .i64 x21.1.c.h, .int .i64 x21.1.g.c, .int .i64 x21.1.g.n, .int .i64 x21.1.g.r, .slice p34 ((x21.1.g.o).length) c36, .int .i64 x21.1.s] 34 (0, 0))]), (16, C66), (17, C70), (18, C74), (19, C78), (20, [(b79, .cells #[.slice p63 ((x62.1.t.b).length) c65, .slice p67 ((x62.1.t.f).length) c69, .slice p71 ((x62.1.c.l).length) c73, .int .i64 x62.1.c.h, .int .i64 x62.1.g.c, .int .i64 x62.1.g.n, .int .i64 x62.1.g.r, .slice p75 ((x62.1.g.o).length) c77, .int .i64 x62.1.s] 34 (0, 0))])]) ?_ ?_)))))))
 ·refine cw_block (cw_loopS (ι := Nat × Int) (js := [5, 6, 7, 8, 9, 10, 16, 17, 18, 19, 20]) (fun x => x.1) (fun | (fuel, v80) => l_FnGuardPage_L0 fl x2 x62 fuel v80 = some o0_0) (fun | (_, v80) => [(4, .pointer (some ⟨b20, 0, none⟩)), (5, .int .i64 x2.2.2), (6, .pointer (some ⟨b38, 0, none⟩)), (10, .pointer (some ⟨b79, 0, none⟩)), (11, .bool x62.2), (12, .int .i64 v80)]) (fun | (_, v80) => [(5, [(b20, .cells #[.int .i64 x2.2.1.s, .int .i64 x2.2.1.p] 36 (0, 0))]), (6, C25), (7, C29), (8, C33), (9, C37), (10, [(b38, .cells #[.slice p22 ((x21.1.t.b).length) c24, .slice p26 ((x21.1.t.f).length) c28, .slice p30 ((x21.1.c.l).length) c32, .int .i64 x21.1.c.h, .int .i64 x21.1.g.c, .int .i64 x21.1.g.n, .int .i64 x21.1.g.r, .slice p34 ((x21.1.g.o).length) c36, .int .i64 x21.1.s] 34 (0, 0))]), (16, C66), (17, C70), (18, C74), (19, C78), (20, [(b79, .cells #[.slice p63 ((x62.1.t.b).length) c65, .slice p67 ((x62.1.t.f).length) c69, .slice p71 ((x62.1.c.l).length) c73, .int .i64 x62.1.c.h, .int .i64 x62.1.g.c, .int .i64 x62.1.g.n, .int .i64 x62.1.g.r, .slice p75 ((x62.1.g.o).length) c77, .int .i64 x62.1.s] 34 (0, 0))])]) (fl, 0) eo0_0 ⟨rfl, rfl, rfl, rfl, rfl, rfl, trivial⟩ ⟨5, [6, 7, 8, 9, 10, 16, 17, 18, 19, 20], rfl, rfl, 6, [7, 8, 9, 10, 16, 17, 18, 19, 20], rfl, rfl, 7, [8, 9, 10, 16, 17, 18, 19, 20], rfl, rfl, 8, [9, 10, 16, 17, 18, 19, 20], rfl, rfl, 9, [10, 16, 17, 18, 19, 20], rfl, rfl, 10, [16, 17, 18, 19, 20], rfl, rfl, 16, [17, 18, 19, 20], rfl, rfl, 17, [18, 19, 20], rfl, rfl, 18, [19, 20], rfl, rfl, 19, [20], rfl, rfl, 20, [], rfl, rfl, trivial⟩ (by decide) ?_)
  rintro ⟨fuel, v80⟩ H1
  have H1 : l_FnGuardPage_L0 fl x2 x62 fuel v80 = some o0_0 := H1
  rcases fuel with _ | fuel
  ·rw [l_FnGuardPage_L0.eq_1] at H1; cases H1
  rw [l_FnGuardPage_L0.eq_2] at H1
  dsimp only
  obtain ⟨y81, ey81, H1⟩ := bS H1
  refine cw_seq (sr (oM rfl (oV rfl (oM rfl (ow_cutY 2 72 y81 ?_ ?_)))))
  ·rcases Bool.eq_false_or_eq_true (decide (v80 ≤ 7)) with hy81 | hy81
   ·have ey81 := cond_t ey81 hy81
    refine oG rfl hy81 (mv rfl) rfl (oD (stp_pick_t rfl hy81 rfl) rfl ?_)
    obtain rfl := sI ey81
    exact ow_nil (jy 2 0)
   have ey81 := cond_f ey81 hy81
   refine oO rfl hy81 rfl (oD (stp_pick_f rfl hy81 rfl) rfl ?_)
   obtain rfl := sI ey81
   exact ow_nil (jy 2 0)
  refine ow_nil (kw_nx (cw_cond rfl (fun h82 => ?_) (fun h82 => ?_)))
  ·have H1 := cond_t H1 h82
   obtain ⟨x83, e83, H1⟩ := bS H1
   refine cw_skip (kw_nx (cw_seq (cw_block (sr (oB9 20 ts34 rfl (oA 1 Tryz.underlying36 rfl ts3 rfl (oL 5 ts3 rfl (oM rfl (oE (stpU_call (fun i => 21 + i) cf10 (fun w hw => c_i_TouchPage fl w x62.1 x2.2.1.p v80 rfl (OwnC.pass (id := 16) rfl o66 hw) rfl (OwnC.pass (id := 17) rfl o70 hw) rfl (OwnC.pass (id := 18) rfl o74 hw) rfl (OwnC.pass (id := 19) rfl o78 hw) (RO.pass hg hw) x83 e83) (yC rfl rfl rfl)) rfl ?_)))))))))
   rintro _ _ ⟨_, ⟨p84, _, c86, C87, p88, _, c90, C91, p92, _, c94, C95, p96, _, c98, C99, rfl, rfl, rfl, o87, rfl, o91, rfl, o95, rfl, o99⟩, rfl⟩
   refine oM rfl (oT rfl (oT rfl (oT rfl (oT rfl (oE (stpU_alloc 25 tz34 rfl) rfl ?_)))))
   rintro _ _ ⟨b100, rfl, rfl⟩
   obtain ⟨y101, ey101, H1⟩ := bS H1
   refine oC9 25 ts34 rfl rfl (oS rfl (oS rfl (oS rfl (nn (sr (oM rfl (oK rfl (oM rfl (ow_cutY 7 94 y101 ?_ ?_)))))))))
   ·rcases Bool.eq_false_or_eq_true (!x83.2.2.2) with hy101 | hy101
    ·have ey101 := cond_t ey101 hy101
     refine oO rfl hy101 rfl (oO rfl hy101 rfl (oO rfl hy101 rfl (oO rfl hy101 rfl (oO rfl hy101 rfl (oO rfl hy101 rfl (oD (stp_pick_t rfl hy101 rfl) rfl ?_))))))
     obtain rfl := sI ey101
     exact ow_nil (jy 7 0)
    have ey101 := cond_f ey101 hy101
    obtain ⟨x102, e102, ey101⟩ := bS ey101
    refine oG rfl hy101 (mv rfl) rfl (oG rfl hy101 (stp_eql rfl rfl) rfl (oG rfl hy101 (mv rfl) rfl (oG rfl hy101 (mv rfl) rfl (ow_eff (.some rfl hy101) (stpU_call (fun i => 26 + i) cf11 (fun w hw => c_i_Allows fl w x2.2.2 v80 x102 e102) (yB rfl rfl)) rfl ?_))))
    rintro _ _ ⟨_, ⟨rfl, rfl⟩, rfl⟩
    refine oG rfl hy101 (stp_eqlB Tryz.underlying4 rfl rfl) rfl (oD (stp_pick_f rfl hy101 rfl) rfl ?_)
    obtain rfl := sI ey101
    exact ow_nil (jy 7 0)
   refine ow_nil (kw_nx (cw_cond rfl (fun h103 => ?_) (fun h103 => ?_)))
   ·have H1 := cond_t H1 h103
    refine sr (oS rfl (nn (cw_ret (kw_bl_ret (kw_nx_ret (kw_lq_ret (kw_bl_ret (kw_join_ret (kw_nx_ret ?_)))))))))
    obtain rfl := sI H1
    obtain rfl := sI H0
    exact kr Tryz.results3 (rT rfl) [] ⟨rfl, rfl⟩
   have H1 := cond_f H1 h103
   obtain ⟨x104, e104, H1⟩ := bS H1
   exact cw_skip (kw_bl_normal (kw_nx (cw_region (oM rfl (oP e104 rfl (oS rfl (ow_nil (kw_lqS (js := [5, 6, 7, 8, 9, 10, 16, 17, 18, 19, 20]) (fuel, x104) H1 (Nat.lt_succ_self _) ⟨rfl, rfl, rfl, rfl, rfl, rfl, trivial⟩ ⟨5, [6, 7, 8, 9, 10, 16, 17, 18, 19, 20], rfl, rfl, 6, [7, 8, 9, 10, 16, 17, 18, 19, 20], rfl, rfl, 7, [8, 9, 10, 16, 17, 18, 19, 20], rfl, rfl, 8, [9, 10, 16, 17, 18, 19, 20], rfl, rfl, 9, [10, 16, 17, 18, 19, 20], rfl, rfl, 10, [16, 17, 18, 19, 20], rfl, rfl, 16, [17, 18, 19, 20], rfl, rfl, 17, [18, 19, 20], rfl, rfl, 18, [19, 20], rfl, rfl, 19, [20], rfl, rfl, 20, [], rfl, rfl, trivial⟩ (by decide)))))))))
  have H1 := cond_f H1 h82
  refine cw_exit (kw_nx_exit (kw_lq_exit (kw_bl ?_)))
  obtain rfl := sI H1
  exact kw_joinS (js := [5, 6, 7, 8, 9, 10, 16, 17, 18, 19, 20]) v80 rfl ⟨rfl, rfl, rfl, rfl, rfl, rfl, trivial⟩ ⟨5, [6, 7, 8, 9, 10, 16, 17, 18, 19, 20], rfl, rfl, 6, [7, 8, 9, 10, 16, 17, 18, 19, 20], rfl, rfl, 7, [8, 9, 10, 16, 17, 18, 19, 20], rfl, rfl, 8, [9, 10, 16, 17, 18, 19, 20], rfl, rfl, 9, [10, 16, 17, 18, 19, 20], rfl, rfl, 10, [16, 17, 18, 19, 20], rfl, rfl, 16, [17, 18, 19, 20], rfl, rfl, 17, [18, 19, 20], rfl, rfl, 18, [19, 20], rfl, rfl, 19, [20], rfl, rfl, 20, [], rfl, rfl, trivial⟩ (by decide)
 rintro v80 rfl
 dsimp only
 obtain ⟨x105, e105, H0⟩ := bS H0
 refine kw_nx (sr (oB9 10 ts34 rfl (oE (stpU_call (fun i => 26 + i) cf12 (fun w hw => c_i_MachineValid fl w x21.1 rfl (OwnC.pass (id := 6) rfl o25 hw) rfl (OwnC.pass (id := 7) rfl o29 hw) rfl (OwnC.pass (id := 8) rfl o33 hw) rfl (OwnC.pass (id := 9) rfl o37 hw) (RO.pass hg hw) x105 e105) (yA rfl)) rfl ?_)))
 rintro _ _ ⟨_, ⟨rfl, rfl⟩, rfl⟩
 refine oS rfl (nn (cw_ret ?_))
 obtain rfl := sI H0
 exact kr Tryz.results3 (rT rfl) [] ⟨rfl, rfl⟩
end Go.Proofs.YtcloffimpakmnaaGreatDoor
