/- The walks: functions of the program return what their pure functions say. Printed by a program (gen.py). -/
import Derived.Test.YtfnliecmagnkdabDoorBp
import Derived.Test.YtfnliecmagnkdabDoorBt
import Derived.Test.YtfnliecmagnkdabDoorMan
import Derived.Test.YtfnliecmagnkdabDoorMap
import Derived.Test.YtfnliecmagnkdabDoorCpy
import Derived.Test.YtfnliecmagnkdabDoorClr
import Derived.Test.YtfnliecmagnkdabDoorDp
import Derived.Test.YtfnliecmagnkdabDoorSrt
import Derived.Test.YtfnliecmagnkdabDoorE8
import Derived.Test.YtfnliecmagnkdabDoorBwab
import Derived.Test.YtfnliecmagnkdabDoorBwaf
import Derived.Test.YtfnliecmagnkdabDoorBwao
set_option linter.unusedSimpArgs false
set_option linter.unusedVariables false
set_option linter.unusedSectionVars false
namespace Go.Proofs.YtfnliecmagnkdabDoor
open Go.RowKit
set_option maxHeartbeats 4000000
set_option maxRecDepth 20000
variable {p0_0 p0_1 p0_2 : Option Addr} {n0_0 n0_1 n0_2 : Nat} {c0_0 c0_1 c0_2 : Nat} {C0_0 C0_1 : Res}
theorem c_i_MapSystem_1 (fl : Nat) (w : World) (a0 : Nt) (qc0 : Nat) (ac0 : Int) (qc1 : Nat) (ac1 : K) (hbac0 : RO w (hkeys []) (fun w' => w'.rangeAt qc0 0 [.int .i64 ac0])) (hbac1 : RO w (hkeys []) (fun w' => w'.rangeAt qc1 0 [.int .i64 ac1.s, .int .i64 ac1.p])) (r : Bool) (H0 : i_MapSystem_1 fl a0 ac0 ac1 = some r) :
  Ct Tryd.prog 64 [.agg #[.int .i64 a0.k.s, .int .i64 a0.k.p, .int .i64 a0.fr], .pointer (some ⟨qc0, 0, none⟩), .pointer (some ⟨qc1, 0, none⟩)] w [] (fun rv h' => rv = .bool r ∧ h' = []) := by
 unfold i_MapSystem_1 at H0
 refine ct_of_cw Tryd.func64 rfl Tryd.ntmps64 rfl (Sat.refl _ _) ?_
 refine sr (oE (stpU_box 0 rfl rfl) rfl ?_)
 rintro _ _ ⟨b1, rfl, rfl⟩
 obtain ⟨y2, ey2, H0⟩ := bS H0
 refine oS rfl (nn (sr (oA 2 Tryd.underlying55 rfl ts3 rfl (oL 0 ts3 rfl (oD (stp_load1 ts3 rfl (Cells.ofRO hbac0 1 rfl)) rfl (oQ rfl (oM rfl (ow_cutY 5 14 y2 ?_ ?_))))))))
 ·rcases Bool.eq_false_or_eq_true (a0.fr == ac0) with hy2 | hy2
  ·have ey2 := cond_t ey2 hy2
   refine oO rfl hy2 rfl (oO rfl hy2 rfl (oO rfl hy2 rfl (oO rfl hy2 rfl (oD (stp_pick_t rfl hy2 rfl) rfl ?_))))
   obtain rfl := sI ey2
   exact ow_nil (jy 5 0)
  have ey2 := cond_f ey2 hy2
  refine oG rfl hy2 (fA 0 Tryd.underlying55 rfl ts41 rfl rfl rfl) rfl (oG rfl hy2 (stp_loadN (us := [_, _]) ts41 rfl (Cells.box (id := 0) rfl 2 rfl)) rfl (oG rfl hy2 (stp_loadN (us := [_, _]) ts41 rfl (Cells.ofRO hbac1 2 rfl)) rfl (oG rfl hy2 (stp_eqlS te41 a0.k ac1 rfl rfl) rfl (oD (stp_pick_f rfl hy2 rfl) rfl ?_))))
  obtain rfl := sI ey2
  exact ow_nil (jy 5 0)
 refine oS rfl (nn (cw_ret ?_))
 obtain rfl := sI H0
 exact kr Tryd.results64 (rT rfl) [] ⟨rfl, rfl⟩

theorem c_slices_IndexFunc_Note_of_i_MapSystem_1 (fl : Nat) (w : World) (a0 : (List Nt)) (q1_0 : Nat) (a1_0 : Int) (q1_1 : Nat) (a1_1 : K) (hn0_0 : n0_0 = (a0).length) (hr0_0 : RO w (hkeys []) (RdL p0_0 c0_0 a0)) (hba1_0 : RO w (hkeys []) (fun w' => w'.rangeAt q1_0 0 [.int .i64 a1_0])) (hba1_1 : RO w (hkeys []) (fun w' => w'.rangeAt q1_1 0 [.int .i64 a1_1.s, .int .i64 a1_1.p])) (r : Int) (H0 : slices_IndexFunc_Note_of_i_MapSystem_1 fl a0 a1_0 a1_1 = some r) :
  Ct Tryd.prog 97 [.slice p0_0 n0_0 c0_0, .func (.func 64) #[] #[.pointer (some ⟨q1_0, 0, none⟩), .pointer (some ⟨q1_1, 0, none⟩)]] w [] (fun rv h' => rv = .int .i64 r ∧ h' = []) := by
 subst hn0_0
 unfold slices_IndexFunc_Note_of_i_MapSystem_1 at H0
 refine ct_of_cw Tryd.func97 rfl Tryd.ntmps97 rfl (Sat.refl _ _) ?_
 obtain ⟨o0_0, eo0_0, H0⟩ := bS H0
 refine sr (oS rfl (nn (cw_seq (sr (oM rfl (oD (stp_len Tryd.underlying51 rfl) rfl (oM rfl (nn (cw_join (ι := Int) (fun | v1 => o0_0 = .out v1) (fun | v1 => [(0, .slice p0_0 ((a0).length) c0_0), (1, .func (.func 64) #[] #[.pointer (some ⟨q1_0, 0, none⟩), .pointer (some ⟨q1_1, 0, none⟩)]), (7, .int .i64 ((a0).length : Int)), (8, .int .i64 v1)]) (fun | v1 => []) ?_ ?_)))))))))
 ·refine cw_block (cw_loopS (ι := Nat × Int) (js := []) (fun x => x.1) (fun | (fuel, v1) => slices_IndexFunc_Note_of_i_MapSystem_1_L0 fl a0 a1_0 a1_1 fuel v1 = some o0_0) (fun | (_, v1) => [(0, .slice p0_0 ((a0).length) c0_0), (1, .func (.func 64) #[] #[.pointer (some ⟨q1_0, 0, none⟩), .pointer (some ⟨q1_1, 0, none⟩)]), (7, .int .i64 ((a0).length : Int)), (8, .int .i64 v1)]) (fun | (_, v1) => []) (fl, 0) eo0_0 ⟨rfl, rfl, rfl, rfl, trivial⟩ trivial (by decide) ?_)
  rintro ⟨fuel, v1⟩ H1
  have H1 : slices_IndexFunc_Note_of_i_MapSystem_1_L0 fl a0 a1_0 a1_1 fuel v1 = some o0_0 := H1
  rcases fuel with _ | fuel
  ·rw [slices_IndexFunc_Note_of_i_MapSystem_1_L0.eq_1] at H1; cases H1
  rw [slices_IndexFunc_Note_of_i_MapSystem_1_L0.eq_2] at H1
  dsimp only
  refine sr (oW rfl (nn (cw_seq (cw_cond rfl (fun h2 => ?_) (fun h2 => ?_)))))
  ·have H1 := cond_t H1 h2
   obtain ⟨x3, e3, H1⟩ := bS H1
   refine cw_skip (kw_nx (cw_seq (cw_block (sr (oM rfl (oS rfl (nn (sr (oM rfl (oM rfl (oM rfl (oD (stp_indexAddr Tryd.underlying51 ts55 (by decide) rfl rfl rfl (Rdb.ro hr0_0) e3) rfl (oD (stp_loadN (us := [_, _, _]) ts55 rfl (Cells.el (Rdb.ro hr0_0) (by decide) e3 0 3 rfl)) rfl ?_)))))))))))))
   obtain ⟨x4, e4, H1⟩ := bS H1
   refine oE (stpU_callF (vals := [_]) (ca := [_, _]) (fun i => 0 + i) cf64 (fun w hw => c_i_MapSystem_1 fl w x3 q1_0 a1_0 q1_1 a1_1 (RO.pass hba1_0 hw) (RO.pass hba1_1 hw) x4 e4) rfl (yA rfl)) rfl ?_
   rintro _ _ ⟨_, ⟨rfl, rfl⟩, rfl⟩
   refine nn (cw_cond rfl (fun h5 => ?_) (fun h5 => ?_))
   ·have H1 := cond_t H1 h5
    refine sr (oM rfl (oS rfl (nn (cw_ret (kw_bl_ret (kw_nx_ret (kw_lq_ret (kw_bl_ret (kw_join_ret (kw_nx_ret ?_))))))))))
    obtain rfl := sI H1
    obtain rfl := sI H0
    exact kr Tryd.results97 (rT rfl) [] ⟨rfl, rfl⟩
   have H1 := cond_f H1 h5
   obtain ⟨x6, e6, H1⟩ := bS H1
   exact cw_skip (kw_bl_normal (kw_nx (cw_region (oP e6 rfl (oM rfl (ow_nil (kw_lqS (js := []) (fuel, x6) H1 (Nat.lt_succ_self _) ⟨rfl, rfl, rfl, rfl, trivial⟩ trivial (by decide))))))))
  have H1 := cond_f H1 h2
  refine cw_exit (kw_nx_exit (kw_lq_exit (kw_bl ?_)))
  obtain rfl := sI H1
  exact kw_joinS (js := []) v1 rfl ⟨rfl, rfl, rfl, rfl, trivial⟩ trivial (by decide)
 rintro v1 rfl
 dsimp only
 refine kw_nx (sr (oS rfl (nn (cw_ret ?_))))
 obtain rfl := sI H0
 exact kr Tryd.results97 (rT rfl) [] ⟨rfl, rfl⟩

theorem c_slices_ContainsFunc_Note_of_i_MapSystem_1 (fl : Nat) (w : World) (a0 : (List Nt)) (q1_0 : Nat) (a1_0 : Int) (q1_1 : Nat) (a1_1 : K) (hn0_0 : n0_0 = (a0).length) (hr0_0 : RO w (hkeys []) (RdL p0_0 c0_0 a0)) (hba1_0 : RO w (hkeys []) (fun w' => w'.rangeAt q1_0 0 [.int .i64 a1_0])) (hba1_1 : RO w (hkeys []) (fun w' => w'.rangeAt q1_1 0 [.int .i64 a1_1.s, .int .i64 a1_1.p])) (r : Bool) (H0 : slices_ContainsFunc_Note_of_i_MapSystem_1 fl a0 a1_0 a1_1 = some r) :
  Ct Tryd.prog 63 [.slice p0_0 n0_0 c0_0, .func (.func 64) #[] #[.pointer (some ⟨q1_0, 0, none⟩), .pointer (some ⟨q1_1, 0, none⟩)]] w [] (fun rv h' => rv = .bool r ∧ h' = []) := by
 subst hn0_0
 unfold slices_ContainsFunc_Note_of_i_MapSystem_1 at H0
 refine ct_of_cw Tryd.func63 rfl Tryd.ntmps63 rfl (Sat.refl _ _) ?_
 obtain ⟨x1, e1, H0⟩ := bS H0
 refine sr (oS rfl (nn (sr (oM rfl (oM rfl (oE (stpU_call (fun i => 0 + i) cf97 (fun w hw => c_slices_IndexFunc_Note_of_i_MapSystem_1 fl w a0 q1_0 a1_0 q1_1 a1_1 rfl (RO.pass hr0_0 hw) (RO.pass hba1_0 hw) (RO.pass hba1_1 hw) x1 e1) (yB rfl rfl)) rfl ?_))))))
 rintro _ _ ⟨_, ⟨rfl, rfl⟩, rfl⟩
 refine oI rfl (oS rfl (nn (cw_ret ?_)))
 obtain rfl := sI H0
 exact kr Tryd.results63 (rT rfl) [] ⟨rfl, rfl⟩

theorem c_i_RightsValid (fl : Nat) (w : World) (a0 : Int) (r : Bool) (H0 : i_RightsValid fl a0 = some r) :
  Ct Tryd.prog 113 [.int .i64 a0] w [] (fun rv h' => rv = .bool r ∧ h' = []) := by
 unfold i_RightsValid at H0
 refine ct_of_cw Tryd.func113 rfl Tryd.ntmps113 rfl (Sat.refl _ _) ?_
 obtain ⟨x1, e1, H0⟩ := bS H0
 refine sr (oS rfl (nn (sr (oM rfl (oE (stpU_call (fun i => 0 + i) cf76 (fun w hw => c_i_within fl w a0 8 x1 e1) (yB rfl rfl)) rfl ?_)))))
 rintro _ _ ⟨_, ⟨rfl, rfl⟩, rfl⟩
 refine oS rfl (nn (cw_ret ?_))
 obtain rfl := sI H0
 exact kr Tryd.results113 (rT rfl) [] ⟨rfl, rfl⟩

theorem c_i_Table_link (fl : Nat) (w : World) (a0 : T) (a1 : K) (a2 : Int) (a3 : Int) (hn0_0 : n0_0 = (a0.b).length) (ho0_0 : OwnC 3 p0_0 c0_0 a0.b C0_0) (hn0_1 : n0_1 = (a0.f).length) (ho0_1 : OwnC 71 p0_1 c0_1 a0.f C0_1) (hM : Sat w (hkeys [(0, C0_0), (1, C0_1)]) w [(0, C0_0), (1, C0_1)]) (r : (List Int) × (List F)) (H0 : i_Table_link fl a0 a1 a2 a3 = some r) :
  Ct Tryd.prog 114 [.agg #[.slice p0_0 n0_0 c0_0, .slice p0_1 n0_1 c0_1], .agg #[.int .i64 a1.s, .int .i64 a1.p], .int .i64 a2, .int .i64 a3] w [(0, C0_0), (1, C0_1)] (fun rv h' => ∃ (D0 : Res) (D1 : Res), rv = .tuple #[] ∧ h' = [(0, D0), (1, D1)] ∧ n0_0 = (r.1).length ∧ OwnC 3 p0_0 c0_0 r.1 D0 ∧ n0_1 = (r.2).length ∧ OwnC 71 p0_1 c0_1 r.2 D1) := by
 subst hn0_0 hn0_1
 unfold i_Table_link at H0
 refine ct_of_cw Tryd.func114 rfl Tryd.ntmps114 rfl hM ?_
 refine sr (oE (stpU_box 2 rfl rfl) rfl ?_)
 rintro _ _ ⟨b1, rfl, rfl⟩
 refine oE (stpU_box 3 rfl rfl) rfl ?_
 rintro _ _ ⟨b2, rfl, rfl⟩
 obtain ⟨x3, e3, H0⟩ := bS H0
 refine nn (sr (oB2 3 ts41 rfl (oA 0 Tryd.underlying34 rfl ts22 rfl (oL 2 ts22 rfl (oD (stp_len Tryd.underlying22 rfl) rfl (oE (stpU_call (fun i => 4 + i) cf79 (fun w hw => c_i_hash fl w a1 ((a0.b).length : Int) x3 e3) (yB rfl rfl)) rfl ?_))))))
 rintro _ _ ⟨_, ⟨rfl, rfl⟩, rfl⟩
 obtain ⟨x4, e4, H0⟩ := bS H0
 obtain ⟨x5, e5, H0⟩ := bS H0
 refine oS rfl (nn (cw_seq (rdq g_mixed [2, 3, 4, 5, 8] [0, 1, 2, 3] { dst := dS [15, 16, 17, 18, 19, 20, 21, 22, 23, 24, 25, 26, 0], pre := gA [] [[], [0], [], [], [], [], [5], [], [5, 6, 7], rn 5 4, rn 3 7, rn 0 11, rn 0 12], ids := fun i => match i with | 12 => [1] | _ => [], rs := rL [[(4, 0)], [(14, 1)], [(2, 0)], [(5, 0)], [(3, 0)], [(4, 0)], [(19, 6)], [(8, 0)], [(20, 7), (21, 8)], [(22, 9)], [(17, 4), (18, 5), (23, 10)], [(15, 2), (16, 3)], [(25, 12), (24, 11)]], rh := rL [[], [(2, 0)], [], [(3, 0)], [], [], [(2, 0)], [], [(0, 0)], [(0, 0)], [], [(1, 0)], [(1, 0)]], V := fun i g => gA undef [.pointer (some ⟨b1, 1, none⟩), .slice p0_1 ((a0.f).length) c0_1, .int .i64 a2, .agg #[.int .i64 a1.s, .int .i64 a1.p], .int .i64 a3, .pointer (some ⟨b1, 0, none⟩), .slice p0_0 ((a0.b).length) c0_0, .int .i64 x3, .pointer (some ⟨eB p0_0, eO p0_0 + Int.toNat x3 * Enc.sz Int + 0, none⟩), .int .i64 x4, .agg #[.bool true, .int .i64 a1.s, .int .i64 a1.p, .int .i64 a3, .int .i64 x4], .pointer (some ⟨eB p0_1, eO p0_1 + Int.toNat a2 * Enc.sz F + 0, none⟩)] i, U := fun i g => match i with | 12 => [(1, ((g 12).R 0))] | _ => [], Φ := fun i x => match i with | 12 => OwnC (α := F) 71 p0_1 c0_1 (a0.f.set (Int.toNat a2) (⟨true, a1, a3, x4⟩ : F)) (x.R 0) | _ => True } ?_ ?_)))
 ·refine ⟨lc rfl rfl fun hs hh => stp_fieldAddr (j := 1) Tryd.underlying34 rfl ts32 rfl (sv hs 4 rfl) rfl, lc rfl rfl fun hs hh => stp_load1 ts32 (sv hs 14 rfl) (Cells.box (id := 2) (hh.get 2 _ rfl) 1 rfl), lM, lc rfl rfl fun hs hh => stp_loadN (us := [_, _]) ts41 (sv hs 5 rfl) (Cells.box (id := 3) (hh.get 3 _ rfl) 2 rfl), lM, lc rfl rfl fun hs hh => stp_fieldAddr (j := 0) Tryd.underlying34 rfl ts22 rfl (sv hs 4 rfl) rfl, lc rfl rfl fun hs hh => stp_load1 ts22 (sv hs 19 rfl) (Cells.box (id := 2) (hh.get 2 _ rfl) 1 rfl), lM, lc rfl rfl fun hs hh => stp_indexAddr Tryd.underlying22 ts3 (by decide) (sv hs 20 rfl) rfl (sv hs 21 rfl) (Rdb.own (id := 0) (hh.get 0 _ rfl) ho0_0) e4, lc rfl rfl fun hs hh => stp_load1 ts3 (sv hs 22 rfl) (Cells.el (Rdb.own (id := 0) (hh.get 0 _ rfl) ho0_0) (by decide) e4 0 1 rfl), lc rfl rfl fun hs hh => stp_build (cs := #[.bool true, .int .i64 a1.s, .int .i64 a1.p, .int .i64 a3, .int .i64 x4]) (sevp_cons rfl (sevp_cons (sv hs 17 rfl) (sevp_cons (sv hs 18 rfl) (sevp_cons (sv hs 23 rfl) sevp_nil)))) bt71_9, lc rfl rfl fun hs hh => stp_indexAddr Tryd.underlying32 ts71 (by decide) (sv hs 15 rfl) rfl (sv hs 16 rfl) (Rdb.own (id := 1) (hh.get 1 _ rfl) ho0_1) e5, ?_, trivial⟩
  refine le rfl rfl (fun g hΦ s h hs hh => (stpU_storeEl (id := 1) (i := 0) (⟨true, a1, a3, x4⟩ : F) (by decide) ts71 (sv hs 25 rfl) (sv hs 24 rfl) (hh.get 1 _ rfl) ho0_1 e5 rfl rfl rfl rfl)) ?_
  rintro g _ _ ⟨C6, rfl, o6⟩
  exact ⟨⟨[], [], [C6]⟩, o6, .inl rfl, rfl⟩
 intro g hΦ
 refine kw_gen (ι := Res) ((g 12).R 0) (fun | C6 => OwnC (α := F) 71 p0_1 c0_1 (a0.f.set (Int.toNat a2) (⟨true, a1, a3, x4⟩ : F)) C6) (fun | C6 => [(2, .int .i64 a2), (4, .pointer (some ⟨b1, 0, none⟩)), (8, .int .i64 x3)]) (fun | C6 => [(0, C0_0), (1, C6), (2, [(b1, .cells #[.slice p0_0 ((a0.b).length) c0_0, .slice p0_1 ((a0.f).length) c0_1] 34 (0, 0))])]) (hΦ 12 (by decide)) ⟨rfl, rfl, rfl, trivial⟩ ⟨rfl, rfl, rfl, trivial⟩ ?_
 rintro C6 o6
 have o6 : OwnC (α := F) 71 p0_1 c0_1 (a0.f.set (Int.toNat a2) (⟨true, a1, a3, x4⟩ : F)) C6 := o6
 dsimp only
 refine kw_nx (cw_region (oA 0 Tryd.underlying34 rfl ts22 rfl (oL 2 ts22 rfl (oM rfl (oM rfl (oD (stp_indexAddr Tryd.underlying22 ts3 (by decide) rfl rfl rfl (Rdb.own (id := 0) rfl ho0_0) e4) rfl (oF (stpU_storeEl (id := 0) (i := 0) a2 (by decide) ts3 rfl rfl rfl ho0_0 e4 rfl rfl rfl rfl) ?_)))))))
 rintro _ _ ⟨C7, rfl, o7⟩
 refine ow_nil ?_
 obtain rfl := sI H0
 exact ke Tryd.results114 .nil [0, 1] ⟨_, _, rfl, rfl, (by simp), o7, (by simp), o6⟩

theorem c_i_MapPage (fl : Nat) (w : World) (a0 : T) (a1 : K) (a2 : Int) (a3 : Int) (hn0_0 : n0_0 = (a0.b).length) (hr0_0 : RO w (hkeys []) (RdL p0_0 c0_0 a0.b)) (hn0_1 : n0_1 = (a0.f).length) (hr0_1 : RO w (hkeys []) (RdL p0_1 c0_1 a0.f)) (hg : RO w (hkeys []) (fun w' => w'.rangeAt 0 0 [.bool false, .int .i64 0, .int .i64 0, .int .i64 0, .int .i64 (-1)])) (r : T × Bool) (H0 : i_MapPage fl a0 a1 a2 a3 = some r) :
  Ct Tryd.prog 65 [.agg #[.slice p0_0 n0_0 c0_0, .slice p0_1 n0_1 c0_1], .agg #[.int .i64 a1.s, .int .i64 a1.p], .int .i64 a2, .int .i64 a3] w [] (fun rv h' => ∃ (x0 : Option Addr) (y0 z0 : Nat) (C0 : Res) (x1 : Option Addr) (y1 z1 : Nat) (C1 : Res), rv = .tuple #[.agg #[.slice x0 y0 z0, .slice x1 y1 z1], .bool r.2] ∧ h' = [(0, C0), (1, C1)] ∧ y0 = (r.1.b).length ∧ OwnC 3 x0 z0 r.1.b C0 ∧ y1 = (r.1.f).length ∧ OwnC 71 x1 z1 r.1.f C1) := by
 subst hn0_0 hn0_1
 unfold i_MapPage at H0
 refine ct_of_cw Tryd.func65 rfl Tryd.ntmps65 rfl (Sat.refl _ _) ?_
 refine sr (oE (stpU_box 0 rfl rfl) rfl ?_)
 rintro _ _ ⟨b1, rfl, rfl⟩
 refine oE (stpU_box 1 rfl rfl) rfl ?_
 rintro _ _ ⟨b2, rfl, rfl⟩
 refine oE (stpU_alloc 2 tz34 rfl) rfl ?_
 rintro _ _ ⟨b3, rfl, rfl⟩
 obtain ⟨x4, e4, H0⟩ := bS H0
 refine oS rfl (nn (cw_seq (sr (oB2 0 ts34 rfl (oE (stpU_call (fun i => 3 + i) cf74 (fun w hw => c_i_TableValid fl w a0 rfl (RO.pass hr0_0 hw) rfl (RO.pass hr0_1 hw) (RO.pass hg hw) x4 e4) (yA rfl)) rfl ?_)))))
 rintro _ _ ⟨_, ⟨rfl, rfl⟩, rfl⟩
 obtain ⟨y5, ey5, H0⟩ := bS H0
 refine oK rfl (oM rfl (ow_cutY 4 18 y5 ?_ ?_))
 ·rcases Bool.eq_false_or_eq_true (!x4) with hy5 | hy5
  ·have ey5 := cond_t ey5 hy5
   refine oO rfl hy5 rfl (oO rfl hy5 rfl (oO rfl hy5 rfl (oD (stp_pick_t rfl hy5 rfl) rfl ?_)))
   obtain rfl := sI ey5
   exact ow_nil (jy 4 0)
  have ey5 := cond_f ey5 hy5
  obtain ⟨x6, e6, ey5⟩ := bS ey5
  refine oG rfl hy5 (stp_loadN (us := [_, _]) ts41 rfl (Cells.box (id := 1) rfl 2 rfl)) rfl (ow_eff (.some rfl hy5) (stpU_call (fun i => 3 + i) cf46 (fun w hw => c_i_KeyValid fl w a1 x6 e6) (yA rfl)) rfl ?_)
  rintro _ _ ⟨_, ⟨rfl, rfl⟩, rfl⟩
  refine oG rfl hy5 (stp_not rfl) rfl (oD (stp_pick_f rfl hy5 rfl) rfl ?_)
  obtain rfl := sI ey5
  exact ow_nil (jy 4 0)
 obtain ⟨y7, ey7, H0⟩ := bS H0
 refine oM rfl (ow_cutY 5 24 y7 ?_ ?_)
 ·rcases Bool.eq_false_or_eq_true y5 with hy7 | hy7
  ·have ey7 := cond_t ey7 hy7
   refine oO rfl hy7 rfl (oO rfl hy7 rfl (oO rfl hy7 rfl (oO rfl hy7 rfl (oD (stp_pick_t rfl hy7 rfl) rfl ?_))))
   obtain rfl := sI ey7
   exact ow_nil (jy 5 0)
  have ey7 := cond_f ey7 hy7
  obtain ⟨x8, e8, ey7⟩ := bS ey7
  refine oG rfl hy7 (stp_loadN (us := [_, _]) ts34 rfl (Cells.box (id := 0) rfl 2 rfl)) rfl (oG rfl hy7 (stp_loadN (us := [_, _]) ts41 rfl (Cells.box (id := 1) rfl 2 rfl)) rfl (ow_eff (.some rfl hy7) (stpU_call (fun i => 3 + i) cf49 (fun w hw => c_i_Table_find fl w a0 a1 rfl (RO.pass hr0_0 hw) rfl (RO.pass hr0_1 hw) x8 e8) (yB rfl rfl)) rfl ?_))
  rintro _ _ ⟨_, ⟨rfl, rfl⟩, rfl⟩
  refine oG rfl hy7 (stp_geq rfl rfl) rfl (oD (stp_pick_f rfl hy7 rfl) rfl ?_)
  obtain rfl := sI ey7
  exact ow_nil (jy 5 0)
 obtain ⟨y9, ey9, H0⟩ := bS H0
 refine oM rfl (ow_cutY 7 32 y9 ?_ ?_)
 ·rcases Bool.eq_false_or_eq_true y7 with hy9 | hy9
  ·have ey9 := cond_t ey9 hy9
   refine oO rfl hy9 rfl (oO rfl hy9 rfl (oO rfl hy9 rfl (oO rfl hy9 rfl (oO rfl hy9 rfl (oO rfl hy9 rfl (oD (stp_pick_t rfl hy9 rfl) rfl ?_))))))
   obtain rfl := sI ey9
   exact ow_nil (jy 7 0)
  have ey9 := cond_f ey9 hy9
  obtain ⟨x10, e10, ey9⟩ := bS ey9
  refine oG rfl hy9 (mv rfl) rfl (oG rfl hy9 (fA 1 Tryd.underlying34 rfl ts32 rfl rfl rfl) rfl (oG rfl hy9 (lB 0 ts32 rfl rfl rfl) rfl (oG rfl hy9 (stp_len Tryd.underlying32 rfl) rfl (ow_eff (.some rfl hy9) (stpU_call (fun i => 3 + i) cf76 (fun w hw => c_i_within fl w a2 ((a0.f).length : Int) x10 e10) (yB rfl rfl)) rfl ?_))))
  rintro _ _ ⟨_, ⟨rfl, rfl⟩, rfl⟩
  refine oG rfl hy9 (stp_not rfl) rfl (oD (stp_pick_f rfl hy9 rfl) rfl ?_)
  obtain rfl := sI ey9
  exact ow_nil (jy 7 0)
 obtain ⟨y11, ey11, H0⟩ := bS H0
 refine oM rfl (ow_cutY 7 40 y11 ?_ ?_)
 ·rcases Bool.eq_false_or_eq_true y9 with hy11 | hy11
  ·have ey11 := cond_t ey11 hy11
   refine oO rfl hy11 rfl (oO rfl hy11 rfl (oO rfl hy11 rfl (oO rfl hy11 rfl (oO rfl hy11 rfl (oO rfl hy11 rfl (oD (stp_pick_t rfl hy11 rfl) rfl ?_))))))
   obtain rfl := sI ey11
   exact ow_nil (jy 7 0)
  have ey11 := cond_f ey11 hy11
  obtain ⟨x12, e12, ey11⟩ := bS ey11
  refine oG rfl hy11 (fA 1 Tryd.underlying34 rfl ts32 rfl rfl rfl) rfl (oG rfl hy11 (lB 0 ts32 rfl rfl rfl) rfl (oG rfl hy11 (mv rfl) rfl (oG rfl hy11 (stp_indexAddr Tryd.underlying32 ts71 (by decide) rfl rfl rfl (Rdb.ro hr0_1) e12) rfl (oG rfl hy11 (fA 0 Tryd.underlying71 rfl ts4 rfl rfl rfl) rfl (oG rfl hy11 (stp_load1 ts4 rfl (Cells.el (Rdb.ro hr0_1) (by decide) e12 0 1 rfl)) rfl (oD (stp_pick_f rfl hy11 rfl) rfl ?_))))))
  obtain rfl := sI ey11
  exact ow_nil (jy 7 0)
 obtain ⟨y13, ey13, H0⟩ := bS H0
 refine oM rfl (ow_cutY 4 45 y13 ?_ ?_)
 ·rcases Bool.eq_false_or_eq_true y11 with hy13 | hy13
  ·have ey13 := cond_t ey13 hy13
   refine oO rfl hy13 rfl (oO rfl hy13 rfl (oO rfl hy13 rfl (oD (stp_pick_t rfl hy13 rfl) rfl ?_)))
   obtain rfl := sI ey13
   exact ow_nil (jy 4 0)
  have ey13 := cond_f ey13 hy13
  obtain ⟨x14, e14, ey13⟩ := bS ey13
  refine oG rfl hy13 (mv rfl) rfl (ow_eff (.some rfl hy13) (stpU_call (fun i => 3 + i) cf113 (fun w hw => c_i_RightsValid fl w a3 x14 e14) (yA rfl)) rfl ?_)
  rintro _ _ ⟨_, ⟨rfl, rfl⟩, rfl⟩
  refine oG rfl hy13 (stp_not rfl) rfl (oD (stp_pick_f rfl hy13 rfl) rfl ?_)
  obtain rfl := sI ey13
  exact ow_nil (jy 4 0)
 refine ow_nil (kw_nx (cw_cond rfl (fun h15 => ?_) (fun h15 => ?_)))
 ·have H0 := cond_t H0 h15
  refine sr (oD (stp_build (cs := #[.slice none 0 0, .slice none 0 0]) sevp_nil bt34_6) rfl (oC2 2 ts34 rfl rfl (oS rfl (nn (cw_ret (kw_nx_ret (kw_addNil 3 (kw_addNil 4 ?_))))))))
  obtain rfl := sI H0
  exact kr Tryd.results65 (.cons (.cellN (us := [_, _]) ts34 rfl (Cells.box (id := 2) rfl 2 rfl)) (rT rfl)) [3, 4] ⟨_, _, _, _, _, _, _, _, rfl, rfl, rfl, (OwnC.nil _ _), rfl, (OwnC.nil _ _)⟩
 have H0 := cond_f H0 h15
 obtain ⟨x16, e16, H0⟩ := bS H0
 refine cw_skip (kw_nx (sr (oB2 0 ts34 rfl (oE (stpU_call (fun i => 5 + i) cf95 (fun w hw => c_i_Table_clone fl w a0 rfl (RO.pass hr0_0 hw) rfl (RO.pass hr0_1 hw) x16 e16) (yA rfl)) rfl ?_))))
 rintro _ _ ⟨_, ⟨p17, _, c19, C20, p21, _, c23, C24, rfl, rfl, rfl, o20, rfl, o24⟩, rfl⟩
 refine oE (stpU_alloc 7 tz34 rfl) rfl ?_
 rintro _ _ ⟨b25, rfl, rfl⟩
 obtain ⟨x26, e26, H0⟩ := bS H0
 refine oC2 7 ts34 rfl rfl (nn (sr (oB2 7 ts34 rfl (oB2 1 ts41 rfl (oM rfl (oM rfl (oE (stpU_callM (fun i => bif Nat.beq i 0 then 5 else bif Nat.beq i 1 then 6 else 8 + i) cf114 (fun w hw hb => c_i_Table_link fl w x16 a1 a2 a3 rfl o20 rfl o24 (hw.pass (js := [5, 6]) ⟨5, [6], rfl, rfl, 6, [], rfl, rfl, trivial⟩ (by decide)) x26 e26) (yD rfl rfl rfl rfl) ⟨rfl, (fun _ _ hp => by obtain ⟨_, _, _, rfl, _⟩ := hp; exact ⟨_, rfl⟩), rfl, (fun _ _ hp => by obtain ⟨_, _, _, rfl, _⟩ := hp; exact ⟨_, rfl⟩), trivial⟩) rfl ?_)))))))
 rintro _ _ ⟨_, ⟨C27, C28, rfl, rfl, hl27, o27, hl28, o28⟩, rfl⟩
 refine nn (sr (oB2 7 ts34 rfl (oC2 2 ts34 rfl rfl (oS rfl (nn (cw_ret ?_))))))
 obtain rfl := sI H0
 exact kr Tryd.results65 (.cons (.cellN (us := [_, _]) ts34 rfl (Cells.box (id := 2) rfl 2 rfl)) (rT rfl)) [5, 6] ⟨_, _, _, _, _, _, _, _, rfl, rfl, (by simp [hl27]), o27, (by simp [hl28]), o28⟩

theorem c_i_MapSystem (fl : Nat) (w : World) (a0 : Sy) (a1 : K) (a2 : Int) (a3 : Int) (hn0_0 : n0_0 = (a0.t.b).length) (hr0_0 : RO w (hkeys []) (RdL p0_0 c0_0 a0.t.b)) (hn0_1 : n0_1 = (a0.t.f).length) (hr0_1 : RO w (hkeys []) (RdL p0_1 c0_1 a0.t.f)) (hn0_2 : n0_2 = (a0.c).length) (hr0_2 : ROD w (hkeys []) p0_2 c0_2 a0.c) (hg : RO w (hkeys []) (fun w' => w'.rangeAt 0 0 [.bool false, .int .i64 0, .int .i64 0, .int .i64 0, .int .i64 (-1)])) (r : Sy × Bool) (H0 : i_MapSystem fl a0 a1 a2 a3 = some r) :
  Ct Tryd.prog 19 [.agg #[.slice p0_0 n0_0 c0_0, .slice p0_1 n0_1 c0_1, .slice p0_2 n0_2 c0_2], .agg #[.int .i64 a1.s, .int .i64 a1.p], .int .i64 a2, .int .i64 a3] w [] (fun rv h' => ∃ (x0 : Option Addr) (y0 z0 : Nat) (C0 : Res) (x1 : Option Addr) (y1 z1 : Nat) (C1 : Res) (x2 : Option Addr) (y2 z2 : Nat) (C2 : Res), rv = .tuple #[.agg #[.slice x0 y0 z0, .slice x1 y1 z1, .slice x2 y2 z2], .bool r.2] ∧ h' = [(0, C0), (1, C1), (2, C2)] ∧ y0 = (r.1.t.b).length ∧ OwnC 3 x0 z0 r.1.t.b C0 ∧ y1 = (r.1.t.f).length ∧ OwnC 71 x1 z1 r.1.t.f C1 ∧ y2 = (r.1.c).length ∧ OwnD 53 55 x2 z2 r.1.c C2) := by
 subst hn0_0 hn0_1 hn0_2
 unfold i_MapSystem at H0
 refine ct_of_cw Tryd.func19 rfl Tryd.ntmps19 rfl (Sat.refl _ _) ?_
 refine sr (oE (stpU_box 0 rfl rfl) rfl ?_)
 rintro _ _ ⟨b1, rfl, rfl⟩
 refine oE (stpU_box 1 rfl rfl) rfl ?_
 rintro _ _ ⟨b2, rfl, rfl⟩
 refine oE (stpU_box 2 rfl rfl) rfl ?_
 rintro _ _ ⟨b3, rfl, rfl⟩
 refine oE (stpU_alloc 3 tz37 rfl) rfl ?_
 rintro _ _ ⟨b4, rfl, rfl⟩
 obtain ⟨x5, e5, H0⟩ := bS H0
 refine oS rfl (nn (cw_seq (sr (oB3 0 ts37 rfl (oE (stpU_call (fun i => 4 + i) cf23 (fun w hw => c_i_SystemValid fl w a0 rfl (RO.pass hr0_0 hw) rfl (RO.pass hr0_1 hw) rfl (ROD.pass hr0_2 hw) (RO.pass hg hw) x5 e5) (yA rfl)) rfl ?_)))))
 rintro _ _ ⟨_, ⟨rfl, rfl⟩, rfl⟩
 refine oK rfl (nn (cw_cond rfl (fun h6 => ?_) (fun h6 => ?_)))
 ·have H0 := cond_t H0 h6
  refine sr (oD (stp_build (cs := #[.slice none 0 0, .slice none 0 0, .slice none 0 0]) sevp_nil bt37_0) rfl (oC3 3 ts37 rfl rfl (oS rfl (nn (cw_ret (kw_nx_ret (kw_addNil 4 (kw_addNil 5 (kw_addNil 6 ?_)))))))))
  obtain rfl := sI H0
  exact kr Tryd.results19 (.cons (.cellN (us := [_, _, _]) ts37 rfl (Cells.box (id := 3) rfl 3 rfl)) (rT rfl)) [4, 5, 6] ⟨_, _, _, _, _, _, _, _, _, _, _, _, rfl, rfl, rfl, (OwnC.nil _ _), rfl, (OwnC.nil _ _), rfl, (OwnD.nil _ _ _)⟩
 have H0 := cond_f H0 h6
 obtain ⟨o0_0, eo0_0, H0⟩ := bS H0
 refine cw_skip (kw_nx (cw_seq (sr (oA 2 Tryd.underlying37 rfl ts35 rfl (oL 0 ts35 rfl (oD (stp_len Tryd.underlying35 rfl) rfl (oM rfl (nn (cw_join (ι := Int) (fun | v7 => o0_0 = .out v7) (fun | v7 => [(3, .int .i64 a3), (4, .pointer (some ⟨b1, 0, none⟩)), (5, .pointer (some ⟨b2, 0, none⟩)), (6, .pointer (some ⟨b3, 0, none⟩)), (8, .pointer (some ⟨b4, 0, none⟩)), (20, .slice p0_2 ((a0.c).length) c0_2), (21, .int .i64 ((a0.c).length : Int)), (22, .int .i64 v7)]) (fun | v7 => [(0, [(b1, .cells #[.slice p0_0 ((a0.t.b).length) c0_0, .slice p0_1 ((a0.t.f).length) c0_1, .slice p0_2 ((a0.c).length) c0_2] 37 (0, 0))]), (1, [(b2, .cells #[.int .i64 a1.s, .int .i64 a1.p] 41 (0, 0))]), (2, [(b3, .cells #[.int .i64 a2] 3 (0, 0))]), (3, [(b4, .cells #[.slice none 0 0, .slice none 0 0, .slice none 0 0] 37 (0, 0))])]) ?_ ?_)))))))))
 ·refine cw_block (cw_loopS (ι := Nat × Int) (js := [0, 1, 2, 3]) (fun x => x.1) (fun | (fuel, v7) => i_MapSystem_L0 fl a0 a1 a2 fuel v7 = some o0_0) (fun | (_, v7) => [(3, .int .i64 a3), (4, .pointer (some ⟨b1, 0, none⟩)), (5, .pointer (some ⟨b2, 0, none⟩)), (6, .pointer (some ⟨b3, 0, none⟩)), (8, .pointer (some ⟨b4, 0, none⟩)), (20, .slice p0_2 ((a0.c).length) c0_2), (21, .int .i64 ((a0.c).length : Int)), (22, .int .i64 v7)]) (fun | (_, v7) => [(0, [(b1, .cells #[.slice p0_0 ((a0.t.b).length) c0_0, .slice p0_1 ((a0.t.f).length) c0_1, .slice p0_2 ((a0.c).length) c0_2] 37 (0, 0))]), (1, [(b2, .cells #[.int .i64 a1.s, .int .i64 a1.p] 41 (0, 0))]), (2, [(b3, .cells #[.int .i64 a2] 3 (0, 0))]), (3, [(b4, .cells #[.slice none 0 0, .slice none 0 0, .slice none 0 0] 37 (0, 0))])]) (fl, 0) eo0_0 ⟨rfl, rfl, rfl, rfl, rfl, rfl, rfl, rfl, trivial⟩ ⟨0, [1, 2, 3], rfl, rfl, 1, [2, 3], rfl, rfl, 2, [3], rfl, rfl, 3, [], rfl, rfl, trivial⟩ (by decide) ?_)
  rintro ⟨fuel, v7⟩ H1
  have H1 : i_MapSystem_L0 fl a0 a1 a2 fuel v7 = some o0_0 := H1
  rcases fuel with _ | fuel
  ·rw [i_MapSystem_L0.eq_1] at H1; cases H1
  rw [i_MapSystem_L0.eq_2] at H1
  dsimp only
  refine sr (oW rfl (nn (cw_seq (cw_cond rfl (fun h8 => ?_) (fun h8 => ?_)))))
  ·have H1 := cond_t H1 h8
   obtain ⟨x9, e9, H1⟩ := bS H1
   refine cw_skip (kw_nx (cw_seq (cw_block (sr ?_))))
   obtain ⟨u10, p11, n12, c13, p14, n15, c16, hw10, hl10, hx10, rfl, hr10, rfl, hs10⟩ := ROD.get hr0_2 e9
   refine oD (stp_indexAddr Tryd.underlying35 ts53 (by decide) rfl hl10 rfl (Rdb.ro hw10) hx10) rfl (oD (stp_loadN (us := [_, _]) ts53 rfl (Cells.el (Rdb.ro hw10) (by decide) hx10 0 2 rfl)) rfl (oE (stpU_alloc 7 tz53 rfl) rfl ?_))
   rintro _ _ ⟨b17, rfl, rfl⟩
   obtain ⟨x18, e18, H1⟩ := bS H1
   refine oC2 7 ts53 rfl rfl (nn (sr (oA 1 Tryd.underlying53 rfl ts51 rfl (oL 7 ts51 rfl (oD (stp_makeFunc (yB rfl rfl)) rfl (oE (stpU_call (fun i => 8 + i) cf63 (fun w hw => c_slices_ContainsFunc_Note_of_i_MapSystem_1 fl w x9.w b3 a2 b2 a1 rfl (RO.pass hs10 hw) (box_pass (id := 2) rfl hw) (box_pass (id := 1) rfl hw) x18 e18) (yB rfl rfl)) rfl ?_))))))
   rintro _ _ ⟨_, ⟨rfl, rfl⟩, rfl⟩
   refine nn (cw_cond rfl (fun h19 => ?_) (fun h19 => ?_))
   ·have H1 := cond_t H1 h19
    refine sr (oD (stp_build (cs := #[.slice none 0 0, .slice none 0 0, .slice none 0 0]) sevp_nil bt37_0) rfl (oC3 3 ts37 rfl rfl (oS rfl (nn (cw_ret (kw_bl_ret (kw_nx_ret (kw_lq_ret (kw_bl_ret (kw_join_ret (kw_nx_ret (kw_addNil 8 (kw_addNil 9 ?_)))))))))))))
    refine kw_addNil 10 ?_
    obtain rfl := sI H1
    obtain rfl := sI H0
    exact kr Tryd.results19 (.cons (.cellN (us := [_, _, _]) ts37 rfl (Cells.box (id := 3) rfl 3 rfl)) (rT rfl)) [8, 9, 10] ⟨_, _, _, _, _, _, _, _, _, _, _, _, rfl, rfl, rfl, (OwnC.nil _ _), rfl, (OwnC.nil _ _), rfl, (OwnD.nil _ _ _)⟩
   have H1 := cond_f H1 h19
   obtain ⟨x20, e20, H1⟩ := bS H1
   exact cw_skip (kw_bl_normal (kw_nx (cw_region (oP e20 rfl (oM rfl (ow_nil (kw_lqS (js := [0, 1, 2, 3]) (fuel, x20) H1 (Nat.lt_succ_self _) ⟨rfl, rfl, rfl, rfl, rfl, rfl, rfl, rfl, trivial⟩ ⟨0, [1, 2, 3], rfl, rfl, 1, [2, 3], rfl, rfl, 2, [3], rfl, rfl, 3, [], rfl, rfl, trivial⟩ (by decide))))))))
  have H1 := cond_f H1 h8
  refine cw_exit (kw_nx_exit (kw_lq_exit (kw_bl ?_)))
  obtain rfl := sI H1
  exact kw_joinS (js := [0, 1, 2, 3]) v7 rfl ⟨rfl, rfl, rfl, rfl, rfl, rfl, rfl, rfl, trivial⟩ ⟨0, [1, 2, 3], rfl, rfl, 1, [2, 3], rfl, rfl, 2, [3], rfl, rfl, 3, [], rfl, rfl, trivial⟩ (by decide)
 rintro v7 rfl
 dsimp only
 obtain ⟨x21, e21, H0⟩ := bS H0
 refine kw_nx (sr (oA 0 Tryd.underlying37 rfl ts34 rfl (oB2 0 ts34 rfl (oB2 1 ts41 rfl (oL 2 ts3 rfl (oM rfl (oE (stpU_call (fun i => 11 + i) cf65 (fun w hw => c_i_MapPage fl w a0.t a1 a2 a3 rfl (RO.pass hr0_0 hw) rfl (RO.pass hr0_1 hw) (RO.pass hg hw) x21 e21) (yD rfl rfl rfl rfl)) rfl ?_)))))))
 rintro _ _ ⟨_, ⟨p22, _, c24, C25, p26, _, c28, C29, rfl, rfl, rfl, o25, rfl, o29⟩, rfl⟩
 refine oM rfl (oT rfl (oT rfl (oE (stpU_alloc 13 tz34 rfl) rfl ?_)))
 rintro _ _ ⟨b30, rfl, rfl⟩
 refine oC2 13 ts34 rfl rfl (oS rfl (nn (cw_seq (sr (oM rfl (oK rfl (nn (cw_cond rfl (fun h31 => ?_) (fun h31 => ?_)))))))))
 ·have H0 := cond_t H0 h31
  refine sr (oD (stp_build (cs := #[.slice none 0 0, .slice none 0 0, .slice none 0 0]) sevp_nil bt37_0) rfl (oC3 3 ts37 rfl rfl (oS rfl (nn (cw_ret (kw_nx_ret (kw_addNil 14 (kw_addNil 15 (kw_addNil 16 ?_)))))))))
  obtain rfl := sI H0
  exact kr Tryd.results19 (.cons (.cellN (us := [_, _, _]) ts37 rfl (Cells.box (id := 3) rfl 3 rfl)) (rT rfl)) [14, 15, 16] ⟨_, _, _, _, _, _, _, _, _, _, _, _, rfl, rfl, rfl, (OwnC.nil _ _), rfl, (OwnC.nil _ _), rfl, (OwnD.nil _ _ _)⟩
 have H0 := cond_f H0 h31
 obtain ⟨x32, e32, H0⟩ := bS H0
 refine cw_skip (kw_nx (sr (oB3 0 ts37 rfl (oE (stpU_call (fun i => 17 + i) cf47 (fun w hw => c_i_System_clone fl w a0 rfl (RO.pass hr0_0 hw) rfl (RO.pass hr0_1 hw) rfl (ROD.pass hr0_2 hw) x32 e32) (yA rfl)) rfl ?_))))
 rintro _ _ ⟨_, ⟨p33, _, c35, C36, p37, _, c39, C40, p41, _, c43, C44, rfl, rfl, rfl, o36, rfl, o40, rfl, o44⟩, rfl⟩
 refine oE (stpU_alloc 20 tz37 rfl) rfl ?_
 rintro _ _ ⟨b45, rfl, rfl⟩
 refine oC3 20 ts37 rfl rfl (nn (sr (oB2 13 ts34 rfl (oA 0 Tryd.underlying37 rfl ts34 rfl (oC3 20 ts34 rfl rfl (nn (sr (oB3 20 ts37 rfl (oC3 3 ts37 rfl rfl (oS rfl (nn (cw_ret ?_))))))))))))
 obtain rfl := sI H0
 exact kr Tryd.results19 (.cons (.cellN (us := [_, _, _]) ts37 rfl (Cells.box (id := 3) rfl 3 rfl)) (rT rfl)) [11, 12, 19] ⟨_, _, _, _, _, _, _, _, _, _, _, _, rfl, rfl, rfl, o25, rfl, o29, rfl, o44⟩
end Go.Proofs.YtfnliecmagnkdabDoor
