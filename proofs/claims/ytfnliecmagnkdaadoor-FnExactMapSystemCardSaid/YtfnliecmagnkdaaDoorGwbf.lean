/- The walks: functions of the program return what their pure functions say. Printed by a program (gen.py). -/
import Derived.Test.YtfnliecmagnkdaaDoorGp
import Derived.Test.YtfnliecmagnkdaaDoorGt
import Derived.Test.YtfnliecmagnkdaaDoorMan
import Derived.Test.YtfnliecmagnkdaaDoorMap
import Derived.Test.YtfnliecmagnkdaaDoorCpy
import Derived.Test.YtfnliecmagnkdaaDoorClr
import Derived.Test.YtfnliecmagnkdaaDoorDp
import Derived.Test.YtfnliecmagnkdaaDoorSrt
import Derived.Test.YtfnliecmagnkdaaDoorE8
import Derived.Test.YtfnliecmagnkdaaDoorGwaa
import Derived.Test.YtfnliecmagnkdaaDoorGwac
import Derived.Test.YtfnliecmagnkdaaDoorGwag
import Derived.Test.YtfnliecmagnkdaaDoorGwal
import Derived.Test.YtfnliecmagnkdaaDoorGwaq
import Derived.Test.YtfnliecmagnkdaaDoorGwbb
set_option linter.unusedSimpArgs false
set_option linter.unusedVariables false
set_option linter.unusedSectionVars false
namespace Go.Proofs.YtfnliecmagnkdaaDoor
open Go.RowKit
set_option maxHeartbeats 4000000
set_option maxRecDepth 20000
variable {p0_0 p0_1 p0_2 : Option Addr} {n0_0 n0_1 n0_2 : Nat} {c0_0 c0_1 c0_2 : Nat} {C0_0 C0_1 : Res}
theorem c_i_MapSystem_1 (fl : Nat) (w : World) (a0 : Nt) (qc0 : Nat) (ac0 : Int) (qc1 : Nat) (ac1 : K) (hbac0 : RO w (hkeys []) (fun w' => w'.rangeAt qc0 0 [.int .i64 ac0])) (hbac1 : RO w (hkeys []) (fun w' => w'.rangeAt qc1 0 [.int .i64 ac1.s, .int .i64 ac1.p])) (r : Bool) (H0 : i_MapSystem_1 fl a0 ac0 ac1 = some r) :
  Ct Tryd.prog 97 [.agg #[.int .i64 a0.k.s, .int .i64 a0.k.p, .int .i64 a0.fr], .pointer (some ⟨qc0, 0, none⟩), .pointer (some ⟨qc1, 0, none⟩)] w [] (fun rv h' => rv = .bool r ∧ h' = []) := by
 unfold i_MapSystem_1 at H0
 refine ct_of_cw Tryd.func97 rfl Tryd.ntmps97 rfl (Sat.refl _ _) ?_
 refine sr (oE (stpU_box 0 rfl rfl) rfl ?_)
 rintro _ _ ⟨b1, rfl, rfl⟩
 obtain ⟨y2, ey2, H0⟩ := bS H0
 refine oS rfl (nn (sr (oA 2 Tryd.underlying48 rfl ts3 rfl (oL 0 ts3 rfl (oD (stp_load1 ts3 rfl (Cells.ofRO hbac0 1 rfl)) rfl (oQ rfl (oM rfl (ow_cutY 5 14 y2 ?_ ?_))))))))
 ·rcases Bool.eq_false_or_eq_true (a0.fr == ac0) with hy2 | hy2
  ·have ey2 := cond_t ey2 hy2
   refine oO rfl hy2 rfl (oO rfl hy2 rfl (oO rfl hy2 rfl (oO rfl hy2 rfl (oD (stp_pick_t rfl hy2 rfl) rfl ?_))))
   obtain rfl := sI ey2
   exact ow_nil (jy 5 0)
  have ey2 := cond_f ey2 hy2
  refine oG rfl hy2 (fA 0 Tryd.underlying48 rfl ts46 rfl rfl rfl) rfl (oG rfl hy2 (stp_loadN (us := [_, _]) ts46 rfl (Cells.box (id := 0) rfl 2 rfl)) rfl (oG rfl hy2 (stp_loadN (us := [_, _]) ts46 rfl (Cells.ofRO hbac1 2 rfl)) rfl (oG rfl hy2 (stp_eqlS te46 a0.k ac1 rfl rfl) rfl (oD (stp_pick_f rfl hy2 rfl) rfl ?_))))
  obtain rfl := sI ey2
  exact ow_nil (jy 5 0)
 refine oS rfl (nn (cw_ret ?_))
 obtain rfl := sI H0
 exact kr Tryd.results97 (rT rfl) [] ⟨rfl, rfl⟩

theorem c_slices_IndexFunc_Note_of_i_MapSystem_1 (fl : Nat) (w : World) (a0 : (List Nt)) (q1_0 : Nat) (a1_0 : Int) (q1_1 : Nat) (a1_1 : K) (hn0_0 : n0_0 = (a0).length) (hr0_0 : RO w (hkeys []) (RdL p0_0 c0_0 a0)) (hba1_0 : RO w (hkeys []) (fun w' => w'.rangeAt q1_0 0 [.int .i64 a1_0])) (hba1_1 : RO w (hkeys []) (fun w' => w'.rangeAt q1_1 0 [.int .i64 a1_1.s, .int .i64 a1_1.p])) (r : Int) (H0 : slices_IndexFunc_Note_of_i_MapSystem_1 fl a0 a1_0 a1_1 = some r) :
  Ct Tryd.prog 113 [.slice p0_0 n0_0 c0_0, .func (.func 97) #[] #[.pointer (some ⟨q1_0, 0, none⟩), .pointer (some ⟨q1_1, 0, none⟩)]] w [] (fun rv h' => rv = .int .i64 r ∧ h' = []) := by
 subst hn0_0
 unfold slices_IndexFunc_Note_of_i_MapSystem_1 at H0
 refine ct_of_cw Tryd.func113 rfl Tryd.ntmps113 rfl (Sat.refl _ _) ?_
 obtain ⟨o0_0, eo0_0, H0⟩ := bS H0
 refine sr (oS rfl (nn (cw_seq (sr (oM rfl (oD (stp_len Tryd.underlying42 rfl) rfl (oM rfl (nn (cw_join (ι := Int) (fun | v1 => o0_0 = .out v1) (fun | v1 => [(0, .slice p0_0 ((a0).length) c0_0), (1, .func (.func 97) #[] #[.pointer (some ⟨q1_0, 0, none⟩), .pointer (some ⟨q1_1, 0, none⟩)]), (7, .int .i64 ((a0).length : Int)), (8, .int .i64 v1)]) (fun | v1 => []) ?_ ?_)))))))))
 ·refine cw_block (cw_loopS (ι := Nat × Int) (js := []) (fun x => x.1) (fun | (fuel, v1) => slices_IndexFunc_Note_of_i_MapSystem_1_L0 fl a0 a1_0 a1_1 fuel v1 = some o0_0) (fun | (_, v1) => [(0, .slice p0_0 ((a0).length) c0_0), (1, .func (.func 97) #[] #[.pointer (some ⟨q1_0, 0, none⟩), .pointer (some ⟨q1_1, 0, none⟩)]), (7, .int .i64 ((a0).length : Int)), (8, .int .i64 v1)]) (fun | (_, v1) => []) (fl, 0) eo0_0 ⟨rfl, rfl, rfl, rfl, trivial⟩ trivial (by decide) ?_)
  rintro ⟨fuel, v1⟩ H1
  have H1 : slices_IndexFunc_Note_of_i_MapSystem_1_L0 fl a0 a1_0 a1_1 fuel v1 = some o0_0 := H1
  rcases fuel with _ | fuel
  ·rw [slices_IndexFunc_Note_of_i_MapSystem_1_L0.eq_1] at H1; cases H1
  rw [slices_IndexFunc_Note_of_i_MapSystem_1_L0.eq_2] at H1
  dsimp only
  refine sr (oW rfl (nn (cw_seq (cw_cond rfl (fun h2 => ?_) (fun h2 => ?_)))))
  ·have H1 := cond_t H1 h2
   obtain ⟨x3, e3, H1⟩ := bS H1
   refine cw_skip (kw_nx (cw_seq (cw_block (sr (oM rfl (oS rfl (nn (sr (oM rfl (oM rfl (oM rfl (oD (stp_indexAddr Tryd.underlying42 ts48 (by decide) rfl rfl rfl (Rdb.ro hr0_0) e3) rfl (oD (stp_loadN (us := [_, _, _]) ts48 rfl (Cells.el (Rdb.ro hr0_0) (by decide) e3 0 3 rfl)) rfl ?_)))))))))))))
   obtain ⟨x4, e4, H1⟩ := bS H1
   refine oE (stpU_callF (vals := [_]) (ca := [_, _]) (fun i => 0 + i) cf97 (fun w hw => c_i_MapSystem_1 fl w x3 q1_0 a1_0 q1_1 a1_1 (RO.pass hba1_0 hw) (RO.pass hba1_1 hw) x4 e4) rfl (yA rfl)) rfl ?_
   rintro _ _ ⟨_, ⟨rfl, rfl⟩, rfl⟩
   refine nn (cw_cond rfl (fun h5 => ?_) (fun h5 => ?_))
   ·have H1 := cond_t H1 h5
    refine sr (oM rfl (oS rfl (nn (cw_ret (kw_bl_ret (kw_nx_ret (kw_lq_ret (kw_bl_ret (kw_join_ret (kw_nx_ret ?_))))))))))
    obtain rfl := sI H1
    obtain rfl := sI H0
    exact kr Tryd.results113 (rT rfl) [] ⟨rfl, rfl⟩
   have H1 := cond_f H1 h5
   obtain ⟨x6, e6, H1⟩ := bS H1
   exact cw_skip (kw_bl_normal (kw_nx (cw_region (oP e6 rfl (oM rfl (ow_nil (kw_lqS (js := []) (fuel, x6) H1 (Nat.lt_succ_self _) ⟨rfl, rfl, rfl, rfl, trivial⟩ trivial (by decide))))))))
  have H1 := cond_f H1 h2
  refine cw_exit (kw_nx_exit (kw_lq_exit (kw_bl ?_)))
  obtain rfl := sI H1
  exact kw_joinS (js := []) v1 rfl ⟨rfl, rfl, rfl, rfl, trivial⟩ trivial (by decide)
 rintro v1 rfl
 dsimp only
 refine kw_nx (sr (oS rfl (nn (cw_ret ?_))))
 obtain rfl := sI H0
 exact kr Tryd.results113 (rT rfl) [] ⟨rfl, rfl⟩

theorem c_slices_ContainsFunc_Note_of_i_MapSystem_1 (fl : Nat) (w : World) (a0 : (List Nt)) (q1_0 : Nat) (a1_0 : Int) (q1_1 : Nat) (a1_1 : K) (hn0_0 : n0_0 = (a0).length) (hr0_0 : RO w (hkeys []) (RdL p0_0 c0_0 a0)) (hba1_0 : RO w (hkeys []) (fun w' => w'.rangeAt q1_0 0 [.int .i64 a1_0])) (hba1_1 : RO w (hkeys []) (fun w' => w'.rangeAt q1_1 0 [.int .i64 a1_1.s, .int .i64 a1_1.p])) (r : Bool) (H0 : slices_ContainsFunc_Note_of_i_MapSystem_1 fl a0 a1_0 a1_1 = some r) :
  Ct Tryd.prog 96 [.slice p0_0 n0_0 c0_0, .func (.func 97) #[] #[.pointer (some ⟨q1_0, 0, none⟩), .pointer (some ⟨q1_1, 0, none⟩)]] w [] (fun rv h' => rv = .bool r ∧ h' = []) := by
 subst hn0_0
 unfold slices_ContainsFunc_Note_of_i_MapSystem_1 at H0
 refine ct_of_cw Tryd.func96 rfl Tryd.ntmps96 rfl (Sat.refl _ _) ?_
 obtain ⟨x1, e1, H0⟩ := bS H0
 refine sr (oS rfl (nn (sr (oM rfl (oM rfl (oE (stpU_call (fun i => 0 + i) cf113 (fun w hw => c_slices_IndexFunc_Note_of_i_MapSystem_1 fl w a0 q1_0 a1_0 q1_1 a1_1 rfl (RO.pass hr0_0 hw) (RO.pass hba1_0 hw) (RO.pass hba1_1 hw) x1 e1) (yB rfl rfl)) rfl ?_))))))
 rintro _ _ ⟨_, ⟨rfl, rfl⟩, rfl⟩
 refine oI rfl (oS rfl (nn (cw_ret ?_)))
 obtain rfl := sI H0
 exact kr Tryd.results96 (rT rfl) [] ⟨rfl, rfl⟩

theorem c_i_RightsValid (fl : Nat) (w : World) (a0 : Int) (r : Bool) (H0 : i_RightsValid fl a0 = some r) :
  Ct Tryd.prog 110 [.int .i64 a0] w [] (fun rv h' => rv = .bool r ∧ h' = []) := by
 unfold i_RightsValid at H0
 refine ct_of_cw Tryd.func110 rfl Tryd.ntmps110 rfl (Sat.refl _ _) ?_
 obtain ⟨x1, e1, H0⟩ := bS H0
 refine sr (oS rfl (nn (sr (oM rfl (oE (stpU_call (fun i => 0 + i) cf53 (fun w hw => c_i_within fl w a0 8 x1 e1) (yB rfl rfl)) rfl ?_)))))
 rintro _ _ ⟨_, ⟨rfl, rfl⟩, rfl⟩
 refine oS rfl (nn (cw_ret ?_))
 obtain rfl := sI H0
 exact kr Tryd.results110 (rT rfl) [] ⟨rfl, rfl⟩

theorem c_i_Table_link (fl : Nat) (w : World) (a0 : T) (a1 : K) (a2 : Int) (a3 : Int) (hn0_0 : n0_0 = (a0.b).length) (ho0_0 : OwnC 3 p0_0 c0_0 a0.b C0_0) (hn0_1 : n0_1 = (a0.f).length) (ho0_1 : OwnC 84 p0_1 c0_1 a0.f C0_1) (hM : Sat w (hkeys [(0, C0_0), (1, C0_1)]) w [(0, C0_0), (1, C0_1)]) (r : (List Int) × (List F)) (H0 : i_Table_link fl a0 a1 a2 a3 = some r) :
  Ct Tryd.prog 144 [.agg #[.slice p0_0 n0_0 c0_0, .slice p0_1 n0_1 c0_1], .agg #[.int .i64 a1.s, .int .i64 a1.p], .int .i64 a2, .int .i64 a3] w [(0, C0_0), (1, C0_1)] (fun rv h' => ∃ (D0 : Res) (D1 : Res), rv = .tuple #[] ∧ h' = [(0, D0), (1, D1)] ∧ n0_0 = (r.1).length ∧ OwnC 3 p0_0 c0_0 r.1 D0 ∧ n0_1 = (r.2).length ∧ OwnC 84 p0_1 c0_1 r.2 D1) := by
 subst hn0_0 hn0_1
 unfold i_Table_link at H0
 refine ct_of_cw Tryd.func144 rfl Tryd.ntmps144 rfl hM ?_
 refine sr (oE (stpU_box 2 rfl rfl) rfl ?_)
 rintro _ _ ⟨b1, rfl, rfl⟩
 refine oE (stpU_box 3 rfl rfl) rfl ?_
 rintro _ _ ⟨b2, rfl, rfl⟩
 obtain ⟨x3, e3, H0⟩ := bS H0
 refine nn (sr (oB2 3 ts46 rfl (oA 0 Tryd.underlying33 rfl ts22 rfl (oL 2 ts22 rfl (oD (stp_len Tryd.underlying22 rfl) rfl (oE (stpU_call (fun i => 4 + i) cf61 (fun w hw => c_i_hash fl w a1 ((a0.b).length : Int) x3 e3) (yB rfl rfl)) rfl ?_))))))
 rintro _ _ ⟨_, ⟨rfl, rfl⟩, rfl⟩
 obtain ⟨x4, e4, H0⟩ := bS H0
 obtain ⟨x5, e5, H0⟩ := bS H0
 refine oS rfl (nn (cw_seq (rdq g_mixed [2, 3, 4, 5, 8] [0, 1, 2, 3] { dst := dS [15, 16, 17, 18, 19, 20, 21, 22, 23, 24, 25, 26, 0], pre := gA [] [[], [0], [], [], [], [], [5], [], [5, 6, 7], rn 5 4, rn 3 7, rn 0 11, rn 0 12], ids := fun i => match i with | 12 => [1] | _ => [], rs := rL [[(4, 0)], [(14, 1)], [(2, 0)], [(5, 0)], [(3, 0)], [(4, 0)], [(19, 6)], [(8, 0)], [(20, 7), (21, 8)], [(22, 9)], [(17, 4), (18, 5), (23, 10)], [(15, 2), (16, 3)], [(25, 12), (24, 11)]], rh := rL [[], [(2, 0)], [], [(3, 0)], [], [], [(2, 0)], [], [(0, 0)], [(0, 0)], [], [(1, 0)], [(1, 0)]], V := fun i g => gA undef [.pointer (some ⟨b1, 1, none⟩), .slice p0_1 ((a0.f).length) c0_1, .int .i64 a2, .agg #[.int .i64 a1.s, .int .i64 a1.p], .int .i64 a3, .pointer (some ⟨b1, 0, none⟩), .slice p0_0 ((a0.b).length) c0_0, .int .i64 x3, .pointer (some ⟨eB p0_0, eO p0_0 + Int.toNat x3 * Enc.sz Int + 0, none⟩), .int .i64 x4, .agg #[.bool true, .int .i64 a1.s, .int .i64 a1.p, .int .i64 a3, .int .i64 x4], .pointer (some ⟨eB p0_1, eO p0_1 + Int.toNat a2 * Enc.sz F + 0, none⟩)] i, U := fun i g => match i with | 12 => [(1, ((g 12).R 0))] | _ => [], Φ := fun i x => match i with | 12 => OwnC (α := F) 84 p0_1 c0_1 (a0.f.set (Int.toNat a2) (⟨true, a1, a3, x4⟩ : F)) (x.R 0) | _ => True } ?_ ?_)))
 ·refine ⟨lc rfl rfl fun hs hh => stp_fieldAddr (j := 1) Tryd.underlying33 rfl ts31 rfl (sv hs 4 rfl) rfl, lc rfl rfl fun hs hh => stp_load1 ts31 (sv hs 14 rfl) (Cells.box (id := 2) (hh.get 2 _ rfl) 1 rfl), lM, lc rfl rfl fun hs hh => stp_loadN (us := [_, _]) ts46 (sv hs 5 rfl) (Cells.box (id := 3) (hh.get 3 _ rfl) 2 rfl), lM, lc rfl rfl fun hs hh => stp_fieldAddr (j := 0) Tryd.underlying33 rfl ts22 rfl (sv hs 4 rfl) rfl, lc rfl rfl fun hs hh => stp_load1 ts22 (sv hs 19 rfl) (Cells.box (id := 2) (hh.get 2 _ rfl) 1 rfl), lM, lc rfl rfl fun hs hh => stp_indexAddr Tryd.underlying22 ts3 (by decide) (sv hs 20 rfl) rfl (sv hs 21 rfl) (Rdb.own (id := 0) (hh.get 0 _ rfl) ho0_0) e4, lc rfl rfl fun hs hh => stp_load1 ts3 (sv hs 22 rfl) (Cells.el (Rdb.own (id := 0) (hh.get 0 _ rfl) ho0_0) (by decide) e4 0 1 rfl), lc rfl rfl fun hs hh => stp_build (cs := #[.bool true, .int .i64 a1.s, .int .i64 a1.p, .int .i64 a3, .int .i64 x4]) (sevp_cons rfl (sevp_cons (sv hs 17 rfl) (sevp_cons (sv hs 18 rfl) (sevp_cons (sv hs 23 rfl) sevp_nil)))) bt84_6, lc rfl rfl fun hs hh => stp_indexAddr Tryd.underlying31 ts84 (by decide) (sv hs 15 rfl) rfl (sv hs 16 rfl) (Rdb.own (id := 1) (hh.get 1 _ rfl) ho0_1) e5, ?_, trivial⟩
  refine le rfl rfl (fun g hΦ s h hs hh => (stpU_storeEl (id := 1) (i := 0) (⟨true, a1, a3, x4⟩ : F) (by decide) ts84 (sv hs 25 rfl) (sv hs 24 rfl) (hh.get 1 _ rfl) ho0_1 e5 rfl rfl rfl rfl)) ?_
  rintro g _ _ ⟨C6, rfl, o6⟩
  exact ⟨⟨[], [], [C6]⟩, o6, .inl rfl, rfl⟩
 intro g hΦ
 refine kw_gen (ι := Res) ((g 12).R 0) (fun | C6 => OwnC (α := F) 84 p0_1 c0_1 (a0.f.set (Int.toNat a2) (⟨true, a1, a3, x4⟩ : F)) C6) (fun | C6 => [(2, .int .i64 a2), (4, .pointer (some ⟨b1, 0, none⟩)), (8, .int .i64 x3)]) (fun | C6 => [(0, C0_0), (1, C6), (2, [(b1, .cells #[.slice p0_0 ((a0.b).length) c0_0, .slice p0_1 ((a0.f).length) c0_1] 33 (0, 0))])]) (hΦ 12 (by decide)) ⟨rfl, rfl, rfl, trivial⟩ ⟨rfl, rfl, rfl, trivial⟩ ?_
 rintro C6 o6
 have o6 : OwnC (α := F) 84 p0_1 c0_1 (a0.f.set (Int.toNat a2) (⟨true, a1, a3, x4⟩ : F)) C6 := o6
 dsimp only
 refine kw_nx (cw_region (oA 0 Tryd.underlying33 rfl ts22 rfl (oL 2 ts22 rfl (oM rfl (oM rfl (oD (stp_indexAddr Tryd.underlying22 ts3 (by decide) rfl rfl rfl (Rdb.own (id := 0) rfl ho0_0) e4) rfl (oF (stpU_storeEl (id := 0) (i := 0) a2 (by decide) ts3 rfl rfl rfl ho0_0 e4 rfl rfl rfl rfl) ?_)))))))
 rintro _ _ ⟨C7, rfl, o7⟩
 refine ow_nil ?_
 obtain rfl := sI H0
 exact ke Tryd.results144 .nil [0, 1] ⟨_, _, rfl, rfl, (by simp), o7, (by simp), o6⟩

theorem c_i_MapPage (fl : Nat) (w : World) (a0 : T) (a1 : K) (a2 : Int) (a3 : Int) (hn0_0 : n0_0 = (a0.b).length) (hr0_0 : RO w (hkeys []) (RdL p0_0 c0_0 a0.b)) (hn0_1 : n0_1 = (a0.f).length) (hr0_1 : RO w (hkeys []) (RdL p0_1 c0_1 a0.f)) (hg : RO w (hkeys []) (fun w' => w'.rangeAt 0 0 [.bool false, .int .i64 0, .int .i64 0, .int .i64 0, .int .i64 (-1)])) (r : T × Bool) (H0 : i_MapPage fl a0 a1 a2 a3 = some r) :
  Ct Tryd.prog 98 [.agg #[.slice p0_0 n0_0 c0_0, .slice p0_1 n0_1 c0_1], .agg #[.int .i64 a1.s, .int .i64 a1.p], .int .i64 a2, .int .i64 a3] w [] (fun rv h' => ∃ (x0 : Option Addr) (y0 z0 : Nat) (C0 : Res) (x1 : Option Addr) (y1 z1 : Nat) (C1 : Res), rv = .tuple #[.agg #[.slice x0 y0 z0, .slice x1 y1 z1], .bool r.2] ∧ h' = [(0, C0), (1, C1)] ∧ y0 = (r.1.b).length ∧ OwnC 3 x0 z0 r.1.b C0 ∧ y1 = (r.1.f).length ∧ OwnC 84 x1 z1 r.1.f C1) := by
 subst hn0_0 hn0_1
 unfold i_MapPage at H0
 refine ct_of_cw Tryd.func98 rfl Tryd.ntmps98 rfl (Sat.refl _ _) ?_
 refine sr (oE (stpU_box 0 rfl rfl) rfl ?_)
 rintro _ _ ⟨b1, rfl, rfl⟩
 refine oE (stpU_box 1 rfl rfl) rfl ?_
 rintro _ _ ⟨b2, rfl, rfl⟩
 refine oE (stpU_alloc 2 tz33 rfl) rfl ?_
 rintro _ _ ⟨b3, rfl, rfl⟩
 obtain ⟨x4, e4, H0⟩ := bS H0
 refine oS rfl (nn (cw_seq (sr (oB2 0 ts33 rfl (oE (stpU_call (fun i => 3 + i) cf49 (fun w hw => c_i_TableValid fl w a0 rfl (RO.pass hr0_0 hw) rfl (RO.pass hr0_1 hw) (RO.pass hg hw) x4 e4) (yA rfl)) rfl ?_)))))
 rintro _ _ ⟨_, ⟨rfl, rfl⟩, rfl⟩
 obtain ⟨y5, ey5, H0⟩ := bS H0
 refine oK rfl (oM rfl (ow_cutY 4 18 y5 ?_ ?_))
 ·rcases Bool.eq_false_or_eq_true (!x4) with hy5 | hy5
  ·have ey5 := cond_t ey5 hy5
   refine oO rfl hy5 rfl (oO rfl hy5 rfl (oO rfl hy5 rfl (oD (stp_pick_t rfl hy5 rfl) rfl ?_)))
   obtain rfl := sI ey5
   exact ow_nil (jy 4 0)
  have ey5 := cond_f ey5 hy5
  obtain ⟨x6, e6, ey5⟩ := bS ey5
  refine oG rfl hy5 (stp_loadN (us := [_, _]) ts46 rfl (Cells.box (id := 1) rfl 2 rfl)) rfl (ow_eff (.some rfl hy5) (stpU_call (fun i => 3 + i) cf59 (fun w hw => c_i_KeyValid fl w a1 x6 e6) (yA rfl)) rfl ?_)
  rintro _ _ ⟨_, ⟨rfl, rfl⟩, rfl⟩
  refine oG rfl hy5 (stp_not rfl) rfl (oD (stp_pick_f rfl hy5 rfl) rfl ?_)
  obtain rfl := sI ey5
  exact ow_nil (jy 4 0)
 obtain ⟨y7, ey7, H0⟩ := bS H0
 refine oM rfl (ow_cutY 5 24 y7 ?_ ?_)
 ·rcases Bool.eq_false_or_eq_true y5 with hy7 | hy7
  ·have ey7 := cond_t ey7 hy7
   refine oO rfl hy7 rfl (oO rfl hy7 rfl (oO rfl hy7 rfl (oO rfl hy7 rfl (oD (stp_pick_t rfl hy7 rfl) rfl ?_))))
   obtain rfl := sI ey7
   exact ow_nil (jy 5 0)
  have ey7 := cond_f ey7 hy7
  obtain ⟨x8, e8, ey7⟩ := bS ey7
  refine oG rfl hy7 (stp_loadN (us := [_, _]) ts33 rfl (Cells.box (id := 0) rfl 2 rfl)) rfl (oG rfl hy7 (stp_loadN (us := [_, _]) ts46 rfl (Cells.box (id := 1) rfl 2 rfl)) rfl (ow_eff (.some rfl hy7) (stpU_call (fun i => 3 + i) cf51 (fun w hw => c_i_Table_find fl w a0 a1 rfl (RO.pass hr0_0 hw) rfl (RO.pass hr0_1 hw) x8 e8) (yB rfl rfl)) rfl ?_))
  rintro _ _ ⟨_, ⟨rfl, rfl⟩, rfl⟩
  refine oG rfl hy7 (stp_geq rfl rfl) rfl (oD (stp_pick_f rfl hy7 rfl) rfl ?_)
  obtain rfl := sI ey7
  exact ow_nil (jy 5 0)
 obtain ⟨y9, ey9, H0⟩ := bS H0
 refine oM rfl (ow_cutY 7 32 y9 ?_ ?_)
 ·rcases Bool.eq_false_or_eq_true y7 with hy9 | hy9
  ·have ey9 := cond_t ey9 hy9
   refine oO rfl hy9 rfl (oO rfl hy9 rfl (oO rfl hy9 rfl (oO rfl hy9 rfl (oO rfl hy9 rfl (oO rfl hy9 rfl (oD (stp_pick_t rfl hy9 rfl) rfl ?_))))))
   obtain rfl := sI ey9
   exact ow_nil (jy 7 0)
  have ey9 := cond_f ey9 hy9
  obtain ⟨x10, e10, ey9⟩ := bS ey9
  refine oG rfl hy9 (mv rfl) rfl (oG rfl hy9 (fA 1 Tryd.underlying33 rfl ts31 rfl rfl rfl) rfl (oG rfl hy9 (lB 0 ts31 rfl rfl rfl) rfl (oG rfl hy9 (stp_len Tryd.underlying31 rfl) rfl (ow_eff (.some rfl hy9) (stpU_call (fun i => 3 + i) cf53 (fun w hw => c_i_within fl w a2 ((a0.f).length : Int) x10 e10) (yB rfl rfl)) rfl ?_))))
  rintro _ _ ⟨_, ⟨rfl, rfl⟩, rfl⟩
  refine oG rfl hy9 (stp_not rfl) rfl (oD (stp_pick_f rfl hy9 rfl) rfl ?_)
  obtain rfl := sI ey9
  exact ow_nil (jy 7 0)
 obtain ⟨y11, ey11, H0⟩ := bS H0
 refine oM rfl (ow_cutY 7 40 y11 ?_ ?_)
 ·rcases Bool.eq_false_or_eq_true y9 with hy11 | hy11
  ·have ey11 := cond_t ey11 hy11
   refine oO rfl hy11 rfl (oO rfl hy11 rfl (oO rfl hy11 rfl (oO rfl hy11 rfl (oO rfl hy11 rfl (oO rfl hy11 rfl (oD (stp_pick_t rfl hy11 rfl) rfl ?_))))))
   obtain rfl := sI ey11
   exact ow_nil (jy 7 0)
  have ey11 := cond_f ey11 hy11
  obtain ⟨x12, e12, ey11⟩ := bS ey11
  refine oG rfl hy11 (fA 1 Tryd.underlying33 rfl ts31 rfl rfl rfl) rfl (oG rfl hy11 (lB 0 ts31 rfl rfl rfl) rfl (oG rfl hy11 (mv rfl) rfl (oG rfl hy11 (stp_indexAddr Tryd.underlying31 ts84 (by decide) rfl rfl rfl (Rdb.ro hr0_1) e12) rfl (oG rfl hy11 (fA 0 Tryd.underlying84 rfl ts4 rfl rfl rfl) rfl (oG rfl hy11 (stp_load1 ts4 rfl (Cells.el (Rdb.ro hr0_1) (by decide) e12 0 1 rfl)) rfl (oD (stp_pick_f rfl hy11 rfl) rfl ?_))))))
  obtain rfl := sI ey11
  exact ow_nil (jy 7 0)
 obtain ⟨y13, ey13, H0⟩ := bS H0
 refine oM rfl (ow_cutY 4 45 y13 ?_ ?_)
 ·rcases Bool.eq_false_or_eq_true y11 with hy13 | hy13
  ·have ey13 := cond_t ey13 hy13
   refine oO rfl hy13 rfl (oO rfl hy13 rfl (oO rfl hy13 rfl (oD (stp_pick_t rfl hy13 rfl) rfl ?_)))
   obtain rfl := sI ey13
   exact ow_nil (jy 4 0)
  have ey13 := cond_f ey13 hy13
  obtain ⟨x14, e14, ey13⟩ := bS ey13
  refine oG rfl hy13 (mv rfl) rfl (ow_eff (.some rfl hy13) (stpU_call (fun i => 3 + i) cf110 (fun w hw => c_i_RightsValid fl w a3 x14 e14) (yA rfl)) rfl ?_)
  rintro _ _ ⟨_, ⟨rfl, rfl⟩, rfl⟩
  refine oG rfl hy13 (stp_not rfl) rfl (oD (stp_pick_f rfl hy13 rfl) rfl ?_)
  obtain rfl := sI ey13
  exact ow_nil (jy 4 0)
 refine ow_nil (kw_nx (cw_cond rfl (fun h15 => ?_) (fun h15 => ?_)))
 ·have H0 := cond_t H0 h15
  refine sr (oD (stp_build (cs := #[.slice none 0 0, .slice none 0 0]) sevp_nil bt33_0) rfl (oC2 2 ts33 rfl rfl (oS rfl (nn (cw_ret (kw_nx_ret (kw_addNil 3 (kw_addNil 4 ?_))))))))
  obtain rfl := sI H0
  exact kr Tryd.results98 (.cons (.cellN (us := [_, _]) ts33 rfl (Cells.box (id := 2) rfl 2 rfl)) (rT rfl)) [3, 4] ⟨_, _, _, _, _, _, _, _, rfl, rfl, rfl, (OwnC.nil _ _), rfl, (OwnC.nil _ _)⟩
 have H0 := cond_f H0 h15
 obtain ⟨x16, e16, H0⟩ := bS H0
 refine cw_skip (kw_nx (sr (oB2 0 ts33 rfl (oE (stpU_call (fun i => 5 + i) cf125 (fun w hw => c_i_Table_clone fl w a0 rfl (RO.pass hr0_0 hw) rfl (RO.pass hr0_1 hw) x16 e16) (yA rfl)) rfl ?_))))
 rintro _ _ ⟨_, ⟨p17, _, c19, C20, p21, _, c23, C24, rfl, rfl, rfl, o20, rfl, o24⟩, rfl⟩
 refine oE (stpU_alloc 7 tz33 rfl) rfl ?_
 rintro _ _ ⟨b25, rfl, rfl⟩
 obtain ⟨x26, e26, H0⟩ := bS H0
 refine oC2 7 ts33 rfl rfl (nn (sr (oB2 7 ts33 rfl (oB2 1 ts46 rfl (oM rfl (oM rfl (oE (stpU_callM (fun i => bif Nat.beq i 0 then 5 else bif Nat.beq i 1 then 6 else 8 + i) cf144 (fun w hw hb => c_i_Table_link fl w x16 a1 a2 a3 rfl o20 rfl o24 (hw.pass (js := [5, 6]) ⟨5, [6], rfl, rfl, 6, [], rfl, rfl, trivial⟩ (by decide)) x26 e26) (yD rfl rfl rfl rfl) ⟨rfl, (fun _ _ hp => by obtain ⟨_, _, _, rfl, _⟩ := hp; exact ⟨_, rfl⟩), rfl, (fun _ _ hp => by obtain ⟨_, _, _, rfl, _⟩ := hp; exact ⟨_, rfl⟩), trivial⟩) rfl ?_)))))))
 rintro _ _ ⟨_, ⟨C27, C28, rfl, rfl, hl27, o27, hl28, o28⟩, rfl⟩
 refine nn (sr (oB2 7 ts33 rfl (oC2 2 ts33 rfl rfl (oS rfl (nn (cw_ret ?_))))))
 obtain rfl := sI H0
 exact kr Tryd.results98 (.cons (.cellN (us := [_, _]) ts33 rfl (Cells.box (id := 2) rfl 2 rfl)) (rT rfl)) [5, 6] ⟨_, _, _, _, _, _, _, _, rfl, rfl, (by simp [hl27]), o27, (by simp [hl28]), o28⟩

theorem c_i_MapSystem (fl : Nat) (w : World) (a0 : Sy) (a1 : K) (a2 : Int) (a3 : Int) (hn0_0 : n0_0 = (a0.t.b).length) (hr0_0 : RO w (hkeys []) (RdL p0_0 c0_0 a0.t.b)) (hn0_1 : n0_1 = (a0.t.f).length) (hr0_1 : RO w (hkeys []) (RdL p0_1 c0_1 a0.t.f)) (hn0_2 : n0_2 = (a0.c).length) (hr0_2 : ROD w (hkeys []) p0_2 c0_2 a0.c) (hg : RO w (hkeys []) (fun w' => w'.rangeAt 0 0 [.bool false, .int .i64 0, .int .i64 0, .int .i64 0, .int .i64 (-1)])) (r : Sy × Bool) (H0 : i_MapSystem fl a0 a1 a2 a3 = some r) :
  Ct Tryd.prog 42 [.agg #[.slice p0_0 n0_0 c0_0, .slice p0_1 n0_1 c0_1, .slice p0_2 n0_2 c0_2], .agg #[.int .i64 a1.s, .int .i64 a1.p], .int .i64 a2, .int .i64 a3] w [] (fun rv h' => ∃ (x0 : Option Addr) (y0 z0 : Nat) (C0 : Res) (x1 : Option Addr) (y1 z1 : Nat) (C1 : Res) (x2 : Option Addr) (y2 z2 : Nat) (C2 : Res), rv = .tuple #[.agg #[.slice x0 y0 z0, .slice x1 y1 z1, .slice x2 y2 z2], .bool r.2] ∧ h' = [(0, C0), (1, C1), (2, C2)] ∧ y0 = (r.1.t.b).length ∧ OwnC 3 x0 z0 r.1.t.b C0 ∧ y1 = (r.1.t.f).length ∧ OwnC 84 x1 z1 r.1.t.f C1 ∧ y2 = (r.1.c).length ∧ OwnD 44 48 x2 z2 r.1.c C2) := by
 subst hn0_0 hn0_1 hn0_2
 unfold i_MapSystem at H0
 refine ct_of_cw Tryd.func42 rfl Tryd.ntmps42 rfl (Sat.refl _ _) ?_
 refine sr (oE (stpU_box 0 rfl rfl) rfl ?_)
 rintro _ _ ⟨b1, rfl, rfl⟩
 refine oE (stpU_box 1 rfl rfl) rfl ?_
 rintro _ _ ⟨b2, rfl, rfl⟩
 refine oE (stpU_box 2 rfl rfl) rfl ?_
 rintro _ _ ⟨b3, rfl, rfl⟩
 refine oE (stpU_alloc 3 tz36 rfl) rfl ?_
 rintro _ _ ⟨b4, rfl, rfl⟩
 obtain ⟨x5, e5, H0⟩ := bS H0
 refine oS rfl (nn (cw_seq (sr (oB3 0 ts36 rfl (oE (stpU_call (fun i => 4 + i) cf18 (fun w hw => c_i_SystemValid fl w a0 rfl (RO.pass hr0_0 hw) rfl (RO.pass hr0_1 hw) rfl (ROD.pass hr0_2 hw) (RO.pass hg hw) x5 e5) (yA rfl)) rfl ?_)))))
 rintro _ _ ⟨_, ⟨rfl, rfl⟩, rfl⟩
 refine oK rfl (nn (cw_cond rfl (fun h6 => ?_) (fun h6 => ?_)))
 ·have H0 := cond_t H0 h6
  refine sr (oD (stp_build (cs := #[.slice none 0 0, .slice none 0 0, .slice none 0 0]) sevp_nil bt36_2) rfl (oC3 3 ts36 rfl rfl (oS rfl (nn (cw_ret (kw_nx_ret (kw_addNil 4 (kw_addNil 5 (kw_addNil 6 ?_)))))))))
  obtain rfl := sI H0
  exact kr Tryd.results42 (.cons (.cellN (us := [_, _, _]) ts36 rfl (Cells.box (id := 3) rfl 3 rfl)) (rT rfl)) [4, 5, 6] ⟨_, _, _, _, _, _, _, _, _, _, _, _, rfl, rfl, rfl, (OwnC.nil _ _), rfl, (OwnC.nil _ _), rfl, (OwnD.nil _ _ _)⟩
 have H0 := cond_f H0 h6
 obtain ⟨o0_0, eo0_0, H0⟩ := bS H0
 refine cw_skip (kw_nx (cw_seq (sr (oA 2 Tryd.underlying36 rfl ts34 rfl (oL 0 ts34 rfl (oD (stp_len Tryd.underlying34 rfl) rfl (oM rfl (nn (cw_join (ι := Int) (fun | v7 => o0_0 = .out v7) (fun | v7 => [(3, .int .i64 a3), (4, .pointer (some ⟨b1, 0, none⟩)), (5, .pointer (some ⟨b2, 0, none⟩)), (6, .pointer (some ⟨b3, 0, none⟩)), (8, .pointer (some ⟨b4, 0, none⟩)), (20, .slice p0_2 ((a0.c).length) c0_2), (21, .int .i64 ((a0.c).length : Int)), (22, .int .i64 v7)]) (fun | v7 => [(0, [(b1, .cells #[.slice p0_0 ((a0.t.b).length) c0_0, .slice p0_1 ((a0.t.f).length) c0_1, .slice p0_2 ((a0.c).length) c0_2] 36 (0, 0))]), (1, [(b2, .cells #[.int .i64 a1.s, .int .i64 a1.p] 46 (0, 0))]), (2, [(b3, .cells #[.int .i64 a2] 3 (0, 0))]), (3, [(b4, .cells #[.slice none 0 0, .slice none 0 0, .slice none 0 0] 36 (0, 0))])]) ?_ ?_)))))))))
 ·refine cw_block (cw_loopS (ι := Nat × Int) (js := [0, 1, 2, 3]) (fun x => x.1) (fun | (fuel, v7) => i_MapSystem_L0 fl a0 a1 a2 fuel v7 = some o0_0) (fun | (_, v7) => [(3, .int .i64 a3), (4, .pointer (some ⟨b1, 0, none⟩)), (5, .pointer (some ⟨b2, 0, none⟩)), (6, .pointer (some ⟨b3, 0, none⟩)), (8, .pointer (some ⟨b4, 0, none⟩)), (20, .slice p0_2 ((a0.c).length) c0_2), (21, .int .i64 ((a0.c).length : Int)), (22, .int .i64 v7)]) (fun | (_, v7) => [(0, [(b1, .cells #[.slice p0_0 ((a0.t.b).length) c0_0, .slice p0_1 ((a0.t.f).length) c0_1, .slice p0_2 ((a0.c).length) c0_2] 36 (0, 0))]), (1, [(b2, .cells #[.int .i64 a1.s, .int .i64 a1.p] 46 (0, 0))]), (2, [(b3, .cells #[.int .i64 a2] 3 (0, 0))]), (3, [(b4, .cells #[.slice none 0 0, .slice none 0 0, .slice none 0 0] 36 (0, 0))])]) (fl, 0) eo0_0 ⟨rfl, rfl, rfl, rfl, rfl, rfl, rfl, rfl, trivial⟩ ⟨0, [1, 2, 3], rfl, rfl, 1, [2, 3], rfl, rfl, 2, [3], rfl, rfl, 3, [], rfl, rfl, trivial⟩ (by decide) ?_)
  rintro ⟨fuel, v7⟩ H1
  have H1 : i_MapSystem_L0 fl a0 a1 a2 fuel v7 = some o0_0 := H1
  rcases fuel with _ | fuel
  ·rw [i_MapSystem_L0.eq_1] at H1; cases H1
  rw [i_MapSystem_L0.eq_2] at H1
  dsimp only
  refine sr (oW rfl (nn (cw_seq (cw_cond rfl (fun h8 => ?_) (fun h8 => ?_)))))
  ·have H1 := cond_t H1 h8
   obtain ⟨x9, e9, H1⟩ := bS H1
   refine cw_skip (kw_nx (cw_seq (cw_block (sr ?_))))
   obtain ⟨u10, p11, n12, c13, p14, n15, c16, hw10, hl10, hx10, rfl, hr10, rfl, hs10⟩ := ROD.get hr0_2 e9
   refine oD (stp_indexAddr Tryd.underlying34 ts44 (by decide) rfl hl10 rfl (Rdb.ro hw10) hx10) rfl (oD (stp_loadN (us := [_, _]) ts44 rfl (Cells.el (Rdb.ro hw10) (by decide) hx10 0 2 rfl)) rfl (oE (stpU_alloc 7 tz44 rfl) rfl ?_))
   rintro _ _ ⟨b17, rfl, rfl⟩
   obtain ⟨x18, e18, H1⟩ := bS H1
   refine oC2 7 ts44 rfl rfl (nn (sr (oA 1 Tryd.underlying44 rfl ts42 rfl (oL 7 ts42 rfl (oD (stp_makeFunc (yB rfl rfl)) rfl (oE (stpU_call (fun i => 8 + i) cf96 (fun w hw => c_slices_ContainsFunc_Note_of_i_MapSystem_1 fl w x9.w b3 a2 b2 a1 rfl (RO.pass hs10 hw) (box_pass (id := 2) rfl hw) (box_pass (id := 1) rfl hw) x18 e18) (yB rfl rfl)) rfl ?_))))))
   rintro _ _ ⟨_, ⟨rfl, rfl⟩, rfl⟩
   refine nn (cw_cond rfl (fun h19 => ?_) (fun h19 => ?_))
   ·have H1 := cond_t H1 h19
    refine sr (oD (stp_build (cs := #[.slice none 0 0, .slice none 0 0, .slice none 0 0]) sevp_nil bt36_2) rfl (oC3 3 ts36 rfl rfl (oS rfl (nn (cw_ret (kw_bl_ret (kw_nx_ret (kw_lq_ret (kw_bl_ret (kw_join_ret (kw_nx_ret (kw_addNil 8 (kw_addNil 9 ?_)))))))))))))
    refine kw_addNil 10 ?_
    obtain rfl := sI H1
    obtain rfl := sI H0
    exact kr Tryd.results42 (.cons (.cellN (us := [_, _, _]) ts36 rfl (Cells.box (id := 3) rfl 3 rfl)) (rT rfl)) [8, 9, 10] ⟨_, _, _, _, _, _, _, _, _, _, _, _, rfl, rfl, rfl, (OwnC.nil _ _), rfl, (OwnC.nil _ _), rfl, (OwnD.nil _ _ _)⟩
   have H1 := cond_f H1 h19
   obtain ⟨x20, e20, H1⟩ := bS H1
   exact cw_skip (kw_bl_normal (kw_nx (cw_region (oP e20 rfl (oM rfl (ow_nil (kw_lqS (js := [0, 1, 2, 3]) (fuel, x20) H1 (Nat.lt_succ_self _) ⟨rfl, rfl, rfl, rfl, rfl, rfl, rfl, rfl, trivial⟩ ⟨0, [1, 2, 3], rfl, rfl, 1, [2, 3], rfl, rfl, 2, [3], rfl, rfl, 3, [], rfl, rfl, trivial⟩ (by decide))))))))
  have H1 := cond_f H1 h8
  refine cw_exit (kw_nx_exit (kw_lq_exit (kw_bl ?_)))
  obtain rfl := sI H1
  exact kw_joinS (js := [0, 1, 2, 3]) v7 rfl ⟨rfl, rfl, rfl, rfl, rfl, rfl, rfl, rfl, trivial⟩ ⟨0, [1, 2, 3], rfl, rfl, 1, [2, 3], rfl, rfl, 2, [3], rfl, rfl, 3, [], rfl, rfl, trivial⟩ (by decide)
 rintro v7 rfl
 dsimp only
 obtain ⟨x21, e21, H0⟩ := bS H0
 refine kw_nx (sr (oA 0 Tryd.underlying36 rfl ts33 rfl (oB2 0 ts33 rfl (oB2 1 ts46 rfl (oL 2 ts3 rfl (oM rfl (oE (stpU_call (fun i => 11 + i) cf98 (fun w hw => c_i_MapPage fl w a0.t a1 a2 a3 rfl (RO.pass hr0_0 hw) rfl (RO.pass hr0_1 hw) (RO.pass hg hw) x21 e21) (yD rfl rfl rfl rfl)) rfl ?_)))))))
 rintro _ _ ⟨_, ⟨p22, _, c24, C25, p26, _, c28, C29, rfl, rfl, rfl, o25, rfl, o29⟩, rfl⟩
 refine oM rfl (oT rfl (oT rfl (oE (stpU_alloc 13 tz33 rfl) rfl ?_)))
 rintro _ _ ⟨b30, rfl, rfl⟩
 refine oC2 13 ts33 rfl rfl (oS rfl (nn (cw_seq (sr (oM rfl (oK rfl (nn (cw_cond rfl (fun h31 => ?_) (fun h31 => ?_)))))))))
 ·have H0 := cond_t H0 h31
  refine sr (oD (stp_build (cs := #[.slice none 0 0, .slice none 0 0, .slice none 0 0]) sevp_nil bt36_2) rfl (oC3 3 ts36 rfl rfl (oS rfl (nn (cw_ret (kw_nx_ret (kw_addNil 14 (kw_addNil 15 (kw_addNil 16 ?_)))))))))
  obtain rfl := sI H0
  exact kr Tryd.results42 (.cons (.cellN (us := [_, _, _]) ts36 rfl (Cells.box (id := 3) rfl 3 rfl)) (rT rfl)) [14, 15, 16] ⟨_, _, _, _, _, _, _, _, _, _, _, _, rfl, rfl, rfl, (OwnC.nil _ _), rfl, (OwnC.nil _ _), rfl, (OwnD.nil _ _ _)⟩
 have H0 := cond_f H0 h31
 obtain ⟨x32, e32, H0⟩ := bS H0
 refine cw_skip (kw_nx (sr (oB3 0 ts36 rfl (oE (stpU_call (fun i => 17 + i) cf72 (fun w hw => c_i_System_clone fl w a0 rfl (RO.pass hr0_0 hw) rfl (RO.pass hr0_1 hw) rfl (ROD.pass hr0_2 hw) x32 e32) (yA rfl)) rfl ?_))))
 rintro _ _ ⟨_, ⟨p33, _, c35, C36, p37, _, c39, C40, p41, _, c43, C44, rfl, rfl, rfl, o36, rfl, o40, rfl, o44⟩, rfl⟩
 refine oE (stpU_alloc 20 tz36 rfl) rfl ?_
 rintro _ _ ⟨b45, rfl, rfl⟩
 refine oC3 20 ts36 rfl rfl (nn (sr (oB2 13 ts33 rfl (oA 0 Tryd.underlying36 rfl ts33 rfl (oC3 20 ts33 rfl rfl (nn (sr (oB3 20 ts36 rfl (oC3 3 ts36 rfl rfl (oS rfl (nn (cw_ret ?_))))))))))))
 obtain rfl := sI H0
 exact kr Tryd.results42 (.cons (.cellN (us := [_, _, _]) ts36 rfl (Cells.box (id := 3) rfl 3 rfl)) (rT rfl)) [11, 12, 19] ⟨_, _, _, _, _, _, _, _, _, _, _, _, rfl, rfl, rfl, o25, rfl, o29, rfl, o44⟩

theorem c_l_FnExactMapSystem (fl : Nat) (w : World) (a0 : Sy) (a1 : K) (a2 : Int) (a3 : Int) (hn0_0 : n0_0 = (a0.t.b).length) (hr0_0 : RO w (hkeys []) (RdL p0_0 c0_0 a0.t.b)) (hn0_1 : n0_1 = (a0.t.f).length) (hr0_1 : RO w (hkeys []) (RdL p0_1 c0_1 a0.t.f)) (hn0_2 : n0_2 = (a0.c).length) (hr0_2 : ROD w (hkeys []) p0_2 c0_2 a0.c) (hg : RO w (hkeys []) (fun w' => w'.rangeAt 0 0 [.bool false, .int .i64 0, .int .i64 0, .int .i64 0, .int .i64 (-1)])) (r : Bool) (H0 : l_FnExactMapSystem fl a0 a1 a2 a3 = some r) :
  Ct Tryd.prog 14 [.agg #[.slice p0_0 n0_0 c0_0, .slice p0_1 n0_1 c0_1, .slice p0_2 n0_2 c0_2], .agg #[.int .i64 a1.s, .int .i64 a1.p], .int .i64 a2, .int .i64 a3] w [] (fun rv h' => rv = .bool r ∧ h' = []) := by
 subst hn0_0 hn0_1 hn0_2
 unfold l_FnExactMapSystem at H0
 refine ct_of_cw Tryd.func14 rfl Tryd.ntmps14 rfl (Sat.refl _ _) ?_
 refine sr (oE (stpU_box 0 rfl rfl) rfl ?_)
 rintro _ _ ⟨b1, rfl, rfl⟩
 refine oE (stpU_box 1 rfl rfl) rfl ?_
 rintro _ _ ⟨b2, rfl, rfl⟩
 obtain ⟨x3, e3, H0⟩ := bS H0
 refine oS rfl (nn (sr (oS rfl (nn (sr (oB3 0 ts28 rfl (oM rfl (oE (stpU_call (fun i => 2 + i) cf15 (fun w hw => c_l_szSystem fl w a0 1048576 rfl (RO.pass hr0_0 hw) rfl (RO.pass hr0_1 hw) rfl (ROD.pass hr0_2 hw) x3 e3) (yB rfl rfl)) rfl ?_))))))))
 rintro _ _ ⟨_, ⟨rfl, rfl⟩, rfl⟩
 refine oS rfl (nn (cw_seq (sr (oM rfl (oW rfl (nn (cw_cond rfl (fun h4 => ?_) (fun h4 => ?_))))))))
 ·have H0 := cond_t H0 h4
  refine sr (oS rfl (nn (cw_ret (kw_nx_ret ?_))))
  obtain rfl := sI H0
  exact kr Tryd.results14 (rT rfl) [] ⟨rfl, rfl⟩
 have H0 := cond_f H0 h4
 obtain ⟨x5, e5, H0⟩ := bS H0
 obtain ⟨x18, e18, H0⟩ := bS H0
 obtain ⟨x19, e19, H0⟩ := bS H0
 refine cw_skip (kw_nx (cw_seq (rdq g_mixed [2, 3, 4, 5] [0, 1] { dst := dS [27, 28, 29, 30, 31, 32, 33, 26, 34, 35, 11, 0, 12], pre := gA [] [[], [0], [], [0, 1, 2], [], [], rn 0 6, rn 0 7, rn 0 8, rn 0 8, [], [0, 1, 2, 3, 4, 5, 6, 7, 8, 10], rn 0 12], ids := gA [] [[], [2, 3, 4], [], [], [], [], [5, 6, 7], [], [], [], [8], [8]], rs := rL [[(4, 0)], [(26, 1)], [(5, 0)], [(28, 3)], [(2, 0)], [(3, 0)], [(27, 2), (29, 4), (30, 5), (31, 6)], [(32, 7)], [(25, 8)], [(25, 8)], [], [(10, 11), (33, 9)], [(34, 10)]], rh := rL [[(0, 0)], [], [(1, 0)], [], [], [], [(2, 2), (3, 2), (4, 2)], [], [], [], [], [(8, 11)]], V := fun i g => gA undef [.agg #[.slice p0_0 ((a0.t.b).length) c0_0, .slice p0_1 ((a0.t.f).length) c0_1, .slice p0_2 ((a0.c).length) c0_2], .agg #[.slice ((g 1).A 0) ((x5.t.b).length) ((g 1).C 0), .slice ((g 1).A 1) ((x5.t.f).length) ((g 1).C 1), .slice ((g 1).A 2) ((x5.c).length) ((g 1).C 2)], .agg #[.int .i64 a1.s, .int .i64 a1.p], .agg #[.int .i64 x18.s, .int .i64 x18.p], .int .i64 a2, .int .i64 a3, .tuple #[.agg #[.slice ((g 6).A 0) ((x19.1.t.b).length) ((g 6).C 0), .slice ((g 6).A 1) ((x19.1.t.f).length) ((g 6).C 1), .slice ((g 6).A 2) ((x19.1.c).length) ((g 6).C 2)], .bool x19.2], .tuple #[.agg #[.slice ((g 6).A 0) ((x19.1.t.b).length) ((g 6).C 0), .slice ((g 6).A 1) ((x19.1.t.f).length) ((g 6).C 1), .slice ((g 6).A 2) ((x19.1.c).length) ((g 6).C 2)], .bool x19.2], .agg #[.slice ((g 6).A 0) ((x19.1.t.b).length) ((g 6).C 0), .slice ((g 6).A 1) ((x19.1.t.f).length) ((g 6).C 1), .slice ((g 6).A 2) ((x19.1.c).length) ((g 6).C 2)], .bool x19.2, .pointer (some ⟨((g 10).C 0), 0, none⟩), undef, .bool x19.2] i, U := fun i g => gA [] [[], [(2, ((g 1).R 0)), (3, ((g 1).R 1)), (4, ((g 1).R 2))], [], [], [], [], [(5, ((g 6).R 0)), (6, ((g 6).R 1)), (7, ((g 6).R 2))], [], [], [], [(8, [(((g 10).C 0), .cells #[.slice none 0 0, .slice none 0 0, .slice none 0 0] 36 (0, 0))])], [(8, [(((g 10).C 0), .cells #[.slice ((g 6).A 0) ((x19.1.t.b).length) ((g 6).C 0), .slice ((g 6).A 1) ((x19.1.t.f).length) ((g 6).C 1), .slice ((g 6).A 2) ((x19.1.c).length) ((g 6).C 2)] 36 (0, 0))])]] i, Φ := fun i x => match i with | 1 => OwnC 3 (x.A 0) (x.C 0) x5.t.b (x.R 0) ∧ OwnC 84 (x.A 1) (x.C 1) x5.t.f (x.R 1) ∧ OwnD 44 48 (x.A 2) (x.C 2) x5.c (x.R 2) | 6 => OwnC 3 (x.A 0) (x.C 0) x19.1.t.b (x.R 0) ∧ OwnC 84 (x.A 1) (x.C 1) x19.1.t.f (x.R 1) ∧ OwnD 44 48 (x.A 2) (x.C 2) x19.1.c (x.R 2) | _ => True } ?_ ?_)))
 ·refine ⟨lc rfl rfl fun hs hh => stp_loadN (us := [_, _, _]) ts28 (sv hs 4 rfl) (Cells.box (id := 0) (hh.get 0 _ rfl) 3 rfl), ?_, lc rfl rfl fun hs hh => stp_loadN (us := [_, _]) ts69 (sv hs 5 rfl) (Cells.box (id := 1) (hh.get 1 _ rfl) 2 rfl), ?_, lM, lM, ?_, lM, lT, lT, ?_, ?_, lS, trivial⟩
  ·refine le rfl rfl (fun g hΦ s h hs hh => (stpU_call (fun i => 2 + i) cf17 (fun w hw => c_l_toSystem fl w a0 rfl (RO.pass hr0_0 hw) rfl (RO.pass hr0_1 hw) rfl (ROD.pass hr0_2 hw) x5 e5) (yA (sv hs 26 rfl)))) ?_
   rintro g _ _ ⟨_, ⟨p6, _, c8, C9, p10, _, c12, C13, p14, _, c16, C17, rfl, rfl, rfl, o9, rfl, o13, rfl, o17⟩, rfl⟩
   exact ⟨⟨[p6, p10, p14], [c8, c12, c16], [C9, C13, C17]⟩, ⟨o9, o13, o17⟩, .inr rfl, rfl⟩
  ·refine le rfl rfl (fun g hΦ s h hs hh => (stpU_call (fun i => 5 + i) cf41 (fun w hw => c_l_toKey fl w a1 x18 e18) (yA (sv hs 28 rfl)))) ?_
   rintro g _ _ ⟨_, ⟨rfl, rfl⟩, rfl⟩
   exact ⟨⟨[], [], []⟩, trivial, .inr rfl, rfl⟩
  ·refine le rfl rfl (fun g hΦ s h hs hh => (stpU_call (fun i => 5 + i) cf40 (fun w hw => c_s_MapSystem fl w x5 x18 a2 a3 rfl (OwnC.pass (id := 2) (hh.get 2 _ rfl) (hΦ 1 rfl).1 hw) rfl (OwnC.pass (id := 3) (hh.get 3 _ rfl) (hΦ 1 rfl).2.1 hw) rfl (OwnD.pass (id := 4) (hh.get 4 _ rfl) (hΦ 1 rfl).2.2 hw) x19 e19) (yD (sv hs 27 rfl) (sv hs 29 rfl) (sv hs 30 rfl) (sv hs 31 rfl)))) ?_
   rintro g _ _ ⟨_, ⟨p20, _, c22, C23, p24, _, c26, C27, p28, _, c30, C31, rfl, rfl, rfl, o23, rfl, o27, rfl, o31⟩, rfl⟩
   exact ⟨⟨[p20, p24, p28], [c22, c26, c30], [C23, C27, C31]⟩, ⟨o23, o27, o31⟩, .inr rfl, rfl⟩
  ·refine le rfl rfl (fun g hΦ s h hs hh => (stpU_alloc 8 tz36 rfl)) ?_
   rintro g _ _ ⟨b32, rfl, rfl⟩
   exact ⟨⟨[], [b32], []⟩, trivial, .inr rfl, rfl⟩
  refine le rfl rfl (fun g hΦ s h hs hh => (stpU_store (id := 8) (cs' := [.slice ((g 6).A 0) ((x19.1.t.b).length) ((g 6).C 0), .slice ((g 6).A 1) ((x19.1.t.f).length) ((g 6).C 1), .slice ((g 6).A 2) ((x19.1.c).length) ((g 6).C 2)]) ts36 (sv hs 10 rfl) (sv hs 33 rfl) (hh.get 8 _ rfl) rfl rfl rfl rfl)) ?_
  rintro g _ _ rfl
  exact ⟨⟨[], [], []⟩, trivial, .inl rfl, rfl⟩
 intro g hΦ
 refine kw_gen (ι := Option Addr × Option Addr × Option Addr × Nat × Nat × Nat × Res × Res × Res × Option Addr × Option Addr × Option Addr × Nat × Nat × Nat × Res × Res × Res × Nat) (((g 1).A 0), ((g 1).A 1), ((g 1).A 2), ((g 1).C 0), ((g 1).C 1), ((g 1).C 2), ((g 1).R 0), ((g 1).R 1), ((g 1).R 2), ((g 6).A 0), ((g 6).A 1), ((g 6).A 2), ((g 6).C 0), ((g 6).C 1), ((g 6).C 2), ((g 6).R 0), ((g 6).R 1), ((g 6).R 2), ((g 10).C 0)) (fun | (p6, p10, p14, c8, c12, c16, C9, C13, C17, p20, p24, p28, c22, c26, c30, C23, C27, C31, b32) => OwnC 3 p6 c8 x5.t.b C9 ∧ OwnC 84 p10 c12 x5.t.f C13 ∧ OwnD 44 48 p14 c16 x5.c C17 ∧ OwnC 3 p20 c22 x19.1.t.b C23 ∧ OwnC 84 p24 c26 x19.1.t.f C27 ∧ OwnD 44 48 p28 c30 x19.1.c C31) (fun | (p6, p10, p14, c8, c12, c16, C9, C13, C17, p20, p24, p28, c22, c26, c30, C23, C27, C31, b32) => [(2, .int .i64 a2), (3, .int .i64 a3), (4, .pointer (some ⟨b1, 0, none⟩)), (5, .pointer (some ⟨b2, 0, none⟩)), (10, .pointer (some ⟨b32, 0, none⟩)), (11, .bool x19.2)]) (fun | (p6, p10, p14, c8, c12, c16, C9, C13, C17, p20, p24, p28, c22, c26, c30, C23, C27, C31, b32) => [(0, [(b1, .cells #[.slice p0_0 ((a0.t.b).length) c0_0, .slice p0_1 ((a0.t.f).length) c0_1, .slice p0_2 ((a0.c).length) c0_2] 28 (0, 0))]), (1, [(b2, .cells #[.int .i64 a1.s, .int .i64 a1.p] 69 (0, 0))]), (5, C23), (6, C27), (7, C31), (8, [(b32, .cells #[.slice p20 ((x19.1.t.b).length) c22, .slice p24 ((x19.1.t.f).length) c26, .slice p28 ((x19.1.c).length) c30] 36 (0, 0))])]) ⟨(hΦ 1 (by decide)).1, (hΦ 1 (by decide)).2.1, (hΦ 1 (by decide)).2.2, (hΦ 6 (by decide)).1, (hΦ 6 (by decide)).2.1, (hΦ 6 (by decide)).2.2⟩ ⟨rfl, rfl, rfl, rfl, rfl, rfl, trivial⟩ ⟨rfl, rfl, rfl, rfl, rfl, rfl, trivial⟩ ?_
 rintro ⟨p6, p10, p14, c8, c12, c16, C9, C13, C17, p20, p24, p28, c22, c26, c30, C23, C27, C31, b32⟩ ⟨o9, o13, o17, o23, o27, o31⟩
 dsimp only
 obtain ⟨x33, e33, H0⟩ := bS H0
 refine kw_nx (sr (oB3 0 ts28 rfl (oE (stpU_call (fun i => 9 + i) cf17 (fun w hw => c_l_toSystem fl w a0 rfl (RO.pass hr0_0 hw) rfl (RO.pass hr0_1 hw) rfl (ROD.pass hr0_2 hw) x33 e33) (yA rfl)) rfl ?_)))
 rintro _ _ ⟨_, ⟨p34, _, c36, C37, p38, _, c40, C41, p42, _, c44, C45, rfl, rfl, rfl, o37, rfl, o41, rfl, o45⟩, rfl⟩
 refine oE (stpU_alloc 12 tz36 rfl) rfl ?_
 rintro _ _ ⟨b46, rfl, rfl⟩
 obtain ⟨x47, e47, H0⟩ := bS H0
 refine oC3 12 ts36 rfl rfl (nn (cw_seq (rdq g_mixed [2, 3, 5, 12] [1, 9, 10, 11, 12] { dst := dS [39, 40, 41, 42, 43, 44, 38, 45, 46, 14, 0, 15], pre := gA [] [[], [], [1], [], [], rn 0 5, rn 0 6, rn 0 7, rn 0 7, [], [0, 1, 2, 3, 4, 5, 6, 7, 9], rn 0 11], ids := gA [] [[], [], [], [], [], [13, 14, 15], [], [], [], [16], [16]], rs := rL [[(12, 0)], [(5, 0)], [(39, 2)], [(2, 0)], [(3, 0)], [(38, 1), (40, 3), (41, 4), (42, 5)], [(43, 6)], [(37, 7)], [(37, 7)], [], [(13, 10), (44, 8)], [(45, 9)]], rh := rL [[(12, 0)], [(1, 0)], [], [], [], [(9, 0), (10, 0), (11, 0)], [], [], [], [], [(16, 10)]], V := fun i g => gA undef [.agg #[.slice p34 ((x33.t.b).length) c36, .slice p38 ((x33.t.f).length) c40, .slice p42 ((x33.c).length) c44], .agg #[.int .i64 a1.s, .int .i64 a1.p], .agg #[.int .i64 x18.s, .int .i64 x18.p], .int .i64 a2, .int .i64 a3, .tuple #[.agg #[.slice ((g 5).A 0) ((x47.1.t.b).length) ((g 5).C 0), .slice ((g 5).A 1) ((x47.1.t.f).length) ((g 5).C 1), .slice ((g 5).A 2) ((x47.1.c).length) ((g 5).C 2)], .bool x47.2], .tuple #[.agg #[.slice ((g 5).A 0) ((x47.1.t.b).length) ((g 5).C 0), .slice ((g 5).A 1) ((x47.1.t.f).length) ((g 5).C 1), .slice ((g 5).A 2) ((x47.1.c).length) ((g 5).C 2)], .bool x47.2], .agg #[.slice ((g 5).A 0) ((x47.1.t.b).length) ((g 5).C 0), .slice ((g 5).A 1) ((x47.1.t.f).length) ((g 5).C 1), .slice ((g 5).A 2) ((x47.1.c).length) ((g 5).C 2)], .bool x47.2, .pointer (some ⟨((g 9).C 0), 0, none⟩), undef, .bool x47.2] i, U := fun i g => gA [] [[], [], [], [], [], [(13, ((g 5).R 0)), (14, ((g 5).R 1)), (15, ((g 5).R 2))], [], [], [], [(16, [(((g 9).C 0), .cells #[.slice none 0 0, .slice none 0 0, .slice none 0 0] 36 (0, 0))])], [(16, [(((g 9).C 0), .cells #[.slice ((g 5).A 0) ((x47.1.t.b).length) ((g 5).C 0), .slice ((g 5).A 1) ((x47.1.t.f).length) ((g 5).C 1), .slice ((g 5).A 2) ((x47.1.c).length) ((g 5).C 2)] 36 (0, 0))])]] i, Φ := fun i x => match i with | 5 => OwnC 3 (x.A 0) (x.C 0) x47.1.t.b (x.R 0) ∧ OwnC 84 (x.A 1) (x.C 1) x47.1.t.f (x.R 1) ∧ OwnD 44 48 (x.A 2) (x.C 2) x47.1.c (x.R 2) | _ => True } ?_ ?_)))
 ·refine ⟨lc rfl rfl fun hs hh => stp_loadN (us := [_, _, _]) ts36 (sv hs 12 rfl) (Cells.box (id := 12) (hh.get 12 _ rfl) 3 rfl), lc rfl rfl fun hs hh => stp_loadN (us := [_, _]) ts69 (sv hs 5 rfl) (Cells.box (id := 1) (hh.get 1 _ rfl) 2 rfl), ?_, lM, lM, ?_, lM, lT, lT, ?_, ?_, lS, trivial⟩
  ·refine le rfl rfl (fun g hΦ s h hs hh => (stpU_call (fun i => 13 + i) cf41 (fun w hw => c_l_toKey fl w a1 x18 e18) (yA (sv hs 39 rfl)))) ?_
   rintro g _ _ ⟨_, ⟨rfl, rfl⟩, rfl⟩
   exact ⟨⟨[], [], []⟩, trivial, .inr rfl, rfl⟩
  ·refine le rfl rfl (fun g hΦ s h hs hh => (stpU_call (fun i => 13 + i) cf42 (fun w hw => c_i_MapSystem fl w x33 x18 a2 a3 rfl (OwnC.pass (id := 9) (hh.get 9 _ rfl) o37 hw) rfl (OwnC.pass (id := 10) (hh.get 10 _ rfl) o41 hw) rfl (OwnD.pass (id := 11) (hh.get 11 _ rfl) o45 hw) (RO.pass hg hw) x47 e47) (yD (sv hs 38 rfl) (sv hs 40 rfl) (sv hs 41 rfl) (sv hs 42 rfl)))) ?_
   rintro g _ _ ⟨_, ⟨p48, _, c50, C51, p52, _, c54, C55, p56, _, c58, C59, rfl, rfl, rfl, o51, rfl, o55, rfl, o59⟩, rfl⟩
   exact ⟨⟨[p48, p52, p56], [c50, c54, c58], [C51, C55, C59]⟩, ⟨o51, o55, o59⟩, .inr rfl, rfl⟩
  ·refine le rfl rfl (fun g hΦ s h hs hh => (stpU_alloc 16 tz36 rfl)) ?_
   rintro g _ _ ⟨b60, rfl, rfl⟩
   exact ⟨⟨[], [b60], []⟩, trivial, .inr rfl, rfl⟩
  refine le rfl rfl (fun g hΦ s h hs hh => (stpU_store (id := 16) (cs' := [.slice ((g 5).A 0) ((x47.1.t.b).length) ((g 5).C 0), .slice ((g 5).A 1) ((x47.1.t.f).length) ((g 5).C 1), .slice ((g 5).A 2) ((x47.1.c).length) ((g 5).C 2)]) ts36 (sv hs 13 rfl) (sv hs 44 rfl) (hh.get 16 _ rfl) rfl rfl rfl rfl)) ?_
  rintro g _ _ rfl
  exact ⟨⟨[], [], []⟩, trivial, .inl rfl, rfl⟩
 intro g hΦ
 refine kw_gen (ι := Option Addr × Option Addr × Option Addr × Nat × Nat × Nat × Res × Res × Res × Nat) (((g 5).A 0), ((g 5).A 1), ((g 5).A 2), ((g 5).C 0), ((g 5).C 1), ((g 5).C 2), ((g 5).R 0), ((g 5).R 1), ((g 5).R 2), ((g 9).C 0)) (fun | (p48, p52, p56, c50, c54, c58, C51, C55, C59, b60) => OwnC 3 p48 c50 x47.1.t.b C51 ∧ OwnC 84 p52 c54 x47.1.t.f C55 ∧ OwnD 44 48 p56 c58 x47.1.c C59) (fun | (p48, p52, p56, c50, c54, c58, C51, C55, C59, b60) => [(2, .int .i64 a2), (3, .int .i64 a3), (4, .pointer (some ⟨b1, 0, none⟩)), (5, .pointer (some ⟨b2, 0, none⟩)), (10, .pointer (some ⟨b32, 0, none⟩)), (11, .bool x19.2), (12, .pointer (some ⟨b46, 0, none⟩)), (13, .pointer (some ⟨b60, 0, none⟩)), (14, .bool x47.2)]) (fun | (p48, p52, p56, c50, c54, c58, C51, C55, C59, b60) => [(0, [(b1, .cells #[.slice p0_0 ((a0.t.b).length) c0_0, .slice p0_1 ((a0.t.f).length) c0_1, .slice p0_2 ((a0.c).length) c0_2] 28 (0, 0))]), (1, [(b2, .cells #[.int .i64 a1.s, .int .i64 a1.p] 69 (0, 0))]), (5, C23), (6, C27), (7, C31), (8, [(b32, .cells #[.slice p20 ((x19.1.t.b).length) c22, .slice p24 ((x19.1.t.f).length) c26, .slice p28 ((x19.1.c).length) c30] 36 (0, 0))]), (9, C37), (10, C41), (11, C45), (12, [(b46, .cells #[.slice p34 ((x33.t.b).length) c36, .slice p38 ((x33.t.f).length) c40, .slice p42 ((x33.c).length) c44] 36 (0, 0))]), (13, C51), (14, C55), (15, C59), (16, [(b60, .cells #[.slice p48 ((x47.1.t.b).length) c50, .slice p52 ((x47.1.t.f).length) c54, .slice p56 ((x47.1.c).length) c58] 36 (0, 0))])]) ⟨(hΦ 5 (by decide)).1, (hΦ 5 (by decide)).2.1, (hΦ 5 (by decide)).2.2⟩ ⟨rfl, rfl, rfl, rfl, rfl, rfl, rfl, rfl, rfl, trivial⟩ ⟨rfl, rfl, rfl, rfl, rfl, rfl, rfl, rfl, rfl, rfl, rfl, rfl, rfl, rfl, trivial⟩ ?_
 rintro ⟨p48, p52, p56, c50, c54, c58, C51, C55, C59, b60⟩ ⟨o51, o55, o59⟩
 dsimp only
 obtain ⟨x61, e61, H0⟩ := bS H0
 refine kw_nx (cw_seq (sr (oB3 16 ts36 rfl (oB3 8 ts36 rfl (oE (stpU_call (fun i => 17 + i) cf19 (fun w hw => c_l_eqSystem fl w x47.1 x19.1 rfl (OwnC.pass (id := 13) rfl o51 hw) rfl (OwnC.pass (id := 14) rfl o55 hw) rfl (OwnD.pass (id := 15) rfl o59 hw) rfl (OwnC.pass (id := 5) rfl o23 hw) rfl (OwnC.pass (id := 6) rfl o27 hw) rfl (OwnD.pass (id := 7) rfl o31 hw) x61 e61) (yB rfl rfl)) rfl ?_)))))
 rintro _ _ ⟨_, ⟨rfl, rfl⟩, rfl⟩
 obtain ⟨y62, ey62, H0⟩ := bS H0
 refine oK rfl (oM rfl (ow_cutY 4 54 y62 ?_ ?_))
 ·rcases Bool.eq_false_or_eq_true (!x61) with hy62 | hy62
  ·have ey62 := cond_t ey62 hy62
   refine oO rfl hy62 rfl (oO rfl hy62 rfl (oO rfl hy62 rfl (oD (stp_pick_t rfl hy62 rfl) rfl ?_)))
   obtain rfl := sI ey62
   exact ow_nil (jy 4 0)
  have ey62 := cond_f ey62 hy62
  refine oG rfl hy62 (mv rfl) rfl (oG rfl hy62 (mv rfl) rfl (oG rfl hy62 (stp_neqB Tryd.underlying4 rfl rfl) rfl (oD (stp_pick_f rfl hy62 rfl) rfl ?_)))
  obtain rfl := sI ey62
  exact ow_nil (jy 4 0)
 refine ow_nil (kw_nx (cw_cond rfl (fun h63 => ?_) (fun h63 => ?_)))
 ·have H0 := cond_t H0 h63
  refine sr (oS rfl (nn (cw_ret (kw_nx_ret ?_))))
  obtain rfl := sI H0
  exact kr Tryd.results14 (rT rfl) [] ⟨rfl, rfl⟩
 have H0 := cond_f H0 h63
 obtain ⟨x64, e64, H0⟩ := bS H0
 obtain ⟨x77, e77, H0⟩ := bS H0
 refine cw_skip (kw_nx (cw_seq (cw_seq (rdq g_mixed [4, 12] [0, 9, 10, 11, 12] { dst := dS [56, 57, 58, 59, 60], pre := gA [] [[], [], [1], [0, 1, 2], rn 0 4], ids := gA [] [[], [], [17, 18, 19]], rs := rL [[(12, 0)], [(4, 0)], [(56, 2)], [(55, 1), (57, 3)], [(58, 4)]], rh := rL [[(12, 0)], [(0, 0)], [], [(9, 0), (10, 0), (11, 0), (17, 3), (18, 3), (19, 3)]], V := fun i g => gA undef [.agg #[.slice p34 ((x33.t.b).length) c36, .slice p38 ((x33.t.f).length) c40, .slice p42 ((x33.c).length) c44], .agg #[.slice p0_0 ((a0.t.b).length) c0_0, .slice p0_1 ((a0.t.f).length) c0_1, .slice p0_2 ((a0.c).length) c0_2], .agg #[.slice ((g 2).A 0) ((x64.t.b).length) ((g 2).C 0), .slice ((g 2).A 1) ((x64.t.f).length) ((g 2).C 1), .slice ((g 2).A 2) ((x64.c).length) ((g 2).C 2)], .bool x77, .bool (!x77)] i, U := fun i g => gA [] [[], [], [(17, ((g 2).R 0)), (18, ((g 2).R 1)), (19, ((g 2).R 2))]] i, Φ := fun i x => gA True [True, True, OwnC 3 (x.A 0) (x.C 0) x64.t.b (x.R 0) ∧ OwnC 84 (x.A 1) (x.C 1) x64.t.f (x.R 1) ∧ OwnD 44 48 (x.A 2) (x.C 2) x64.c (x.R 2)] i } ?_ ?_))))
 ·refine ⟨lc rfl rfl fun hs hh => stp_loadN (us := [_, _, _]) ts36 (sv hs 12 rfl) (Cells.box (id := 12) (hh.get 12 _ rfl) 3 rfl), lc rfl rfl fun hs hh => stp_loadN (us := [_, _, _]) ts28 (sv hs 4 rfl) (Cells.box (id := 0) (hh.get 0 _ rfl) 3 rfl), ?_, ?_, lc rfl rfl fun hs hh => stp_not (sv hs 58 rfl), trivial⟩
  ·refine le rfl rfl (fun g hΦ s h hs hh => (stpU_call (fun i => 17 + i) cf17 (fun w hw => c_l_toSystem fl w a0 rfl (RO.pass hr0_0 hw) rfl (RO.pass hr0_1 hw) rfl (ROD.pass hr0_2 hw) x64 e64) (yA (sv hs 56 rfl)))) ?_
   rintro g _ _ ⟨_, ⟨p65, _, c67, C68, p69, _, c71, C72, p73, _, c75, C76, rfl, rfl, rfl, o68, rfl, o72, rfl, o76⟩, rfl⟩
   exact ⟨⟨[p65, p69, p73], [c67, c71, c75], [C68, C72, C76]⟩, ⟨o68, o72, o76⟩, .inr rfl, rfl⟩
  refine le rfl rfl (fun g hΦ s h hs hh => (stpU_call (fun i => 20 + i) cf19 (fun w hw => c_l_eqSystem fl w x33 x64 rfl (OwnC.pass (id := 9) (hh.get 9 _ rfl) o37 hw) rfl (OwnC.pass (id := 10) (hh.get 10 _ rfl) o41 hw) rfl (OwnD.pass (id := 11) (hh.get 11 _ rfl) o45 hw) rfl (OwnC.pass (id := 17) (hh.get 17 _ rfl) (hΦ 2 rfl).1 hw) rfl (OwnC.pass (id := 18) (hh.get 18 _ rfl) (hΦ 2 rfl).2.1 hw) rfl (OwnD.pass (id := 19) (hh.get 19 _ rfl) (hΦ 2 rfl).2.2 hw) x77 e77) (yB (sv hs 55 rfl) (sv hs 57 rfl)))) ?_
  rintro g _ _ ⟨_, ⟨rfl, rfl⟩, rfl⟩
  exact ⟨⟨[], [], []⟩, trivial, .inr rfl, rfl⟩
 intro g hΦ
 refine kw_gen (ι := Option Addr × Option Addr × Option Addr × Nat × Nat × Nat × Res × Res × Res) (((g 2).A 0), ((g 2).A 1), ((g 2).A 2), ((g 2).C 0), ((g 2).C 1), ((g 2).C 2), ((g 2).R 0), ((g 2).R 1), ((g 2).R 2)) (fun | (p65, p69, p73, c67, c71, c75, C68, C72, C76) => OwnC 3 p65 c67 x64.t.b C68 ∧ OwnC 84 p69 c71 x64.t.f C72 ∧ OwnD 44 48 p73 c75 x64.c C76) (fun | (p65, p69, p73, c67, c71, c75, C68, C72, C76) => [(2, .int .i64 a2), (3, .int .i64 a3), (4, .pointer (some ⟨b1, 0, none⟩)), (5, .pointer (some ⟨b2, 0, none⟩)), (10, .pointer (some ⟨b32, 0, none⟩)), (11, .bool x19.2), (12, .pointer (some ⟨b46, 0, none⟩)), (13, .pointer (some ⟨b60, 0, none⟩)), (14, .bool x47.2), (59, .bool (!x77))]) (fun | (p65, p69, p73, c67, c71, c75, C68, C72, C76) => [(0, [(b1, .cells #[.slice p0_0 ((a0.t.b).length) c0_0, .slice p0_1 ((a0.t.f).length) c0_1, .slice p0_2 ((a0.c).length) c0_2] 28 (0, 0))]), (1, [(b2, .cells #[.int .i64 a1.s, .int .i64 a1.p] 69 (0, 0))]), (5, C23), (6, C27), (7, C31), (8, [(b32, .cells #[.slice p20 ((x19.1.t.b).length) c22, .slice p24 ((x19.1.t.f).length) c26, .slice p28 ((x19.1.c).length) c30] 36 (0, 0))]), (9, C37), (10, C41), (11, C45), (12, [(b46, .cells #[.slice p34 ((x33.t.b).length) c36, .slice p38 ((x33.t.f).length) c40, .slice p42 ((x33.c).length) c44] 36 (0, 0))]), (13, C51), (14, C55), (15, C59), (16, [(b60, .cells #[.slice p48 ((x47.1.t.b).length) c50, .slice p52 ((x47.1.t.f).length) c54, .slice p56 ((x47.1.c).length) c58] 36 (0, 0))])]) ⟨(hΦ 2 (by decide)).1, (hΦ 2 (by decide)).2.1, (hΦ 2 (by decide)).2.2⟩ ⟨rfl, rfl, rfl, rfl, rfl, rfl, rfl, rfl, rfl, rfl, trivial⟩ ⟨rfl, rfl, rfl, rfl, rfl, rfl, rfl, rfl, rfl, rfl, rfl, rfl, rfl, rfl, trivial⟩ ?_
 rintro ⟨p65, p69, p73, c67, c71, c75, C68, C72, C76⟩ ⟨o68, o72, o76⟩
 dsimp only
 refine kw_nx (cw_cond rfl (fun h78 => ?_) (fun h78 => ?_))
 ·have H0 := cond_t H0 h78
  refine sr (oS rfl (nn (cw_ret (kw_nx_ret ?_))))
  obtain rfl := sI H0
  exact kr Tryd.results14 (rT rfl) [] ⟨rfl, rfl⟩
 have H0 := cond_f H0 h78
 obtain ⟨x79, e79, H0⟩ := bS H0
 refine cw_skip (kw_nx (sr (oS rfl (nn (sr (oB3 12 ts36 rfl (oM rfl (oE (stpU_callM (fun i => bif Nat.beq i 0 then 9 else bif Nat.beq i 1 then 10 else bif Nat.beq i 2 then 11 else 20 + i) cf37 (fun w hw hb => c_l_markSystem fl w x33 1 rfl o37 rfl o41 rfl o45 (hw.pass (js := [9, 10, 11]) ⟨9, [10, 11], rfl, rfl, 10, [11], rfl, rfl, 11, [], rfl, rfl, trivial⟩ (by decide)) x79 e79) (yB rfl rfl) ⟨rfl, (fun _ _ hp => by obtain ⟨_, _, _, _, rfl, _⟩ := hp; exact ⟨_, rfl⟩), rfl, (fun _ _ hp => by obtain ⟨_, _, _, _, rfl, _⟩ := hp; exact ⟨_, rfl⟩), rfl, (fun _ _ hp => by obtain ⟨_, _, _, _, rfl, _⟩ := hp; exact ⟨_, rfl⟩), trivial⟩) rfl ?_))))))))
 rintro _ _ ⟨_, ⟨C80, C81, C82, rfl, rfl, hl80, o80, hl81, o81, hl82, o82⟩, rfl⟩
 obtain ⟨y83, ey83, H0⟩ := bS H0
 refine oS rfl (nn (cw_seq (sr (oM rfl (oW rfl (oM rfl (ow_cutY 5 70 y83 ?_ ?_)))))))
 ·rcases Bool.eq_false_or_eq_true (decide (x79.1 < 0)) with hy83 | hy83
  ·have ey83 := cond_t ey83 hy83
   refine oO rfl hy83 rfl (oO rfl hy83 rfl (oO rfl hy83 rfl (oO rfl hy83 rfl (oD (stp_pick_t rfl hy83 rfl) rfl ?_))))
   obtain rfl := sI ey83
   exact ow_nil (jy 5 0)
  have ey83 := cond_f ey83 hy83
  refine oG rfl hy83 (stp_loadN (us := [_, _, _]) ts36 rfl (Cells.box (id := 16) rfl 3 rfl)) rfl (oG rfl hy83 (stp_loadN (us := [_, _, _]) ts36 rfl (Cells.box (id := 8) rfl 3 rfl)) rfl (ow_eff (.some rfl hy83) (stpU_call (fun i => 23 + i) cf19 (fun w hw => c_l_eqSystem fl w x47.1 x19.1 rfl (OwnC.pass (id := 13) rfl o51 hw) rfl (OwnC.pass (id := 14) rfl o55 hw) rfl (OwnD.pass (id := 15) rfl o59 hw) rfl (OwnC.pass (id := 5) rfl o23 hw) rfl (OwnC.pass (id := 6) rfl o27 hw) rfl (OwnD.pass (id := 7) rfl o31 hw) x61 e61) (yB rfl rfl)) rfl ?_))
  rintro _ _ ⟨_, ⟨rfl, rfl⟩, rfl⟩
  refine oG rfl hy83 (stp_not rfl) rfl (oD (stp_pick_f rfl hy83 rfl) rfl ?_)
  obtain rfl := sI ey83
  exact ow_nil (jy 5 0)
 obtain ⟨y84, ey84, H0⟩ := bS H0
 refine oM rfl (ow_cutY 4 75 y84 ?_ ?_)
 ·rcases Bool.eq_false_or_eq_true y83 with hy84 | hy84
  ·have ey84 := cond_t ey84 hy84
   refine oO rfl hy84 rfl (oO rfl hy84 rfl (oO rfl hy84 rfl (oD (stp_pick_t rfl hy84 rfl) rfl ?_)))
   obtain rfl := sI ey84
   exact ow_nil (jy 4 0)
  have ey84 := cond_f ey84 hy84
  refine oG rfl hy84 (mv rfl) rfl (oG rfl hy84 (mv rfl) rfl (oG rfl hy84 (stp_neqB Tryd.underlying4 rfl rfl) rfl (oD (stp_pick_f rfl hy84 rfl) rfl ?_)))
  obtain rfl := sI ey84
  exact ow_nil (jy 4 0)
 refine ow_nil (kw_nx (cw_cond rfl (fun h85 => ?_) (fun h85 => ?_)))
 ·have H0 := cond_t H0 h85
  refine sr (oS rfl (nn (cw_ret (kw_nx_ret ?_))))
  obtain rfl := sI H0
  exact kr Tryd.results14 (rT rfl) [] ⟨rfl, rfl⟩
 have H0 := cond_f H0 h85
 obtain ⟨x86, e86, H0⟩ := bS H0
 refine cw_skip (kw_nx (sr (oS rfl (nn (sr (oB3 16 ts36 rfl (oM rfl (oE (stpU_callM (fun i => bif Nat.beq i 0 then 13 else bif Nat.beq i 1 then 14 else bif Nat.beq i 2 then 15 else 23 + i) cf37 (fun w hw hb => c_l_markSystem fl w x47.1 1 rfl o51 rfl o55 rfl o59 (hw.pass (js := [13, 14, 15]) ⟨13, [14, 15], rfl, rfl, 14, [15], rfl, rfl, 15, [], rfl, rfl, trivial⟩ (by decide)) x86 e86) (yB rfl rfl) ⟨rfl, (fun _ _ hp => by obtain ⟨_, _, _, _, rfl, _⟩ := hp; exact ⟨_, rfl⟩), rfl, (fun _ _ hp => by obtain ⟨_, _, _, _, rfl, _⟩ := hp; exact ⟨_, rfl⟩), rfl, (fun _ _ hp => by obtain ⟨_, _, _, _, rfl, _⟩ := hp; exact ⟨_, rfl⟩), trivial⟩) rfl ?_))))))))
 rintro _ _ ⟨_, ⟨C87, C88, C89, rfl, rfl, hl87, o87, hl88, o88, hl89, o89⟩, rfl⟩
 obtain ⟨x90, e90, H0⟩ := bS H0
 refine oS rfl (nn (sr (oS rfl (nn (sr (oB3 16 ts36 rfl (oM rfl (oE (stpU_call (fun i => 26 + i) cf38 (fun w hw => c_l_heldSystem fl w (⟨(⟨x86.2.1, x86.2.2.1⟩ : T), x86.2.2.2⟩ : Sy) 1 (by simp [hl87]) (OwnC.pass (id := 13) rfl o87 hw) (by simp [hl88]) (OwnC.pass (id := 14) rfl o88 hw) (by simp [hl89]) (OwnD.pass (id := 15) rfl o89 hw) x90 e90) (yB rfl rfl)) rfl ?_))))))))
 rintro _ _ ⟨_, ⟨rfl, rfl⟩, rfl⟩
 refine oS rfl (nn (cw_seq (sr (oM rfl (oW rfl (nn (cw_cond rfl (fun h91 => ?_) (fun h91 => ?_))))))))
 ·have H0 := cond_t H0 h91
  refine sr (oS rfl (nn (cw_ret (kw_nx_ret ?_))))
  obtain rfl := sI H0
  exact kr Tryd.results14 (rT rfl) [] ⟨rfl, rfl⟩
 have H0 := cond_f H0 h91
 refine cw_skip (kw_nx (cw_seq (sr (oM rfl (oM rfl (oU rfl (nn (cw_cond rfl (fun h92 => ?_) (fun h92 => ?_)))))))))
 ·have H0 := cond_t H0 h92
  refine sr (oS rfl (nn (cw_ret (kw_nx_ret ?_))))
  obtain rfl := sI H0
  exact kr Tryd.results14 (rT rfl) [] ⟨rfl, rfl⟩
 have H0 := cond_f H0 h92
 obtain ⟨x93, e93, H0⟩ := bS H0
 obtain ⟨x106, e106, H0⟩ := bS H0
 refine cw_skip (kw_nx (cw_seq (rdq g_mixed [2, 3, 4, 5] [0, 1] { dst := dS [89, 90, 91, 92, 93, 94, 95, 88, 96, 97, 19, 0, 20], pre := gA [] [[], [0], [], [0, 1, 2], [], [], rn 0 6, rn 0 7, rn 0 8, rn 0 8, [], [0, 1, 2, 3, 4, 5, 6, 7, 8, 10], rn 0 12], ids := gA [] [[], [26, 27, 28], [], [], [], [], [29, 30, 31], [], [], [], [32], [32]], rs := rL [[(4, 0)], [(88, 1)], [(5, 0)], [(90, 3)], [(2, 0)], [(3, 0)], [(89, 2), (91, 4), (92, 5), (93, 6)], [(94, 7)], [(87, 8)], [(87, 8)], [], [(18, 11), (95, 9)], [(96, 10)]], rh := rL [[(0, 0)], [], [(1, 0)], [], [], [], [(26, 2), (27, 2), (28, 2)], [], [], [], [], [(32, 11)]], V := fun i g => gA undef [.agg #[.slice p0_0 ((a0.t.b).length) c0_0, .slice p0_1 ((a0.t.f).length) c0_1, .slice p0_2 ((a0.c).length) c0_2], .agg #[.slice ((g 1).A 0) ((x93.t.b).length) ((g 1).C 0), .slice ((g 1).A 1) ((x93.t.f).length) ((g 1).C 1), .slice ((g 1).A 2) ((x93.c).length) ((g 1).C 2)], .agg #[.int .i64 a1.s, .int .i64 a1.p], .agg #[.int .i64 x18.s, .int .i64 x18.p], .int .i64 a2, .int .i64 a3, .tuple #[.agg #[.slice ((g 6).A 0) ((x106.1.t.b).length) ((g 6).C 0), .slice ((g 6).A 1) ((x106.1.t.f).length) ((g 6).C 1), .slice ((g 6).A 2) ((x106.1.c).length) ((g 6).C 2)], .bool x106.2], .tuple #[.agg #[.slice ((g 6).A 0) ((x106.1.t.b).length) ((g 6).C 0), .slice ((g 6).A 1) ((x106.1.t.f).length) ((g 6).C 1), .slice ((g 6).A 2) ((x106.1.c).length) ((g 6).C 2)], .bool x106.2], .agg #[.slice ((g 6).A 0) ((x106.1.t.b).length) ((g 6).C 0), .slice ((g 6).A 1) ((x106.1.t.f).length) ((g 6).C 1), .slice ((g 6).A 2) ((x106.1.c).length) ((g 6).C 2)], .bool x106.2, .pointer (some ⟨((g 10).C 0), 0, none⟩), undef, .bool x106.2] i, U := fun i g => gA [] [[], [(26, ((g 1).R 0)), (27, ((g 1).R 1)), (28, ((g 1).R 2))], [], [], [], [], [(29, ((g 6).R 0)), (30, ((g 6).R 1)), (31, ((g 6).R 2))], [], [], [], [(32, [(((g 10).C 0), .cells #[.slice none 0 0, .slice none 0 0, .slice none 0 0] 36 (0, 0))])], [(32, [(((g 10).C 0), .cells #[.slice ((g 6).A 0) ((x106.1.t.b).length) ((g 6).C 0), .slice ((g 6).A 1) ((x106.1.t.f).length) ((g 6).C 1), .slice ((g 6).A 2) ((x106.1.c).length) ((g 6).C 2)] 36 (0, 0))])]] i, Φ := fun i x => match i with | 1 => OwnC 3 (x.A 0) (x.C 0) x93.t.b (x.R 0) ∧ OwnC 84 (x.A 1) (x.C 1) x93.t.f (x.R 1) ∧ OwnD 44 48 (x.A 2) (x.C 2) x93.c (x.R 2) | 6 => OwnC 3 (x.A 0) (x.C 0) x106.1.t.b (x.R 0) ∧ OwnC 84 (x.A 1) (x.C 1) x106.1.t.f (x.R 1) ∧ OwnD 44 48 (x.A 2) (x.C 2) x106.1.c (x.R 2) | _ => True } ?_ ?_)))
 ·refine ⟨lc rfl rfl fun hs hh => stp_loadN (us := [_, _, _]) ts28 (sv hs 4 rfl) (Cells.box (id := 0) (hh.get 0 _ rfl) 3 rfl), ?_, lc rfl rfl fun hs hh => stp_loadN (us := [_, _]) ts69 (sv hs 5 rfl) (Cells.box (id := 1) (hh.get 1 _ rfl) 2 rfl), ?_, lM, lM, ?_, lM, lT, lT, ?_, ?_, lS, trivial⟩
  ·refine le rfl rfl (fun g hΦ s h hs hh => (stpU_call (fun i => 26 + i) cf17 (fun w hw => c_l_toSystem fl w a0 rfl (RO.pass hr0_0 hw) rfl (RO.pass hr0_1 hw) rfl (ROD.pass hr0_2 hw) x93 e93) (yA (sv hs 88 rfl)))) ?_
   rintro g _ _ ⟨_, ⟨p94, _, c96, C97, p98, _, c100, C101, p102, _, c104, C105, rfl, rfl, rfl, o97, rfl, o101, rfl, o105⟩, rfl⟩
   exact ⟨⟨[p94, p98, p102], [c96, c100, c104], [C97, C101, C105]⟩, ⟨o97, o101, o105⟩, .inr rfl, rfl⟩
  ·refine le rfl rfl (fun g hΦ s h hs hh => (stpU_call (fun i => 29 + i) cf41 (fun w hw => c_l_toKey fl w a1 x18 e18) (yA (sv hs 90 rfl)))) ?_
   rintro g _ _ ⟨_, ⟨rfl, rfl⟩, rfl⟩
   exact ⟨⟨[], [], []⟩, trivial, .inr rfl, rfl⟩
  ·refine le rfl rfl (fun g hΦ s h hs hh => (stpU_call (fun i => 29 + i) cf42 (fun w hw => c_i_MapSystem fl w x93 x18 a2 a3 rfl (OwnC.pass (id := 26) (hh.get 26 _ rfl) (hΦ 1 rfl).1 hw) rfl (OwnC.pass (id := 27) (hh.get 27 _ rfl) (hΦ 1 rfl).2.1 hw) rfl (OwnD.pass (id := 28) (hh.get 28 _ rfl) (hΦ 1 rfl).2.2 hw) (RO.pass hg hw) x106 e106) (yD (sv hs 89 rfl) (sv hs 91 rfl) (sv hs 92 rfl) (sv hs 93 rfl)))) ?_
   rintro g _ _ ⟨_, ⟨p107, _, c109, C110, p111, _, c113, C114, p115, _, c117, C118, rfl, rfl, rfl, o110, rfl, o114, rfl, o118⟩, rfl⟩
   exact ⟨⟨[p107, p111, p115], [c109, c113, c117], [C110, C114, C118]⟩, ⟨o110, o114, o118⟩, .inr rfl, rfl⟩
  ·refine le rfl rfl (fun g hΦ s h hs hh => (stpU_alloc 32 tz36 rfl)) ?_
   rintro g _ _ ⟨b119, rfl, rfl⟩
   exact ⟨⟨[], [b119], []⟩, trivial, .inr rfl, rfl⟩
  refine le rfl rfl (fun g hΦ s h hs hh => (stpU_store (id := 32) (cs' := [.slice ((g 6).A 0) ((x106.1.t.b).length) ((g 6).C 0), .slice ((g 6).A 1) ((x106.1.t.f).length) ((g 6).C 1), .slice ((g 6).A 2) ((x106.1.c).length) ((g 6).C 2)]) ts36 (sv hs 18 rfl) (sv hs 95 rfl) (hh.get 32 _ rfl) rfl rfl rfl rfl)) ?_
  rintro g _ _ rfl
  exact ⟨⟨[], [], []⟩, trivial, .inl rfl, rfl⟩
 intro g hΦ
 refine kw_gen (ι := Option Addr × Option Addr × Option Addr × Nat × Nat × Nat × Res × Res × Res × Option Addr × Option Addr × Option Addr × Nat × Nat × Nat × Res × Res × Res × Nat) (((g 1).A 0), ((g 1).A 1), ((g 1).A 2), ((g 1).C 0), ((g 1).C 1), ((g 1).C 2), ((g 1).R 0), ((g 1).R 1), ((g 1).R 2), ((g 6).A 0), ((g 6).A 1), ((g 6).A 2), ((g 6).C 0), ((g 6).C 1), ((g 6).C 2), ((g 6).R 0), ((g 6).R 1), ((g 6).R 2), ((g 10).C 0)) (fun | (p94, p98, p102, c96, c100, c104, C97, C101, C105, p107, p111, p115, c109, c113, c117, C110, C114, C118, b119) => OwnC 3 p94 c96 x93.t.b C97 ∧ OwnC 84 p98 c100 x93.t.f C101 ∧ OwnD 44 48 p102 c104 x93.c C105 ∧ OwnC 3 p107 c109 x106.1.t.b C110 ∧ OwnC 84 p111 c113 x106.1.t.f C114 ∧ OwnD 44 48 p115 c117 x106.1.c C118) (fun | (p94, p98, p102, c96, c100, c104, C97, C101, C105, p107, p111, p115, c109, c113, c117, C110, C114, C118, b119) => [(10, .pointer (some ⟨b32, 0, none⟩)), (11, .bool x19.2), (13, .pointer (some ⟨b60, 0, none⟩)), (16, .int .i64 x86.1), (18, .pointer (some ⟨b119, 0, none⟩)), (19, .bool x106.2)]) (fun | (p94, p98, p102, c96, c100, c104, C97, C101, C105, p107, p111, p115, c109, c113, c117, C110, C114, C118, b119) => [(5, C23), (6, C27), (7, C31), (8, [(b32, .cells #[.slice p20 ((x19.1.t.b).length) c22, .slice p24 ((x19.1.t.f).length) c26, .slice p28 ((x19.1.c).length) c30] 36 (0, 0))]), (13, C87), (14, C88), (15, C89), (16, [(b60, .cells #[.slice p48 ((x47.1.t.b).length) c50, .slice p52 ((x47.1.t.f).length) c54, .slice p56 ((x47.1.c).length) c58] 36 (0, 0))]), (29, C110), (30, C114), (31, C118), (32, [(b119, .cells #[.slice p107 ((x106.1.t.b).length) c109, .slice p111 ((x106.1.t.f).length) c113, .slice p115 ((x106.1.c).length) c117] 36 (0, 0))])]) ⟨(hΦ 1 (by decide)).1, (hΦ 1 (by decide)).2.1, (hΦ 1 (by decide)).2.2, (hΦ 6 (by decide)).1, (hΦ 6 (by decide)).2.1, (hΦ 6 (by decide)).2.2⟩ ⟨rfl, rfl, rfl, rfl, rfl, rfl, trivial⟩ ⟨rfl, rfl, rfl, rfl, rfl, rfl, rfl, rfl, rfl, rfl, rfl, rfl, trivial⟩ ?_
 rintro ⟨p94, p98, p102, c96, c100, c104, C97, C101, C105, p107, p111, p115, c109, c113, c117, C110, C114, C118, b119⟩ ⟨o97, o101, o105, o110, o114, o118⟩
 dsimp only
 obtain ⟨x120, e120, H0⟩ := bS H0
 refine kw_nx (cw_seq (sr (oB3 32 ts36 rfl (oB3 8 ts36 rfl (oE (stpU_call (fun i => 33 + i) cf19 (fun w hw => c_l_eqSystem fl w x106.1 x19.1 rfl (OwnC.pass (id := 29) rfl o110 hw) rfl (OwnC.pass (id := 30) rfl o114 hw) rfl (OwnD.pass (id := 31) rfl o118 hw) rfl (OwnC.pass (id := 5) rfl o23 hw) rfl (OwnC.pass (id := 6) rfl o27 hw) rfl (OwnD.pass (id := 7) rfl o31 hw) x120 e120) (yB rfl rfl)) rfl ?_)))))
 rintro _ _ ⟨_, ⟨rfl, rfl⟩, rfl⟩
 obtain ⟨y121, ey121, H0⟩ := bS H0
 refine oK rfl (oM rfl (ow_cutY 4 105 y121 ?_ ?_))
 ·rcases Bool.eq_false_or_eq_true (!x120) with hy121 | hy121
  ·have ey121 := cond_t ey121 hy121
   refine oO rfl hy121 rfl (oO rfl hy121 rfl (oO rfl hy121 rfl (oD (stp_pick_t rfl hy121 rfl) rfl ?_)))
   obtain rfl := sI ey121
   exact ow_nil (jy 4 0)
  have ey121 := cond_f ey121 hy121
  refine oG rfl hy121 (mv rfl) rfl (oG rfl hy121 (mv rfl) rfl (oG rfl hy121 (stp_neqB Tryd.underlying4 rfl rfl) rfl (oD (stp_pick_f rfl hy121 rfl) rfl ?_)))
  obtain rfl := sI ey121
  exact ow_nil (jy 4 0)
 refine ow_nil (kw_nx (cw_cond rfl (fun h122 => ?_) (fun h122 => ?_)))
 ·have H0 := cond_t H0 h122
  refine sr (oS rfl (nn (cw_ret (kw_nx_ret ?_))))
  obtain rfl := sI H0
  exact kr Tryd.results14 (rT rfl) [] ⟨rfl, rfl⟩
 have H0 := cond_f H0 h122
 refine cw_skip (kw_nx (sr (oS rfl (nn (sr (oB3 16 ts36 rfl (oM rfl (oE (stpU_call (fun i => 33 + i) cf38 (fun w hw => c_l_heldSystem fl w (⟨(⟨x86.2.1, x86.2.2.1⟩ : T), x86.2.2.2⟩ : Sy) 1 (by simp [hl87]) (OwnC.pass (id := 13) rfl o87 hw) (by simp [hl88]) (OwnC.pass (id := 14) rfl o88 hw) (by simp [hl89]) (OwnD.pass (id := 15) rfl o89 hw) x90 e90) (yB rfl rfl)) rfl ?_))))))))
 rintro _ _ ⟨_, ⟨rfl, rfl⟩, rfl⟩
 refine oS rfl (nn (cw_seq (sr (oM rfl (oW rfl (nn (cw_cond rfl (fun h123 => ?_) (fun h123 => ?_))))))))
 ·have H0 := cond_t H0 h123
  refine sr (oS rfl (nn (cw_ret (kw_nx_ret ?_))))
  obtain rfl := sI H0
  exact kr Tryd.results14 (rT rfl) [] ⟨rfl, rfl⟩
 have H0 := cond_f H0 h123
 refine cw_skip (kw_nx (cw_seq (sr (oM rfl (oM rfl (oU rfl (nn (cw_cond rfl (fun h124 => ?_) (fun h124 => ?_)))))))))
 ·have H0 := cond_t H0 h124
  refine sr (oS rfl (nn (cw_ret (kw_nx_ret ?_))))
  obtain rfl := sI H0
  exact kr Tryd.results14 (rT rfl) [] ⟨rfl, rfl⟩
 have H0 := cond_f H0 h124
 refine cw_skip (kw_nx (sr (oS rfl (nn (cw_ret ?_)))))
 obtain rfl := sI H0
 exact kr Tryd.results14 (rT rfl) [] ⟨rfl, rfl⟩
end Go.Proofs.YtfnliecmagnkdaaDoor
