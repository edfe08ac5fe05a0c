/- The walks: functions of the program return what their pure functions say. Printed by a program (gen.py). -/
import Derived.Test.YtfnliecmagnkdaaDoorGp
import Derived.Test.YtfnliecmagnkdaaDoorGt
import Derived.Test.YtfnliecmagnkdaaDoorMan
import Derived.Test.YtfnliecmagnkdaaDoorMap
import Derived.Test.YtfnliecmagnkdaaDoorCpy
import Derived.Test.YtfnliecmagnkdaaDoorClr
import Derived.Test.YtfnliecmagnkdaaDoorDp
import Derived.Test.YtfnliecmagnkdaaDoorSrt
import Derived.Test.YtfnliecmagnkdaaDoorE8
import Derived.Test.YtfnliecmagnkdaaDoorGwaa
import Derived.Test.YtfnliecmagnkdaaDoorGwab
import Derived.Test.YtfnliecmagnkdaaDoorGwac
set_option linter.unusedSimpArgs false
set_option linter.unusedVariables false
set_option linter.unusedSectionVars false
namespace Go.Proofs.YtfnliecmagnkdaaDoor
open Go.RowKit
set_option maxHeartbeats 4000000
set_option maxRecDepth 20000
variable {p0_0 p0_1 p0_2 : Option Addr} {n0_0 n0_1 n0_2 : Nat} {c0_0 c0_1 c0_2 : Nat}
theorem c_l_FnExactSystemValid (fl : Nat) (w : World) (a0 : Sy) (hn0_0 : n0_0 = (a0.t.b).length) (hr0_0 : RO w (hkeys []) (RdL p0_0 c0_0 a0.t.b)) (hn0_1 : n0_1 = (a0.t.f).length) (hr0_1 : RO w (hkeys []) (RdL p0_1 c0_1 a0.t.f)) (hn0_2 : n0_2 = (a0.c).length) (hr0_2 : ROD w (hkeys []) p0_2 c0_2 a0.c) (hg : RO w (hkeys []) (fun w' => w'.rangeAt 0 0 [.bool false, .int .i64 0, .int .i64 0, .int .i64 0, .int .i64 (-1)])) (r : Bool) (H0 : l_FnExactSystemValid fl a0 = some r) :
  Ct Tryd.prog 3 [.agg #[.slice p0_0 n0_0 c0_0, .slice p0_1 n0_1 c0_1, .slice p0_2 n0_2 c0_2]] w [] (fun rv h' => rv = .bool r ∧ h' = []) := by
 subst hn0_0 hn0_1 hn0_2
 unfold l_FnExactSystemValid at H0
 refine ct_of_cw Tryd.func3 rfl Tryd.ntmps3 rfl (Sat.refl _ _) ?_
 refine sr (oE (stpU_box 0 rfl rfl) rfl ?_)
 rintro _ _ ⟨b1, rfl, rfl⟩
 obtain ⟨x2, e2, H0⟩ := bS H0
 refine oS rfl (nn (sr (oS rfl (nn (sr (oB3 0 ts28 rfl (oM rfl (oE (stpU_call (fun i => 1 + i) cf15 (fun w hw => c_l_szSystem fl w a0 1048576 rfl (RO.pass hr0_0 hw) rfl (RO.pass hr0_1 hw) rfl (ROD.pass hr0_2 hw) x2 e2) (yB rfl rfl)) rfl ?_))))))))
 rintro _ _ ⟨_, ⟨rfl, rfl⟩, rfl⟩
 refine oS rfl (nn (cw_seq (sr (oM rfl (oW rfl (nn (cw_cond rfl (fun h3 => ?_) (fun h3 => ?_))))))))
 ·have H0 := cond_t H0 h3
  refine sr (oS rfl (nn (cw_ret (kw_nx_ret ?_))))
  obtain rfl := sI H0
  exact kr Tryd.results3 (rT rfl) [] ⟨rfl, rfl⟩
 have H0 := cond_f H0 h3
 obtain ⟨x4, e4, H0⟩ := bS H0
 refine cw_skip (kw_nx (sr (oB3 0 ts28 rfl (oE (stpU_call (fun i => 1 + i) cf17 (fun w hw => c_l_toSystem fl w a0 rfl (RO.pass hr0_0 hw) rfl (RO.pass hr0_1 hw) rfl (ROD.pass hr0_2 hw) x4 e4) (yA rfl)) rfl ?_))))
 rintro _ _ ⟨_, ⟨p5, _, c7, C8, p9, _, c11, C12, p13, _, c15, C16, rfl, rfl, rfl, o8, rfl, o12, rfl, o16⟩, rfl⟩
 obtain ⟨x17, e17, H0⟩ := bS H0
 refine oE (stpU_call (fun i => 4 + i) cf16 (fun w hw => c_s_SystemValid fl w x4 rfl (OwnC.pass (id := 1) rfl o8 hw) rfl (OwnC.pass (id := 2) rfl o12 hw) rfl (OwnD.pass (id := 3) rfl o16 hw) x17 e17) (yA rfl)) rfl ?_
 rintro _ _ ⟨_, ⟨rfl, rfl⟩, rfl⟩
 obtain ⟨x18, e18, H0⟩ := bS H0
 refine oS rfl (nn (sr (oB3 0 ts28 rfl (oE (stpU_call (fun i => 4 + i) cf17 (fun w hw => c_l_toSystem fl w a0 rfl (RO.pass hr0_0 hw) rfl (RO.pass hr0_1 hw) rfl (ROD.pass hr0_2 hw) x18 e18) (yA rfl)) rfl ?_))))
 rintro _ _ ⟨_, ⟨p19, _, c21, C22, p23, _, c25, C26, p27, _, c29, C30, rfl, rfl, rfl, o22, rfl, o26, rfl, o30⟩, rfl⟩
 refine oE (stpU_alloc 7 tz36 rfl) rfl ?_
 rintro _ _ ⟨b31, rfl, rfl⟩
 obtain ⟨x32, e32, H0⟩ := bS H0
 refine oC3 7 ts36 rfl rfl (nn (sr (oB3 7 ts36 rfl (oE (stpU_call (fun i => 8 + i) cf18 (fun w hw => c_i_SystemValid fl w x18 rfl (OwnC.pass (id := 4) rfl o22 hw) rfl (OwnC.pass (id := 5) rfl o26 hw) rfl (OwnD.pass (id := 6) rfl o30 hw) (RO.pass hg hw) x32 e32) (yA rfl)) rfl ?_))))
 rintro _ _ ⟨_, ⟨rfl, rfl⟩, rfl⟩
 refine oS rfl (nn (cw_seq (sr (oM rfl (oM rfl (oD (stp_neqB Tryd.underlying4 rfl rfl) rfl (nn (cw_cond rfl (fun h33 => ?_) (fun h33 => ?_)))))))))
 ·have H0 := cond_t H0 h33
  refine sr (oS rfl (nn (cw_ret (kw_nx_ret ?_))))
  obtain rfl := sI H0
  exact kr Tryd.results3 (rT rfl) [] ⟨rfl, rfl⟩
 have H0 := cond_f H0 h33
 obtain ⟨x34, e34, H0⟩ := bS H0
 obtain ⟨x47, e47, H0⟩ := bS H0
 refine cw_skip (kw_nx (cw_seq (cw_seq (rdq g_mixed [1, 5] [0, 4, 5, 6, 7] { dst := dS [23, 24, 25, 26, 27], pre := gA [] [[], [], [1], [0, 1, 2], rn 0 4], ids := gA [] [[], [], [8, 9, 10]], rs := rL [[(5, 0)], [(1, 0)], [(23, 2)], [(22, 1), (24, 3)], [(25, 4)]], rh := rL [[(7, 0)], [(0, 0)], [], [(4, 0), (5, 0), (6, 0), (8, 3), (9, 3), (10, 3)]], V := fun i g => gA undef [.agg #[.slice p19 ((x18.t.b).length) c21, .slice p23 ((x18.t.f).length) c25, .slice p27 ((x18.c).length) c29], .agg #[.slice p0_0 ((a0.t.b).length) c0_0, .slice p0_1 ((a0.t.f).length) c0_1, .slice p0_2 ((a0.c).length) c0_2], .agg #[.slice ((g 2).A 0) ((x34.t.b).length) ((g 2).C 0), .slice ((g 2).A 1) ((x34.t.f).length) ((g 2).C 1), .slice ((g 2).A 2) ((x34.c).length) ((g 2).C 2)], .bool x47, .bool (!x47)] i, U := fun i g => gA [] [[], [], [(8, ((g 2).R 0)), (9, ((g 2).R 1)), (10, ((g 2).R 2))]] i, Φ := fun i x => gA True [True, True, OwnC 3 (x.A 0) (x.C 0) x34.t.b (x.R 0) ∧ OwnC 84 (x.A 1) (x.C 1) x34.t.f (x.R 1) ∧ OwnD 44 48 (x.A 2) (x.C 2) x34.c (x.R 2)] i } ?_ ?_))))
 ·refine ⟨lc rfl rfl fun hs hh => stp_loadN (us := [_, _, _]) ts36 (sv hs 5 rfl) (Cells.box (id := 7) (hh.get 7 _ rfl) 3 rfl), lc rfl rfl fun hs hh => stp_loadN (us := [_, _, _]) ts28 (sv hs 1 rfl) (Cells.box (id := 0) (hh.get 0 _ rfl) 3 rfl), ?_, ?_, lc rfl rfl fun hs hh => stp_not (sv hs 25 rfl), trivial⟩
  ·refine le rfl rfl (fun g hΦ s h hs hh => (stpU_call (fun i => 8 + i) cf17 (fun w hw => c_l_toSystem fl w a0 rfl (RO.pass hr0_0 hw) rfl (RO.pass hr0_1 hw) rfl (ROD.pass hr0_2 hw) x34 e34) (yA (sv hs 23 rfl)))) ?_
   rintro g _ _ ⟨_, ⟨p35, _, c37, C38, p39, _, c41, C42, p43, _, c45, C46, rfl, rfl, rfl, o38, rfl, o42, rfl, o46⟩, rfl⟩
   exact ⟨⟨[p35, p39, p43], [c37, c41, c45], [C38, C42, C46]⟩, ⟨o38, o42, o46⟩, .inr rfl, rfl⟩
  refine le rfl rfl (fun g hΦ s h hs hh => (stpU_call (fun i => 11 + i) cf19 (fun w hw => c_l_eqSystem fl w x18 x34 rfl (OwnC.pass (id := 4) (hh.get 4 _ rfl) o22 hw) rfl (OwnC.pass (id := 5) (hh.get 5 _ rfl) o26 hw) rfl (OwnD.pass (id := 6) (hh.get 6 _ rfl) o30 hw) rfl (OwnC.pass (id := 8) (hh.get 8 _ rfl) (hΦ 2 rfl).1 hw) rfl (OwnC.pass (id := 9) (hh.get 9 _ rfl) (hΦ 2 rfl).2.1 hw) rfl (OwnD.pass (id := 10) (hh.get 10 _ rfl) (hΦ 2 rfl).2.2 hw) x47 e47) (yB (sv hs 22 rfl) (sv hs 24 rfl)))) ?_
  rintro g _ _ ⟨_, ⟨rfl, rfl⟩, rfl⟩
  exact ⟨⟨[], [], []⟩, trivial, .inr rfl, rfl⟩
 intro g hΦ
 refine kw_gen (ι := Option Addr × Option Addr × Option Addr × Nat × Nat × Nat × Res × Res × Res) (((g 2).A 0), ((g 2).A 1), ((g 2).A 2), ((g 2).C 0), ((g 2).C 1), ((g 2).C 2), ((g 2).R 0), ((g 2).R 1), ((g 2).R 2)) (fun | (p35, p39, p43, c37, c41, c45, C38, C42, C46) => OwnC 3 p35 c37 x34.t.b C38 ∧ OwnC 84 p39 c41 x34.t.f C42 ∧ OwnD 44 48 p43 c45 x34.c C46) (fun | (p35, p39, p43, c37, c41, c45, C38, C42, C46) => [(26, .bool (!x47))]) (fun | (p35, p39, p43, c37, c41, c45, C38, C42, C46) => []) ⟨(hΦ 2 (by decide)).1, (hΦ 2 (by decide)).2.1, (hΦ 2 (by decide)).2.2⟩ ⟨rfl, trivial⟩ trivial ?_
 rintro ⟨p35, p39, p43, c37, c41, c45, C38, C42, C46⟩ ⟨o38, o42, o46⟩
 dsimp only
 refine kw_nx (cw_cond rfl (fun h48 => ?_) (fun h48 => ?_))
 ·have H0 := cond_t H0 h48
  refine sr (oS rfl (nn (cw_ret (kw_nx_ret ?_))))
  obtain rfl := sI H0
  exact kr Tryd.results3 (rT rfl) [] ⟨rfl, rfl⟩
 have H0 := cond_f H0 h48
 refine cw_skip (kw_nx (sr (oS rfl (nn (cw_ret ?_)))))
 obtain rfl := sI H0
 exact kr Tryd.results3 (rT rfl) [] ⟨rfl, rfl⟩
end Go.Proofs.YtfnliecmagnkdaaDoor
