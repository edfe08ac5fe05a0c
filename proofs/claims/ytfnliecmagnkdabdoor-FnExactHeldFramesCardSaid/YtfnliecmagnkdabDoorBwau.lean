/- The walks: functions of the program return what their pure functions say. Printed by a program (gen.py). -/
import Derived.Test.YtfnliecmagnkdabDoorBp
import Derived.Test.YtfnliecmagnkdabDoorBt
import Derived.Test.YtfnliecmagnkdabDoorMan
import Derived.Test.YtfnliecmagnkdabDoorMap
import Derived.Test.YtfnliecmagnkdabDoorCpy
import Derived.Test.YtfnliecmagnkdabDoorClr
import Derived.Test.YtfnliecmagnkdabDoorDp
import Derived.Test.YtfnliecmagnkdabDoorSrt
import Derived.Test.YtfnliecmagnkdabDoorE8
import Derived.Test.YtfnliecmagnkdabDoorBwaa
import Derived.Test.YtfnliecmagnkdabDoorBwat
set_option linter.unusedSimpArgs false
set_option linter.unusedVariables false
set_option linter.unusedSectionVars false
namespace Go.Proofs.YtfnliecmagnkdabDoor
open Go.RowKit
set_option maxHeartbeats 4000000
set_option maxRecDepth 20000
variable {p0_0 p0_1 p0_2 : Option Addr} {n0_0 n0_1 n0_2 : Nat} {c0_0 c0_1 c0_2 : Nat}
theorem c_l_FnExactHeldFrames (fl : Nat) (w : World) (a0 : Sy) (hn0_0 : n0_0 = (a0.t.b).length) (hr0_0 : RO w (hkeys []) (RdL p0_0 c0_0 a0.t.b)) (hn0_1 : n0_1 = (a0.t.f).length) (hr0_1 : RO w (hkeys []) (RdL p0_1 c0_1 a0.t.f)) (hn0_2 : n0_2 = (a0.c).length) (hr0_2 : ROD w (hkeys []) p0_2 c0_2 a0.c) (hg : RO w (hkeys []) (fun w' => w'.rangeAt 0 0 [.bool false, .int .i64 0, .int .i64 0, .int .i64 0, .int .i64 (-1)])) (r : Bool) (H0 : l_FnExactHeldFrames fl a0 = some r) :
  Ct Tryd.prog 7 [.agg #[.slice p0_0 n0_0 c0_0, .slice p0_1 n0_1 c0_1, .slice p0_2 n0_2 c0_2]] w [] (fun rv h' => rv = .bool r ∧ h' = []) := by
 subst hn0_0 hn0_1 hn0_2
 unfold l_FnExactHeldFrames at H0
 refine ct_of_cw Tryd.func7 rfl Tryd.ntmps7 rfl (Sat.refl _ _) ?_
 refine sr (oE (stpU_box 0 rfl rfl) rfl ?_)
 rintro _ _ ⟨b1, rfl, rfl⟩
 obtain ⟨x2, e2, H0⟩ := bS H0
 refine oS rfl (nn (sr (oS rfl (nn (sr (oB3 0 ts28 rfl (oM rfl (oE (stpU_call (fun i => 1 + i) cf10 (fun w hw => c_l_szSystem fl w a0 1048576 rfl (RO.pass hr0_0 hw) rfl (RO.pass hr0_1 hw) rfl (ROD.pass hr0_2 hw) x2 e2) (yB rfl rfl)) rfl ?_))))))))
 rintro _ _ ⟨_, ⟨rfl, rfl⟩, rfl⟩
 refine oS rfl (nn (cw_seq (sr (oM rfl (oW rfl (nn (cw_cond rfl (fun h3 => ?_) (fun h3 => ?_))))))))
 ·have H0 := cond_t H0 h3
  refine sr (oS rfl (nn (cw_ret (kw_nx_ret ?_))))
  obtain rfl := sI H0
  exact kr Tryd.results7 (rT rfl) [] ⟨rfl, rfl⟩
 have H0 := cond_f H0 h3
 obtain ⟨x4, e4, H0⟩ := bS H0
 refine cw_skip (kw_nx (sr (oB3 0 ts28 rfl (oE (stpU_call (fun i => 1 + i) cf12 (fun w hw => c_l_toSystem fl w a0 rfl (RO.pass hr0_0 hw) rfl (RO.pass hr0_1 hw) rfl (ROD.pass hr0_2 hw) x4 e4) (yA rfl)) rfl ?_))))
 rintro _ _ ⟨_, ⟨p5, _, c7, C8, p9, _, c11, C12, p13, _, c15, C16, rfl, rfl, rfl, o8, rfl, o12, rfl, o16⟩, rfl⟩
 obtain ⟨x17, e17, H0⟩ := bS H0
 refine oE (stpU_call (fun i => 4 + i) cf28 (fun w hw => c_s_HeldFrames fl w x4 rfl (OwnC.pass (id := 1) rfl o8 hw) rfl (OwnC.pass (id := 2) rfl o12 hw) rfl (OwnD.pass (id := 3) rfl o16 hw) x17 e17) (yA rfl)) rfl ?_
 rintro _ _ ⟨_, ⟨p18, _, c20, C21, rfl, rfl, rfl, o21⟩, rfl⟩
 obtain ⟨x22, e22, H0⟩ := bS H0
 refine oS rfl (nn (sr (oB3 0 ts28 rfl (oE (stpU_call (fun i => 5 + i) cf12 (fun w hw => c_l_toSystem fl w a0 rfl (RO.pass hr0_0 hw) rfl (RO.pass hr0_1 hw) rfl (ROD.pass hr0_2 hw) x22 e22) (yA rfl)) rfl ?_))))
 rintro _ _ ⟨_, ⟨p23, _, c25, C26, p27, _, c29, C30, p31, _, c33, C34, rfl, rfl, rfl, o26, rfl, o30, rfl, o34⟩, rfl⟩
 refine oE (stpU_alloc 8 tz37 rfl) rfl ?_
 rintro _ _ ⟨b35, rfl, rfl⟩
 obtain ⟨x36, e36, H0⟩ := bS H0
 refine oC3 8 ts37 rfl rfl (nn (sr (oB3 8 ts37 rfl (oE (stpU_call (fun i => 9 + i) cf29 (fun w hw => c_i_HeldFrames fl w x22 rfl (OwnC.pass (id := 5) rfl o26 hw) rfl (OwnC.pass (id := 6) rfl o30 hw) rfl (OwnD.pass (id := 7) rfl o34 hw) (RO.pass hg hw) x36 e36) (yA rfl)) rfl ?_))))
 rintro _ _ ⟨_, ⟨p37, _, c39, C40, rfl, rfl, rfl, o40⟩, rfl⟩
 obtain ⟨x41, e41, H0⟩ := bS H0
 refine oS rfl (nn (cw_seq (sr (oM rfl (oM rfl (oE (stpU_call (fun i => 10 + i) cf30 (fun w hw => c_l_eqIntS fl w x36 x17 rfl (OwnC.pass (id := 9) rfl o40 hw) rfl (OwnC.pass (id := 4) rfl o21 hw) x41 e41) (yB rfl rfl)) rfl ?_))))))
 rintro _ _ ⟨_, ⟨rfl, rfl⟩, rfl⟩
 refine oK rfl (nn (cw_cond rfl (fun h42 => ?_) (fun h42 => ?_)))
 ·have H0 := cond_t H0 h42
  refine sr (oS rfl (nn (cw_ret (kw_nx_ret ?_))))
  obtain rfl := sI H0
  exact kr Tryd.results7 (rT rfl) [] ⟨rfl, rfl⟩
 have H0 := cond_f H0 h42
 obtain ⟨x43, e43, H0⟩ := bS H0
 obtain ⟨x56, e56, H0⟩ := bS H0
 refine cw_skip (kw_nx (cw_seq (cw_seq (rdq g_mixed [1, 5] [0, 5, 6, 7, 8] { dst := dS [28, 29, 30, 31, 32], pre := gA [] [[], [], [1], [0, 1, 2], rn 0 4], ids := gA [] [[], [], [10, 11, 12]], rs := rL [[(5, 0)], [(1, 0)], [(28, 2)], [(27, 1), (29, 3)], [(30, 4)]], rh := rL [[(8, 0)], [(0, 0)], [], [(5, 0), (6, 0), (7, 0), (10, 3), (11, 3), (12, 3)]], V := fun i g => gA undef [.agg #[.slice p23 ((x22.t.b).length) c25, .slice p27 ((x22.t.f).length) c29, .slice p31 ((x22.c).length) c33], .agg #[.slice p0_0 ((a0.t.b).length) c0_0, .slice p0_1 ((a0.t.f).length) c0_1, .slice p0_2 ((a0.c).length) c0_2], .agg #[.slice ((g 2).A 0) ((x43.t.b).length) ((g 2).C 0), .slice ((g 2).A 1) ((x43.t.f).length) ((g 2).C 1), .slice ((g 2).A 2) ((x43.c).length) ((g 2).C 2)], .bool x56, .bool (!x56)] i, U := fun i g => gA [] [[], [], [(10, ((g 2).R 0)), (11, ((g 2).R 1)), (12, ((g 2).R 2))]] i, Φ := fun i x => gA True [True, True, OwnC 3 (x.A 0) (x.C 0) x43.t.b (x.R 0) ∧ OwnC 71 (x.A 1) (x.C 1) x43.t.f (x.R 1) ∧ OwnD 53 55 (x.A 2) (x.C 2) x43.c (x.R 2)] i } ?_ ?_))))
 ·refine ⟨lc rfl rfl fun hs hh => stp_loadN (us := [_, _, _]) ts37 (sv hs 5 rfl) (Cells.box (id := 8) (hh.get 8 _ rfl) 3 rfl), lc rfl rfl fun hs hh => stp_loadN (us := [_, _, _]) ts28 (sv hs 1 rfl) (Cells.box (id := 0) (hh.get 0 _ rfl) 3 rfl), ?_, ?_, lc rfl rfl fun hs hh => stp_not (sv hs 30 rfl), trivial⟩
  ·refine le rfl rfl (fun g hΦ s h hs hh => (stpU_call (fun i => 10 + i) cf12 (fun w hw => c_l_toSystem fl w a0 rfl (RO.pass hr0_0 hw) rfl (RO.pass hr0_1 hw) rfl (ROD.pass hr0_2 hw) x43 e43) (yA (sv hs 28 rfl)))) ?_
   rintro g _ _ ⟨_, ⟨p44, _, c46, C47, p48, _, c50, C51, p52, _, c54, C55, rfl, rfl, rfl, o47, rfl, o51, rfl, o55⟩, rfl⟩
   exact ⟨⟨[p44, p48, p52], [c46, c50, c54], [C47, C51, C55]⟩, ⟨o47, o51, o55⟩, .inr rfl, rfl⟩
  refine le rfl rfl (fun g hΦ s h hs hh => (stpU_call (fun i => 13 + i) cf15 (fun w hw => c_l_eqSystem fl w x22 x43 rfl (OwnC.pass (id := 5) (hh.get 5 _ rfl) o26 hw) rfl (OwnC.pass (id := 6) (hh.get 6 _ rfl) o30 hw) rfl (OwnD.pass (id := 7) (hh.get 7 _ rfl) o34 hw) rfl (OwnC.pass (id := 10) (hh.get 10 _ rfl) (hΦ 2 rfl).1 hw) rfl (OwnC.pass (id := 11) (hh.get 11 _ rfl) (hΦ 2 rfl).2.1 hw) rfl (OwnD.pass (id := 12) (hh.get 12 _ rfl) (hΦ 2 rfl).2.2 hw) x56 e56) (yB (sv hs 27 rfl) (sv hs 29 rfl)))) ?_
  rintro g _ _ ⟨_, ⟨rfl, rfl⟩, rfl⟩
  exact ⟨⟨[], [], []⟩, trivial, .inr rfl, rfl⟩
 intro g hΦ
 refine kw_gen (ι := Option Addr × Option Addr × Option Addr × Nat × Nat × Nat × Res × Res × Res) (((g 2).A 0), ((g 2).A 1), ((g 2).A 2), ((g 2).C 0), ((g 2).C 1), ((g 2).C 2), ((g 2).R 0), ((g 2).R 1), ((g 2).R 2)) (fun | (p44, p48, p52, c46, c50, c54, C47, C51, C55) => OwnC 3 p44 c46 x43.t.b C47 ∧ OwnC 71 p48 c50 x43.t.f C51 ∧ OwnD 53 55 p52 c54 x43.c C55) (fun | (p44, p48, p52, c46, c50, c54, C47, C51, C55) => [(1, .pointer (some ⟨b1, 0, none⟩)), (4, .slice p18 ((x17).length) c20), (5, .pointer (some ⟨b35, 0, none⟩)), (6, .slice p37 ((x36).length) c39), (31, .bool (!x56))]) (fun | (p44, p48, p52, c46, c50, c54, C47, C51, C55) => [(0, [(b1, .cells #[.slice p0_0 ((a0.t.b).length) c0_0, .slice p0_1 ((a0.t.f).length) c0_1, .slice p0_2 ((a0.c).length) c0_2] 28 (0, 0))]), (4, C21), (5, C26), (6, C30), (7, C34), (8, [(b35, .cells #[.slice p23 ((x22.t.b).length) c25, .slice p27 ((x22.t.f).length) c29, .slice p31 ((x22.c).length) c33] 37 (0, 0))]), (9, C40)]) ⟨(hΦ 2 (by decide)).1, (hΦ 2 (by decide)).2.1, (hΦ 2 (by decide)).2.2⟩ ⟨rfl, rfl, rfl, rfl, rfl, trivial⟩ ⟨rfl, rfl, rfl, rfl, rfl, rfl, rfl, trivial⟩ ?_
 rintro ⟨p44, p48, p52, c46, c50, c54, C47, C51, C55⟩ ⟨o47, o51, o55⟩
 dsimp only
 refine kw_nx (cw_cond rfl (fun h57 => ?_) (fun h57 => ?_))
 ·have H0 := cond_t H0 h57
  refine sr (oS rfl (nn (cw_ret (kw_nx_ret ?_))))
  obtain rfl := sI H0
  exact kr Tryd.results7 (rT rfl) [] ⟨rfl, rfl⟩
 have H0 := cond_f H0 h57
 obtain ⟨x58, e58, H0⟩ := bS H0
 refine cw_skip (kw_nx (sr (oS rfl (nn (sr (oB3 8 ts37 rfl (oM rfl (oE (stpU_callM (fun i => bif Nat.beq i 0 then 5 else bif Nat.beq i 1 then 6 else bif Nat.beq i 2 then 7 else 13 + i) cf16 (fun w hw hb => c_l_markSystem fl w x22 1 rfl o26 rfl o30 rfl o34 (hw.pass (js := [5, 6, 7]) ⟨5, [6, 7], rfl, rfl, 6, [7], rfl, rfl, 7, [], rfl, rfl, trivial⟩ (by decide)) x58 e58) (yB rfl rfl) ⟨rfl, (fun _ _ hp => by obtain ⟨_, _, _, _, rfl, _⟩ := hp; exact ⟨_, rfl⟩), rfl, (fun _ _ hp => by obtain ⟨_, _, _, _, rfl, _⟩ := hp; exact ⟨_, rfl⟩), rfl, (fun _ _ hp => by obtain ⟨_, _, _, _, rfl, _⟩ := hp; exact ⟨_, rfl⟩), trivial⟩) rfl ?_))))))))
 rintro _ _ ⟨_, ⟨C59, C60, C61, rfl, rfl, hl59, o59, hl60, o60, hl61, o61⟩, rfl⟩
 obtain ⟨y62, ey62, H0⟩ := bS H0
 refine oS rfl (nn (cw_seq (sr (oM rfl (oW rfl (oM rfl (ow_cutY 5 42 y62 ?_ ?_)))))))
 ·rcases Bool.eq_false_or_eq_true (decide (x58.1 < 0)) with hy62 | hy62
  ·have ey62 := cond_t ey62 hy62
   refine oO rfl hy62 rfl (oO rfl hy62 rfl (oO rfl hy62 rfl (oO rfl hy62 rfl (oD (stp_pick_t rfl hy62 rfl) rfl ?_))))
   obtain rfl := sI ey62
   exact ow_nil (jy 5 0)
  have ey62 := cond_f ey62 hy62
  refine oG rfl hy62 (mv rfl) rfl (oG rfl hy62 (mv rfl) rfl (ow_eff (.some rfl hy62) (stpU_call (fun i => 16 + i) cf30 (fun w hw => c_l_eqIntS fl w x36 x17 rfl (OwnC.pass (id := 9) rfl o40 hw) rfl (OwnC.pass (id := 4) rfl o21 hw) x41 e41) (yB rfl rfl)) rfl ?_))
  rintro _ _ ⟨_, ⟨rfl, rfl⟩, rfl⟩
  refine oG rfl hy62 (stp_not rfl) rfl (oD (stp_pick_f rfl hy62 rfl) rfl ?_)
  obtain rfl := sI ey62
  exact ow_nil (jy 5 0)
 refine ow_nil (kw_nx (cw_cond rfl (fun h63 => ?_) (fun h63 => ?_)))
 ·have H0 := cond_t H0 h63
  refine sr (oS rfl (nn (cw_ret (kw_nx_ret ?_))))
  obtain rfl := sI H0
  exact kr Tryd.results7 (rT rfl) [] ⟨rfl, rfl⟩
 have H0 := cond_f H0 h63
 obtain ⟨x64, e64, H0⟩ := bS H0
 refine cw_skip (kw_nx (sr (oS rfl (nn (sr (oM rfl (oM rfl (oE (stpU_callM (fun i => bif Nat.beq i 0 then 9 else 16 + i) cf31 (fun w hw hb => c_l_markIntS fl w x36 1 rfl o40 (hw.pass (js := [9]) ⟨9, [], rfl, rfl, trivial⟩ (by decide)) x64 e64) (yB rfl rfl) ⟨rfl, (fun _ _ hp => by obtain ⟨_, _, rfl, _⟩ := hp; exact ⟨_, rfl⟩), trivial⟩) rfl ?_))))))))
 rintro _ _ ⟨_, ⟨C65, rfl, rfl, hl65, o65⟩, rfl⟩
 obtain ⟨x66, e66, H0⟩ := bS H0
 refine oS rfl (nn (sr (oS rfl (nn (sr (oM rfl (oM rfl (oE (stpU_call (fun i => 17 + i) cf32 (fun w hw => c_l_heldIntS fl w x64.2 1 (by simp [hl65]) (OwnC.pass (id := 9) rfl o65 hw) x66 e66) (yB rfl rfl)) rfl ?_))))))))
 rintro _ _ ⟨_, ⟨rfl, rfl⟩, rfl⟩
 refine oS rfl (nn (cw_seq (sr (oM rfl (oW rfl (nn (cw_cond rfl (fun h67 => ?_) (fun h67 => ?_))))))))
 ·have H0 := cond_t H0 h67
  refine sr (oS rfl (nn (cw_ret (kw_nx_ret ?_))))
  obtain rfl := sI H0
  exact kr Tryd.results7 (rT rfl) [] ⟨rfl, rfl⟩
 have H0 := cond_f H0 h67
 refine cw_skip (kw_nx (cw_seq (sr (oM rfl (oM rfl (oU rfl (nn (cw_cond rfl (fun h68 => ?_) (fun h68 => ?_)))))))))
 ·have H0 := cond_t H0 h68
  refine sr (oS rfl (nn (cw_ret (kw_nx_ret ?_))))
  obtain rfl := sI H0
  exact kr Tryd.results7 (rT rfl) [] ⟨rfl, rfl⟩
 have H0 := cond_f H0 h68
 obtain ⟨x69, e69, H0⟩ := bS H0
 refine cw_skip (kw_nx (sr (oB3 0 ts28 rfl (oE (stpU_call (fun i => 17 + i) cf12 (fun w hw => c_l_toSystem fl w a0 rfl (RO.pass hr0_0 hw) rfl (RO.pass hr0_1 hw) rfl (ROD.pass hr0_2 hw) x69 e69) (yA rfl)) rfl ?_))))
 rintro _ _ ⟨_, ⟨p70, _, c72, C73, p74, _, c76, C77, p78, _, c80, C81, rfl, rfl, rfl, o73, rfl, o77, rfl, o81⟩, rfl⟩
 obtain ⟨x82, e82, H0⟩ := bS H0
 refine oE (stpU_call (fun i => 20 + i) cf29 (fun w hw => c_i_HeldFrames fl w x69 rfl (OwnC.pass (id := 17) rfl o73 hw) rfl (OwnC.pass (id := 18) rfl o77 hw) rfl (OwnD.pass (id := 19) rfl o81 hw) (RO.pass hg hw) x82 e82) (yA rfl)) rfl ?_
 rintro _ _ ⟨_, ⟨p83, _, c85, C86, rfl, rfl, rfl, o86⟩, rfl⟩
 obtain ⟨x87, e87, H0⟩ := bS H0
 refine oS rfl (nn (cw_seq (sr (oM rfl (oM rfl (oE (stpU_call (fun i => 21 + i) cf30 (fun w hw => c_l_eqIntS fl w x82 x17 rfl (OwnC.pass (id := 20) rfl o86 hw) rfl (OwnC.pass (id := 4) rfl o21 hw) x87 e87) (yB rfl rfl)) rfl ?_))))))
 rintro _ _ ⟨_, ⟨rfl, rfl⟩, rfl⟩
 refine oK rfl (nn (cw_cond rfl (fun h88 => ?_) (fun h88 => ?_)))
 ·have H0 := cond_t H0 h88
  refine sr (oS rfl (nn (cw_ret (kw_nx_ret ?_))))
  obtain rfl := sI H0
  exact kr Tryd.results7 (rT rfl) [] ⟨rfl, rfl⟩
 have H0 := cond_f H0 h88
 refine cw_skip (kw_nx (sr (oS rfl (nn (sr (oM rfl (oM rfl (oE (stpU_call (fun i => 21 + i) cf32 (fun w hw => c_l_heldIntS fl w x64.2 1 (by simp [hl65]) (OwnC.pass (id := 9) rfl o65 hw) x66 e66) (yB rfl rfl)) rfl ?_))))))))
 rintro _ _ ⟨_, ⟨rfl, rfl⟩, rfl⟩
 refine oS rfl (nn (cw_seq (sr (oM rfl (oW rfl (nn (cw_cond rfl (fun h89 => ?_) (fun h89 => ?_))))))))
 ·have H0 := cond_t H0 h89
  refine sr (oS rfl (nn (cw_ret (kw_nx_ret ?_))))
  obtain rfl := sI H0
  exact kr Tryd.results7 (rT rfl) [] ⟨rfl, rfl⟩
 have H0 := cond_f H0 h89
 refine cw_skip (kw_nx (cw_seq (sr (oM rfl (oM rfl (oU rfl (nn (cw_cond rfl (fun h90 => ?_) (fun h90 => ?_)))))))))
 ·have H0 := cond_t H0 h90
  refine sr (oS rfl (nn (cw_ret (kw_nx_ret ?_))))
  obtain rfl := sI H0
  exact kr Tryd.results7 (rT rfl) [] ⟨rfl, rfl⟩
 have H0 := cond_f H0 h90
 refine cw_skip (kw_nx (sr (oS rfl (nn (cw_ret ?_)))))
 obtain rfl := sI H0
 exact kr Tryd.results7 (rT rfl) [] ⟨rfl, rfl⟩
end Go.Proofs.YtfnliecmagnkdabDoor
