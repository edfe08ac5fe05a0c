/- The walks: functions of the program return what their pure functions say. Printed by a program (gen.py). -/
import Derived.Test.YtfnliecmagnkdaaDoorGp
import Derived.Test.YtfnliecmagnkdaaDoorGt
import Derived.Test.YtfnliecmagnkdaaDoorMan
import Derived.Test.YtfnliecmagnkdaaDoorMap
import Derived.Test.YtfnliecmagnkdaaDoorCpy
import Derived.Test.YtfnliecmagnkdaaDoorClr
import Derived.Test.YtfnliecmagnkdaaDoorDp
import Derived.Test.YtfnliecmagnkdaaDoorSrt
import Derived.Test.YtfnliecmagnkdaaDoorE8
import Derived.Test.YtfnliecmagnkdaaDoorGwac
import Derived.Test.YtfnliecmagnkdaaDoorGwae
import Derived.Test.YtfnliecmagnkdaaDoorGwas
import Derived.Test.YtfnliecmagnkdaaDoorGwat
import Derived.Test.YtfnliecmagnkdaaDoorGws
set_option linter.unusedSimpArgs false
set_option linter.unusedVariables false
set_option linter.unusedSectionVars false
namespace Go.Proofs.YtfnliecmagnkdaaDoor
open Go.RowKit
set_option maxHeartbeats 4000000
set_option maxRecDepth 20000
variable {p0_0 p0_1 p0_2 : Option Addr} {n0_0 n0_1 n0_2 : Nat} {c0_0 c0_1 c0_2 : Nat} {C0_0 : Res}
theorem c_s_DrawNewSystem (fl : Nat) (w : World) (a0 : (List UInt8)) (hn0_0 : n0_0 = (a0).length) (hr0_0 : RO w (hkeys []) (RdL p0_0 c0_0 a0)) (r : Int × Int × Int) (H0 : s_DrawNewSystem fl a0 = some r) :
  Ct Tryd.prog 31 [.slice p0_0 n0_0 c0_0] w [] (fun rv h' => rv = .tuple #[.int .i64 r.1, .int .i64 r.2.1, .int .i64 r.2.2] ∧ h' = []) := by
 subst hn0_0
 unfold s_DrawNewSystem at H0
 refine ct_of_cw Tryd.func31 rfl Tryd.ntmps31 rfl (Sat.refl _ _) ?_
 refine sr (oS rfl (oS rfl (oS rfl (nn (sr (oM rfl (oE (stpU_call (fun i => 0 + i) cf56 (fun w hw => c_open56 w a0 p0_0 ((a0).length) c0_0 rfl (RO.cap hr0_0).1) (yA rfl)) rfl ?_)))))))
 rintro _ _ ⟨_, ⟨b1, rfl, rfl⟩, rfl⟩
 refine oS rfl (nn (sr (oM rfl (oE (stpU_lit (sz := 1) (l := [4, 16, 1, 0]) [.int .i64 4, .int .i64 16, .int .i64 1, .int .i64 0] sl22 1 (sevp_cons rfl (sevp_cons rfl (sevp_cons rfl (sevp_cons rfl sevp_nil)))) rfl rfl rfl rfl rfl rfl rfl rfl rfl) rfl ?_))))
 rintro _ _ ⟨p2, C3, rfl, rfl, o3⟩
 obtain ⟨x4, e4, H0⟩ := bS H0
 refine oE (stpU_callM (fun i => bif Nat.beq i 0 then 0 else 2 + i) cf83 (fun w hw hb => c_s_l12Rd_num fl w b1 (a0.take 2000) 0 ([4, 16, 1, 0]) rfl (RO.passM (RO.takeN 2000 hr0_0) hw hb) (by simp) (OwnC.passM (id := 1) rfl o3 hw hb ⟨rfl, trivial⟩) (hw.pass (js := [0]) ⟨0, [], rfl, rfl, trivial⟩ (by decide)) x4 e4) (yB rfl rfl) ⟨rfl, (fun _ _ hp => by obtain ⟨_, rfl⟩ := hp; exact ⟨_, rfl⟩), trivial⟩) rfl ?_
 rintro _ _ ⟨_, ⟨rfl, rfl⟩, rfl⟩
 refine oM rfl (oE (stpU_lit (sz := 1) (l := [4, 1, 16, 17]) [.int .i64 4, .int .i64 1, .int .i64 16, .int .i64 17] sl22 3 (sevp_cons rfl (sevp_cons rfl (sevp_cons rfl (sevp_cons rfl sevp_nil)))) rfl rfl rfl rfl rfl rfl rfl rfl rfl) rfl ?_)
 rintro _ _ ⟨p5, C6, rfl, rfl, o6⟩
 obtain ⟨x7, e7, H0⟩ := bS H0
 refine oE (stpU_callM (fun i => bif Nat.beq i 0 then 0 else 4 + i) cf83 (fun w hw hb => c_s_l12Rd_num fl w b1 (a0.take 2000) x4.2 ([4, 1, 16, 17]) rfl (RO.passM (RO.takeN 2000 hr0_0) hw hb) (by simp) (OwnC.passM (id := 3) rfl o6 hw hb ⟨rfl, trivial⟩) (hw.pass (js := [0]) ⟨0, [], rfl, rfl, trivial⟩ (by decide)) x7 e7) (yB rfl rfl) ⟨rfl, (fun _ _ hp => by obtain ⟨_, rfl⟩ := hp; exact ⟨_, rfl⟩), trivial⟩) rfl ?_
 rintro _ _ ⟨_, ⟨rfl, rfl⟩, rfl⟩
 refine oM rfl (oE (stpU_lit (sz := 1) (l := [2, 4, 1, 0, 5]) [.int .i64 2, .int .i64 4, .int .i64 1, .int .i64 0, .int .i64 5] sl22 5 (sevp_cons rfl (sevp_cons rfl (sevp_cons rfl (sevp_cons rfl (sevp_cons rfl sevp_nil))))) rfl rfl rfl rfl rfl rfl rfl rfl rfl) rfl ?_)
 rintro _ _ ⟨p8, C9, rfl, rfl, o9⟩
 obtain ⟨x10, e10, H0⟩ := bS H0
 refine oE (stpU_callM (fun i => bif Nat.beq i 0 then 0 else 6 + i) cf83 (fun w hw hb => c_s_l12Rd_num fl w b1 (a0.take 2000) x7.2 ([2, 4, 1, 0, 5]) rfl (RO.passM (RO.takeN 2000 hr0_0) hw hb) (by simp) (OwnC.passM (id := 5) rfl o9 hw hb ⟨rfl, trivial⟩) (hw.pass (js := [0]) ⟨0, [], rfl, rfl, trivial⟩ (by decide)) x10 e10) (yB rfl rfl) ⟨rfl, (fun _ _ hp => by obtain ⟨_, rfl⟩ := hp; exact ⟨_, rfl⟩), trivial⟩) rfl ?_
 rintro _ _ ⟨_, ⟨rfl, rfl⟩, rfl⟩
 refine oS rfl (oS rfl (oS rfl (nn (cw_ret ?_))))
 obtain rfl := sI H0
 exact kr Tryd.results31 (.cons (.tmp rfl) (.cons (.tmp rfl) (rT rfl))) [] ⟨rfl, rfl⟩

theorem c_i_bucketsValid (fl : Nat) (w : World) (a0 : Int) (r : Bool) (H0 : i_bucketsValid fl a0 = some r) :
  Ct Tryd.prog 109 [.int .i64 a0] w [] (fun rv h' => rv = .bool r ∧ h' = []) := by
 unfold i_bucketsValid at H0
 refine ct_of_cw Tryd.func109 rfl Tryd.ntmps109 rfl (Sat.refl _ _) ?_
 obtain ⟨y1, ey1, H0⟩ := bS H0
 refine sr (oS rfl (nn (sr (oM rfl (oI rfl (oM rfl (ow_cutY 3 8 y1 ?_ ?_)))))))
 ·rcases Bool.eq_false_or_eq_true (decide (1 ≤ a0)) with hy1 | hy1
  ·have ey1 := cond_t ey1 hy1
   refine oG rfl hy1 (mv rfl) rfl (oG rfl hy1 (stp_leq rfl rfl) rfl (oD (stp_pick_t rfl hy1 rfl) rfl ?_))
   obtain rfl := sI ey1
   exact ow_nil (jy 3 0)
  have ey1 := cond_f ey1 hy1
  refine oO rfl hy1 rfl (oO rfl hy1 rfl (oD (stp_pick_f rfl hy1 rfl) rfl ?_))
  obtain rfl := sI ey1
  exact ow_nil (jy 3 0)
 refine oS rfl (nn (cw_ret ?_))
 obtain rfl := sI H0
 exact kr Tryd.results109 (rT rfl) [] ⟨rfl, rfl⟩

theorem c_math_bits_Mul64 (fl : Nat) (w : World) (a0 : Int) (a1 : Int) (r : Int × Int) (H0 : math_bits_Mul64 fl a0 a1 = some r) :
  Ct Tryd.prog 173 [.int .u64 a0, .int .u64 a1] w [] (fun rv h' => rv = .tuple #[.int .u64 r.1, .int .u64 r.2] ∧ h' = []) := by
 unfold math_bits_Mul64 at H0
 refine ct_of_cw Tryd.func173 rfl Tryd.ntmps173 rfl (Sat.refl _ _) ?_
 refine sr (oS rfl (oS rfl (nn (sr (oM rfl (oD (stp_andU rfl rfl) rfl (oS rfl (nn (sr (oM rfl (oD (stp_shr (d := 4294967296) (by decide) rfl rfl) rfl (oS rfl (nn ?_)))))))))))))
 obtain ⟨x1, e1, H0⟩ := bS H0
 refine sr (oM rfl (oD (stp_andU rfl rfl) rfl (oS rfl (nn (sr (oM rfl (oD (stp_shr (d := 4294967296) (by decide) rfl rfl) rfl (oS rfl (nn (sr (oM rfl (oM rfl (oD (stp_mulU rfl rfl e1) rfl ?_)))))))))))))
 obtain ⟨x2, e2, H0⟩ := bS H0
 obtain ⟨x3, e3, H0⟩ := bS H0
 refine oS rfl (nn (sr (oM rfl (oM rfl (oD (stp_mulU rfl rfl e2) rfl (oM rfl (oD (stp_shr (d := 4294967296) (by decide) rfl rfl) rfl (oD (stp_addU rfl rfl e3) rfl (oS rfl (nn (sr (oM rfl (oD (stp_andU rfl rfl) rfl ?_)))))))))))))
 obtain ⟨x4, e4, H0⟩ := bS H0
 obtain ⟨x5, e5, H0⟩ := bS H0
 refine oS rfl (nn (sr (oM rfl (oD (stp_shr (d := 4294967296) (by decide) rfl rfl) rfl (oS rfl (nn (sr (oM rfl (oM rfl (oM rfl (oD (stp_mulU rfl rfl e4) rfl (oD (stp_addU rfl rfl e5) rfl (oS rfl ?_)))))))))))))
 obtain ⟨x6, e6, H0⟩ := bS H0
 obtain ⟨x7, e7, H0⟩ := bS H0
 obtain ⟨x8, e8, H0⟩ := bS H0
 refine nn (sr (oM rfl (oM rfl (oD (stp_mulU rfl rfl e6) rfl (oM rfl (oD (stp_addU rfl rfl e7) rfl (oM rfl (oD (stp_shr (d := 4294967296) (by decide) rfl rfl) rfl (oD (stp_addU rfl rfl e8) rfl (oS rfl (nn (sr (oM rfl ?_)))))))))))))
 obtain ⟨x9, e9, H0⟩ := bS H0
 refine oM rfl (oD (stp_mulU rfl rfl e9) rfl (oS rfl (nn (cw_ret ?_))))
 obtain rfl := sI H0
 exact kr Tryd.results173 (.cons (.tmp rfl) (rT rfl)) [] ⟨rfl, rfl⟩

theorem c_math_bits_Mul (fl : Nat) (w : World) (a0 : Int) (a1 : Int) (r : Int × Int) (H0 : math_bits_Mul fl a0 a1 = some r) :
  Ct Tryd.prog 155 [.int .u64 a0, .int .u64 a1] w [] (fun rv h' => rv = .tuple #[.int .u64 r.1, .int .u64 r.2] ∧ h' = []) := by
 unfold math_bits_Mul at H0
 refine ct_of_cw Tryd.func155 rfl Tryd.ntmps155 rfl (Sat.refl _ _) ?_
 refine sr (oS rfl (oS rfl (nn (cw_seq (cw_cond rfl (fun h1 => ?_) (fun h1 => ?_))))))
 ·cases h1
 have H0 := cond_f H0 h1
 obtain ⟨x2, e2, H0⟩ := bS H0
 refine cw_skip (kw_nx (sr (oM rfl (oM rfl (oE (stpU_call (fun i => 0 + i) cf173 (fun w hw => c_math_bits_Mul64 fl w a0 a1 x2 e2) (yB rfl rfl)) rfl ?_)))))
 rintro _ _ ⟨_, ⟨rfl, rfl⟩, rfl⟩
 refine oM rfl (oT rfl (oT rfl (oS rfl (oS rfl (nn (sr (oM rfl (oM rfl (oS rfl (oS rfl (nn (cw_ret ?_))))))))))))
 obtain rfl := sI H0
 exact kr Tryd.results155 (.cons (.tmp rfl) (rT rfl)) [] ⟨rfl, rfl⟩

theorem c_slices_Repeat_Int (fl : Nat) (w : World) (a0 : (List Int)) (a1 : Int) (hn0_0 : n0_0 = (a0).length) (hr0_0 : RO w (hkeys []) (RdL p0_0 c0_0 a0)) (r : (List Int)) (H0 : slices_Repeat_Int fl a0 a1 = some r) :
  Ct Tryd.prog 132 [.slice p0_0 n0_0 c0_0, .int .i64 a1] w [] (fun rv h' => ∃ (x0 : Option Addr) (y0 z0 : Nat) (C0 : Res), rv = .slice x0 y0 z0 ∧ h' = [(0, C0)] ∧ y0 = (r).length ∧ OwnC 3 x0 z0 r C0) := by
 subst hn0_0
 unfold slices_Repeat_Int at H0
 refine ct_of_cw Tryd.func132 rfl Tryd.ntmps132 rfl (Sat.refl _ _) ?_
 refine sr (oS rfl (nn (cw_seq (sr (oM rfl (oW rfl (nn (cw_cond rfl (fun h1 => ?_) (fun h1 => ?_)))))))))
 ·have H0 := cond_t H0 h1; cases H0
 have H0 := cond_f H0 h1
 obtain ⟨x2, e2, H0⟩ := bS H0
 obtain ⟨x3, e3, H0⟩ := bS H0
 obtain ⟨x4, e4, H0⟩ := bS H0
 refine cw_skip (kw_nx (sr (oM rfl (oD (stp_len Tryd.underlying22 rfl) rfl (oD (stp_convU Tryd.underlying3 Tryd.underlying141 rfl e2) rfl (oM rfl (oD (stp_convU Tryd.underlying3 Tryd.underlying141 rfl e3) rfl (oE (stpU_call (fun i => 0 + i) cf155 (fun w hw => c_math_bits_Mul fl w x2 x3 x4 e4) (yB rfl rfl)) rfl ?_))))))))
 rintro _ _ ⟨_, ⟨rfl, rfl⟩, rfl⟩
 obtain ⟨y5, ey5, H0⟩ := bS H0
 refine oM rfl (oT rfl (oT rfl (oS rfl (oS rfl (nn (cw_seq (sr (oM rfl (oJ rfl (oM rfl (ow_cutY 3 26 y5 ?_ ?_)))))))))))
 ·rcases Bool.eq_false_or_eq_true (decide (0 < x4.1)) with hy5 | hy5
  ·have ey5 := cond_t ey5 hy5
   refine oO rfl hy5 rfl (oO rfl hy5 rfl (oD (stp_pick_t rfl hy5 rfl) rfl ?_))
   obtain rfl := sI ey5
   exact ow_nil (jy 3 0)
  have ey5 := cond_f ey5 hy5
  refine oG rfl hy5 (mv rfl) rfl (oG rfl hy5 (stp_gtr rfl rfl) rfl (oD (stp_pick_f rfl hy5 rfl) rfl ?_))
  obtain rfl := sI ey5
  exact ow_nil (jy 3 0)
 refine ow_nil (kw_nx (cw_cond rfl (fun h6 => ?_) (fun h6 => ?_)))
 ·have H0 := cond_t H0 h6; cases H0
 have H0 := cond_f H0 h6
 obtain ⟨x7, e7, H0⟩ := bS H0
 obtain ⟨x8, e8, H0⟩ := bS H0
 refine cw_skip (kw_nx (sr (oM rfl (oD (stp_convI Tryd.underlying141 Tryd.underlying3 rfl e7) rfl (oE (stpU_make sl22 rfl 0 rfl rfl e8) rfl ?_)))))
 rintro _ _ ⟨p9, C10, rfl, rfl, o10⟩
 refine oS rfl (nn (sr (oM rfl (oM rfl (oE (stpU_copyW (id := 0) sl22 rfl (by simp) rfl rfl rfl o10 (Rdb.ro hr0_0)) rfl ?_)))))
 rintro _ _ ⟨C11, rfl, rfl, o11⟩
 obtain ⟨o0_0, eo0_0, H0⟩ := bS H0
 refine oS rfl (nn (cw_seq (cw_join (ι := (List Int) × Int × Res) (fun | (v12, v14, C13) => o0_0 = .out (v12, v14) ∧ x8 = (v12).length ∧ OwnC 3 p9 x8 v12 C13) (fun | (v12, v14, C13) => [(7, .slice p9 x8 x8), (8, .int .i64 v14)]) (fun | (v12, v14, C13) => [(0, C13)]) ?_ ?_)))
 ·refine cw_block (cw_loopS (ι := Nat × (List Int) × Int × Res) (js := [0]) (fun x => x.1) (fun | (fuel, v12, v14, C13) => slices_Repeat_Int_L0 fl x8 fuel v12 v14 = some o0_0 ∧ x8 = (v12).length ∧ OwnC 3 p9 x8 v12 C13) (fun | (_, v12, v14, C13) => [(7, .slice p9 x8 x8), (8, .int .i64 v14)]) (fun | (_, v12, v14, C13) => [(0, C13)]) (fl, (cpy (List.replicate x8 (0 : Int)) 0 a0), ((min (a0).length (((List.replicate x8 (0 : Int))).length - 0) : Nat) : Int), C11) ⟨eo0_0, (by simp [cpy_len]), o11⟩ ⟨rfl, rfl, trivial⟩ ⟨0, [], rfl, rfl, trivial⟩ (by decide) ?_)
  rintro ⟨fuel, v12, v14, C13⟩ ⟨H1, hl13, o13⟩
  have H1 : slices_Repeat_Int_L0 fl x8 fuel v12 v14 = some o0_0 := H1
  rcases fuel with _ | fuel
  ·rw [slices_Repeat_Int_L0.eq_1] at H1; cases H1
  rw [slices_Repeat_Int_L0.eq_2] at H1
  dsimp only
  refine cw_seq (sr (oM rfl (oM rfl (oD (stp_len Tryd.underlying22 rfl) rfl (oW rfl (nn (cw_cond rfl (fun h15 => ?_) (fun h15 => ?_))))))))
  ·have H1 := cond_t H1 h15
   obtain ⟨x16, e16, H1⟩ := bS H1
   obtain ⟨x17, e17, H1⟩ := bS H1
   obtain ⟨x19, e19, H1⟩ := bS H1
   refine cw_skip (kw_nx (cw_block (rdq g_mixed [7, 8] [0] { dst := dS [39, 40, 41, 42, 43, 44, 45, 46, 47, 9], pre := gA [] [[], [], [], [1, 2], [], [], [4, 5], rn 1 6, rn 0 8, rn 0 9], ids := gA [] [[], [], [], [], [], [], [], [0]], rs := rL [[(8, 0)], [(7, 0)], [(8, 0)], [(39, 2), (40, 3)], [(7, 0)], [(8, 0)], [(42, 5), (43, 6)], [(41, 4), (44, 7)], [(38, 1), (45, 8)], [(46, 9)]], rh := rL [[], [], [], [(0, 0)], [], [], [(0, 0)], [(0, 0)]], V := fun i g => gA undef [.int .i64 v14, .slice p9 x8 x8, .int .i64 v14, .slice (dropA p9 x8 v14 1) ((x16).length) (x8 - Int.toNat v14), .slice p9 x8 x8, .int .i64 v14, .slice p9 ((x17).length) x8, .int .i64 ((min (x17).length ((v12).length - (Int.toNat v14)) : Nat) : Int), .int .i64 x19, .int .i64 x19] i, U := fun i g => match i with | 7 => [(0, ((g 7).R 0))] | _ => [], Φ := fun i x => match i with | 7 => OwnC (α := Int) 3 p9 x8 (cpy v12 (Int.toNat v14) x17) (x.R 0) | _ => True } ?_ ?_)))
   ·refine ⟨lM, lM, lM, lc rfl rfl fun hs hh => stp_drop Tryd.underlying22 ts3 (sv hs 39 rfl) (by simp [hl13]) (sv hs 40 rfl) (Rdb.own (id := 0) (hh.get 0 _ rfl) o13) e16, lM, lM, lc rfl rfl fun hs hh => stp_take Tryd.underlying22 ts3 (sv hs 42 rfl) (by simp [hl13]) (sv hs 43 rfl) (Rdb.own (id := 0) (hh.get 0 _ rfl) o13) e17, ?_, lc rfl rfl fun hs hh => stp_add (sv hs 38 rfl) (sv hs 45 rfl) e19, lS, trivial⟩
    refine le rfl rfl (fun g hΦ s h hs hh => (stpU_copyD (id := 0) sl22 (sv hs 41 rfl) e16 rfl (sv hs 44 rfl) rfl (hh.get 0 _ rfl) o13 (Rdb.take (Rdb.own (id := 0) (hh.get 0 _ rfl) o13) e17))) ?_
    rintro g _ _ ⟨C18, rfl, rfl, o18⟩
    exact ⟨⟨[], [], [C18]⟩, o18, .inr rfl, rfl⟩
   intro g hΦ
   refine kw_gen (ι := Res) ((g 7).R 0) (fun | C18 => OwnC (α := Int) 3 p9 x8 (cpy v12 (Int.toNat v14) x17) C18) (fun | C18 => [(7, .slice p9 x8 x8), (8, .int .i64 x19)]) (fun | C18 => [(0, C18)]) (hΦ 7 (by decide)) ⟨rfl, rfl, trivial⟩ ⟨rfl, trivial⟩ ?_
   rintro C18 o18
   have o18 : OwnC (α := Int) 3 p9 x8 (cpy v12 (Int.toNat v14) x17) C18 := o18
   dsimp only
   exact kw_bl_normal (kw_lqS (js := [0]) (fuel, (cpy v12 (Int.toNat v14) x17), x19, C18) ⟨H1, (by simp [cpy_len, hl13]), o18⟩ (Nat.lt_succ_self _) ⟨rfl, rfl, trivial⟩ ⟨0, [], rfl, rfl, trivial⟩ (by decide))
  have H1 := cond_f H1 h15
  refine cw_exit (kw_nx_exit (kw_lq_exit (kw_bl ?_)))
  obtain rfl := sI H1
  exact kw_joinS (js := [0]) (v12, v14, C13) ⟨rfl, (by simp [hl13]), o13⟩ ⟨rfl, rfl, trivial⟩ ⟨0, [], rfl, rfl, trivial⟩ (by decide)
 rintro ⟨v12, v14, C13⟩ ⟨rfl, hl13, o13⟩
 dsimp only
 refine kw_nx (sr (oM rfl (oS rfl (nn (cw_ret ?_)))))
 obtain rfl := sI H0
 exact kr Tryd.results132 (rT rfl) [0] ⟨_, _, _, _, rfl, rfl, (by simp [hl13]), o13⟩

theorem c_slices_Repeat_Frame (fl : Nat) (w : World) (a0 : (List F)) (a1 : Int) (hn0_0 : n0_0 = (a0).length) (hr0_0 : RO w (hkeys []) (RdL p0_0 c0_0 a0)) (r : (List F)) (H0 : slices_Repeat_Frame fl a0 a1 = some r) :
  Ct Tryd.prog 133 [.slice p0_0 n0_0 c0_0, .int .i64 a1] w [] (fun rv h' => ∃ (x0 : Option Addr) (y0 z0 : Nat) (C0 : Res), rv = .slice x0 y0 z0 ∧ h' = [(0, C0)] ∧ y0 = (r).length ∧ OwnC 84 x0 z0 r C0) := by
 subst hn0_0
 unfold slices_Repeat_Frame at H0
 refine ct_of_cw Tryd.func133 rfl Tryd.ntmps133 rfl (Sat.refl _ _) ?_
 refine sr (oS rfl (nn (cw_seq (sr (oM rfl (oW rfl (nn (cw_cond rfl (fun h1 => ?_) (fun h1 => ?_)))))))))
 ·have H0 := cond_t H0 h1; cases H0
 have H0 := cond_f H0 h1
 obtain ⟨x2, e2, H0⟩ := bS H0
 obtain ⟨x3, e3, H0⟩ := bS H0
 obtain ⟨x4, e4, H0⟩ := bS H0
 refine cw_skip (kw_nx (sr (oM rfl (oD (stp_len Tryd.underlying31 rfl) rfl (oD (stp_convU Tryd.underlying3 Tryd.underlying141 rfl e2) rfl (oM rfl (oD (stp_convU Tryd.underlying3 Tryd.underlying141 rfl e3) rfl (oE (stpU_call (fun i => 0 + i) cf155 (fun w hw => c_math_bits_Mul fl w x2 x3 x4 e4) (yB rfl rfl)) rfl ?_))))))))
 rintro _ _ ⟨_, ⟨rfl, rfl⟩, rfl⟩
 obtain ⟨y5, ey5, H0⟩ := bS H0
 refine oM rfl (oT rfl (oT rfl (oS rfl (oS rfl (nn (cw_seq (sr (oM rfl (oJ rfl (oM rfl (ow_cutY 3 26 y5 ?_ ?_)))))))))))
 ·rcases Bool.eq_false_or_eq_true (decide (0 < x4.1)) with hy5 | hy5
  ·have ey5 := cond_t ey5 hy5
   refine oO rfl hy5 rfl (oO rfl hy5 rfl (oD (stp_pick_t rfl hy5 rfl) rfl ?_))
   obtain rfl := sI ey5
   exact ow_nil (jy 3 0)
  have ey5 := cond_f ey5 hy5
  refine oG rfl hy5 (mv rfl) rfl (oG rfl hy5 (stp_gtr rfl rfl) rfl (oD (stp_pick_f rfl hy5 rfl) rfl ?_))
  obtain rfl := sI ey5
  exact ow_nil (jy 3 0)
 refine ow_nil (kw_nx (cw_cond rfl (fun h6 => ?_) (fun h6 => ?_)))
 ·have H0 := cond_t H0 h6; cases H0
 have H0 := cond_f H0 h6
 obtain ⟨x7, e7, H0⟩ := bS H0
 obtain ⟨x8, e8, H0⟩ := bS H0
 refine cw_skip (kw_nx (sr (oM rfl (oD (stp_convI Tryd.underlying141 Tryd.underlying3 rfl e7) rfl (oE (stpU_make sl31 rfl 0 rfl rfl e8) rfl ?_)))))
 rintro _ _ ⟨p9, C10, rfl, rfl, o10⟩
 refine oS rfl (nn (sr (oM rfl (oM rfl (oE (stpU_copyW (id := 0) sl31 rfl (by simp) rfl rfl rfl o10 (Rdb.ro hr0_0)) rfl ?_)))))
 rintro _ _ ⟨C11, rfl, rfl, o11⟩
 obtain ⟨o0_0, eo0_0, H0⟩ := bS H0
 refine oS rfl (nn (cw_seq (cw_join (ι := (List F) × Int × Res) (fun | (v12, v14, C13) => o0_0 = .out (v12, v14) ∧ x8 = (v12).length ∧ OwnC 84 p9 x8 v12 C13) (fun | (v12, v14, C13) => [(7, .slice p9 x8 x8), (8, .int .i64 v14)]) (fun | (v12, v14, C13) => [(0, C13)]) ?_ ?_)))
 ·refine cw_block (cw_loopS (ι := Nat × (List F) × Int × Res) (js := [0]) (fun x => x.1) (fun | (fuel, v12, v14, C13) => slices_Repeat_Frame_L0 fl x8 fuel v12 v14 = some o0_0 ∧ x8 = (v12).length ∧ OwnC 84 p9 x8 v12 C13) (fun | (_, v12, v14, C13) => [(7, .slice p9 x8 x8), (8, .int .i64 v14)]) (fun | (_, v12, v14, C13) => [(0, C13)]) (fl, (cpy (List.replicate x8 (⟨false, (⟨0, 0⟩ : K), 0, 0⟩ : F)) 0 a0), ((min (a0).length (((List.replicate x8 (⟨false, (⟨0, 0⟩ : K), 0, 0⟩ : F))).length - 0) : Nat) : Int), C11) ⟨eo0_0, (by simp [cpy_len]), o11⟩ ⟨rfl, rfl, trivial⟩ ⟨0, [], rfl, rfl, trivial⟩ (by decide) ?_)
  rintro ⟨fuel, v12, v14, C13⟩ ⟨H1, hl13, o13⟩
  have H1 : slices_Repeat_Frame_L0 fl x8 fuel v12 v14 = some o0_0 := H1
  rcases fuel with _ | fuel
  ·rw [slices_Repeat_Frame_L0.eq_1] at H1; cases H1
  rw [slices_Repeat_Frame_L0.eq_2] at H1
  dsimp only
  refine cw_seq (sr (oM rfl (oM rfl (oD (stp_len Tryd.underlying31 rfl) rfl (oW rfl (nn (cw_cond rfl (fun h15 => ?_) (fun h15 => ?_))))))))
  ·have H1 := cond_t H1 h15
   obtain ⟨x16, e16, H1⟩ := bS H1
   obtain ⟨x17, e17, H1⟩ := bS H1
   obtain ⟨x19, e19, H1⟩ := bS H1
   refine cw_skip (kw_nx (cw_block (rdq g_mixed [7, 8] [0] { dst := dS [39, 40, 41, 42, 43, 44, 45, 46, 47, 9], pre := gA [] [[], [], [], [1, 2], [], [], [4, 5], rn 1 6, rn 0 8, rn 0 9], ids := gA [] [[], [], [], [], [], [], [], [0]], rs := rL [[(8, 0)], [(7, 0)], [(8, 0)], [(39, 2), (40, 3)], [(7, 0)], [(8, 0)], [(42, 5), (43, 6)], [(41, 4), (44, 7)], [(38, 1), (45, 8)], [(46, 9)]], rh := rL [[], [], [], [(0, 0)], [], [], [(0, 0)], [(0, 0)]], V := fun i g => gA undef [.int .i64 v14, .slice p9 x8 x8, .int .i64 v14, .slice (dropA p9 x8 v14 5) ((x16).length) (x8 - Int.toNat v14), .slice p9 x8 x8, .int .i64 v14, .slice p9 ((x17).length) x8, .int .i64 ((min (x17).length ((v12).length - (Int.toNat v14)) : Nat) : Int), .int .i64 x19, .int .i64 x19] i, U := fun i g => match i with | 7 => [(0, ((g 7).R 0))] | _ => [], Φ := fun i x => match i with | 7 => OwnC (α := F) 84 p9 x8 (cpy v12 (Int.toNat v14) x17) (x.R 0) | _ => True } ?_ ?_)))
   ·refine ⟨lM, lM, lM, lc rfl rfl fun hs hh => stp_drop Tryd.underlying31 ts84 (sv hs 39 rfl) (by simp [hl13]) (sv hs 40 rfl) (Rdb.own (id := 0) (hh.get 0 _ rfl) o13) e16, lM, lM, lc rfl rfl fun hs hh => stp_take Tryd.underlying31 ts84 (sv hs 42 rfl) (by simp [hl13]) (sv hs 43 rfl) (Rdb.own (id := 0) (hh.get 0 _ rfl) o13) e17, ?_, lc rfl rfl fun hs hh => stp_add (sv hs 38 rfl) (sv hs 45 rfl) e19, lS, trivial⟩
    refine le rfl rfl (fun g hΦ s h hs hh => (stpU_copyD (id := 0) sl31 (sv hs 41 rfl) e16 rfl (sv hs 44 rfl) rfl (hh.get 0 _ rfl) o13 (Rdb.take (Rdb.own (id := 0) (hh.get 0 _ rfl) o13) e17))) ?_
    rintro g _ _ ⟨C18, rfl, rfl, o18⟩
    exact ⟨⟨[], [], [C18]⟩, o18, .inr rfl, rfl⟩
   intro g hΦ
   refine kw_gen (ι := Res) ((g 7).R 0) (fun | C18 => OwnC (α := F) 84 p9 x8 (cpy v12 (Int.toNat v14) x17) C18) (fun | C18 => [(7, .slice p9 x8 x8), (8, .int .i64 x19)]) (fun | C18 => [(0, C18)]) (hΦ 7 (by decide)) ⟨rfl, rfl, trivial⟩ ⟨rfl, trivial⟩ ?_
   rintro C18 o18
   have o18 : OwnC (α := F) 84 p9 x8 (cpy v12 (Int.toNat v14) x17) C18 := o18
   dsimp only
   exact kw_bl_normal (kw_lqS (js := [0]) (fuel, (cpy v12 (Int.toNat v14) x17), x19, C18) ⟨H1, (by simp [cpy_len, hl13]), o18⟩ (Nat.lt_succ_self _) ⟨rfl, rfl, trivial⟩ ⟨0, [], rfl, rfl, trivial⟩ (by decide))
  have H1 := cond_f H1 h15
  refine cw_exit (kw_nx_exit (kw_lq_exit (kw_bl ?_)))
  obtain rfl := sI H1
  exact kw_joinS (js := [0]) (v12, v14, C13) ⟨rfl, (by simp [hl13]), o13⟩ ⟨rfl, rfl, trivial⟩ ⟨0, [], rfl, rfl, trivial⟩ (by decide)
 rintro ⟨v12, v14, C13⟩ ⟨rfl, hl13, o13⟩
 dsimp only
 refine kw_nx (sr (oM rfl (oS rfl (nn (cw_ret ?_)))))
 obtain rfl := sI H0
 exact kr Tryd.results133 (rT rfl) [0] ⟨_, _, _, _, rfl, rfl, (by simp [hl13]), o13⟩

theorem c_i_NewTable (fl : Nat) (w : World) (a0 : Int) (a1 : Int) (hg : RO w (hkeys []) (fun w' => w'.rangeAt 0 0 [.bool false, .int .i64 0, .int .i64 0, .int .i64 0, .int .i64 (-1)])) (r : T × Bool) (H0 : i_NewTable fl a0 a1 = some r) :
  Ct Tryd.prog 84 [.int .i64 a0, .int .i64 a1] w [] (fun rv h' => ∃ (x0 : Option Addr) (y0 z0 : Nat) (C0 : Res) (x1 : Option Addr) (y1 z1 : Nat) (C1 : Res), rv = .tuple #[.agg #[.slice x0 y0 z0, .slice x1 y1 z1], .bool r.2] ∧ h' = [(0, C0), (1, C1)] ∧ y0 = (r.1.b).length ∧ OwnC 3 x0 z0 r.1.b C0 ∧ y1 = (r.1.f).length ∧ OwnC 84 x1 z1 r.1.f C1) := by
 unfold i_NewTable at H0
 refine ct_of_cw Tryd.func84 rfl Tryd.ntmps84 rfl (Sat.refl _ _) ?_
 refine sr (oE (stpU_alloc 0 tz33 rfl) rfl ?_)
 rintro _ _ ⟨b1, rfl, rfl⟩
 obtain ⟨y2, ey2, H0⟩ := bS H0
 refine oS rfl (nn (cw_seq (sr (oM rfl (oW rfl (oM rfl (ow_cutY 3 11 y2 ?_ ?_)))))))
 ·rcases Bool.eq_false_or_eq_true (decide (a0 < 1)) with hy2 | hy2
  ·have ey2 := cond_t ey2 hy2
   refine oO rfl hy2 rfl (oO rfl hy2 rfl (oD (stp_pick_t rfl hy2 rfl) rfl ?_))
   obtain rfl := sI ey2
   exact ow_nil (jy 3 0)
  have ey2 := cond_f ey2 hy2
  refine oG rfl hy2 (mv rfl) rfl (oG rfl hy2 (stp_gtr rfl rfl) rfl (oD (stp_pick_f rfl hy2 rfl) rfl ?_))
  obtain rfl := sI ey2
  exact ow_nil (jy 3 0)
 obtain ⟨y3, ey3, H0⟩ := bS H0
 refine oM rfl (ow_cutY 4 16 y3 ?_ ?_)
 ·rcases Bool.eq_false_or_eq_true y2 with hy3 | hy3
  ·have ey3 := cond_t ey3 hy3
   refine oO rfl hy3 rfl (oO rfl hy3 rfl (oO rfl hy3 rfl (oD (stp_pick_t rfl hy3 rfl) rfl ?_)))
   obtain rfl := sI ey3
   exact ow_nil (jy 4 0)
  have ey3 := cond_f ey3 hy3
  obtain ⟨x4, e4, ey3⟩ := bS ey3
  refine oG rfl hy3 (mv rfl) rfl (ow_eff (.some rfl hy3) (stpU_call (fun i => 1 + i) cf109 (fun w hw => c_i_bucketsValid fl w a1 x4 e4) (yA rfl)) rfl ?_)
  rintro _ _ ⟨_, ⟨rfl, rfl⟩, rfl⟩
  refine oG rfl hy3 (stp_not rfl) rfl (oD (stp_pick_f rfl hy3 rfl) rfl ?_)
  obtain rfl := sI ey3
  exact ow_nil (jy 4 0)
 refine ow_nil (kw_nx (cw_cond rfl (fun h5 => ?_) (fun h5 => ?_)))
 ·have H0 := cond_t H0 h5
  refine sr (oD (stp_build (cs := #[.slice none 0 0, .slice none 0 0]) sevp_nil bt33_0) rfl (oC2 0 ts33 rfl rfl (oS rfl (nn (cw_ret (kw_nx_ret (kw_addNil 1 (kw_addNil 2 ?_))))))))
  obtain rfl := sI H0
  exact kr Tryd.results84 (.cons (.cellN (us := [_, _]) ts33 rfl (Cells.box (id := 0) rfl 2 rfl)) (rT rfl)) [1, 2] ⟨_, _, _, _, _, _, _, _, rfl, rfl, rfl, (OwnC.nil _ _), rfl, (OwnC.nil _ _)⟩
 have H0 := cond_f H0 h5
 obtain ⟨x8, e8, H0⟩ := bS H0
 obtain ⟨x15, e15, H0⟩ := bS H0
 refine cw_skip (kw_nx (cw_seq (rdq g_mixed [0, 1, 4] [0] { dst := dS [19, 20, 21, 22, 23, 24, 25, 26, 0, 6], pre := gA [] [[], [], [0, 1], [], [3], [], rn 0 6, rn 0 7, rn 0 8, rn 0 9], ids := gA [] [[3], [], [4], [], [5], [], [6], [], [0]], rs := rL [[], [(1, 0)], [(18, 1), (19, 2)], [], [(21, 4)], [(0, 0)], [(22, 5), (23, 6)], [(20, 3), (24, 7)], [(4, 0), (25, 8)], []], rh := rL [[], [], [(3, 1)], [], [], [], [(5, 5)], [], [(0, 0)]], V := fun i g => gA undef [.slice ((g 0).A 0) 1 1, .int .i64 a1, .slice ((g 2).A 0) ((x8).length) ((g 2).C 0), .agg #[.bool false, .int .i64 0, .int .i64 0, .int .i64 0, .int .i64 (-1)], .slice ((g 4).A 0) 1 1, .int .i64 a0, .slice ((g 6).A 0) ((x15).length) ((g 6).C 0), .agg #[.slice ((g 2).A 0) ((x8).length) ((g 2).C 0), .slice ((g 6).A 0) ((x15).length) ((g 6).C 0)], undef, .bool true] i, U := fun i g => gA [] [[(3, ((g 0).R 0))], [], [(4, ((g 2).R 0))], [], [(5, ((g 4).R 0))], [], [(6, ((g 6).R 0))], [], [(0, [(b1, .cells #[.slice ((g 2).A 0) ((x8).length) ((g 2).C 0), .slice ((g 6).A 0) ((x15).length) ((g 6).C 0)] 33 (0, 0))])]] i, Φ := fun i x => gA True [OwnC (α := Int) 3 (x.A 0) 1 ([(-1)]) (x.R 0), True, OwnC 3 (x.A 0) (x.C 0) x8 (x.R 0), True, OwnC (α := F) 84 (x.A 0) 1 ([(⟨false, (⟨0, 0⟩ : K), 0, (-1)⟩ : F)]) (x.R 0), True, OwnC 84 (x.A 0) (x.C 0) x15 (x.R 0)] i } ?_ ?_)))
 ·refine ⟨?_, lM, ?_, lc rfl rfl fun hs hh => stp_loadN (us := [_, _, _, _, _]) ts84 rfl (Cells.ofRO hg 5 rfl), ?_, lM, ?_, ld rfl rfl fun g hΦ s h hs hh => stp_build (cs := #[.slice ((g 2).A 0) ((x8).length) ((g 2).C 0), .slice ((g 6).A 0) ((x15).length) ((g 6).C 0)]) (sevp_cons (sv hs 20 rfl) (sevp_cons (sv hs 24 rfl) sevp_nil)) bt33_5, ?_, lc rfl rfl fun hs hh => stp_assign rfl, trivial⟩
  ·refine le rfl rfl (fun g hΦ s h hs hh => (stpU_lit (sz := 1) (l := [(-1)]) [.int .i64 (-1)] sl22 3 (sevp_cons rfl sevp_nil) rfl rfl rfl rfl rfl rfl rfl rfl rfl)) ?_
   rintro g _ _ ⟨p6, C7, rfl, rfl, o7⟩
   exact ⟨⟨[p6], [], [C7]⟩, o7, .inr rfl, rfl⟩
  ·refine le rfl rfl (fun g hΦ s h hs hh => (stpU_call (fun i => 4 + i) cf132 (fun w hw => c_slices_Repeat_Int fl w ([(-1)]) a1 (by simp) (OwnC.pass (id := 3) (hh.get 3 _ rfl) (hΦ 0 rfl) hw) x8 e8) (yB (sv hs 18 rfl) (sv hs 19 rfl)))) ?_
   rintro g _ _ ⟨_, ⟨p9, _, c11, C12, rfl, rfl, rfl, o12⟩, rfl⟩
   exact ⟨⟨[p9], [c11], [C12]⟩, o12, .inr rfl, rfl⟩
  ·refine le rfl rfl (fun g hΦ s h hs hh => (stpU_lit (sz := 5) (l := [(⟨false, (⟨0, 0⟩ : K), 0, (-1)⟩ : F)]) [.agg #[.bool false, .int .i64 0, .int .i64 0, .int .i64 0, .int .i64 (-1)]] sl31 5 (sevp_cons (sv hs 21 rfl) sevp_nil) rfl rfl rfl rfl rfl rfl rfl rfl rfl)) ?_
   rintro g _ _ ⟨p13, C14, rfl, rfl, o14⟩
   exact ⟨⟨[p13], [], [C14]⟩, o14, .inr rfl, rfl⟩
  ·refine le rfl rfl (fun g hΦ s h hs hh => (stpU_call (fun i => 6 + i) cf133 (fun w hw => c_slices_Repeat_Frame fl w ([(⟨false, (⟨0, 0⟩ : K), 0, (-1)⟩ : F)]) a0 (by simp) (OwnC.pass (id := 5) (hh.get 5 _ rfl) (hΦ 4 rfl) hw) x15 e15) (yB (sv hs 22 rfl) (sv hs 23 rfl)))) ?_
   rintro g _ _ ⟨_, ⟨p16, _, c18, C19, rfl, rfl, rfl, o19⟩, rfl⟩
   exact ⟨⟨[p16], [c18], [C19]⟩, o19, .inr rfl, rfl⟩
  refine le rfl rfl (fun g hΦ s h hs hh => (stpU_store (id := 0) (cs' := [.slice ((g 2).A 0) ((x8).length) ((g 2).C 0), .slice ((g 6).A 0) ((x15).length) ((g 6).C 0)]) ts33 (sv hs 4 rfl) (sv hs 25 rfl) (hh.get 0 _ rfl) rfl rfl rfl rfl)) ?_
  rintro g _ _ rfl
  exact ⟨⟨[], [], []⟩, trivial, .inl rfl, rfl⟩
 intro g hΦ
 refine kw_gen (ι := Option Addr × Res × Option Addr × Nat × Res × Option Addr × Res × Option Addr × Nat × Res) (((g 0).A 0), ((g 0).R 0), ((g 2).A 0), ((g 2).C 0), ((g 2).R 0), ((g 4).A 0), ((g 4).R 0), ((g 6).A 0), ((g 6).C 0), ((g 6).R 0)) (fun | (p6, C7, p9, c11, C12, p13, C14, p16, c18, C19) => OwnC (α := Int) 3 p6 1 ([(-1)]) C7 ∧ OwnC 3 p9 c11 x8 C12 ∧ OwnC (α := F) 84 p13 1 ([(⟨false, (⟨0, 0⟩ : K), 0, (-1)⟩ : F)]) C14 ∧ OwnC 84 p16 c18 x15 C19) (fun | (p6, C7, p9, c11, C12, p13, C14, p16, c18, C19) => [(4, .pointer (some ⟨b1, 0, none⟩)), (5, .bool true)]) (fun | (p6, C7, p9, c11, C12, p13, C14, p16, c18, C19) => [(0, [(b1, .cells #[.slice p9 ((x8).length) c11, .slice p16 ((x15).length) c18] 33 (0, 0))]), (4, C12), (6, C19)]) ⟨(hΦ 0 (by decide)), (hΦ 2 (by decide)), (hΦ 4 (by decide)), (hΦ 6 (by decide))⟩ ⟨rfl, rfl, trivial⟩ ⟨rfl, rfl, rfl, trivial⟩ ?_
 rintro ⟨p6, C7, p9, c11, C12, p13, C14, p16, c18, C19⟩ ⟨o7, o12, o14, o19⟩
 dsimp only
 refine kw_nx (cw_ret ?_)
 obtain rfl := sI H0
 exact kr Tryd.results84 (.cons (.cellN (us := [_, _]) ts33 rfl (Cells.box (id := 0) rfl 2 rfl)) (rT rfl)) [4, 6] ⟨_, _, _, _, _, _, _, _, rfl, rfl, rfl, o12, rfl, o19⟩

theorem c_i_NewSystem (fl : Nat) (w : World) (a0 : Int) (a1 : Int) (a2 : Int) (hg : RO w (hkeys []) (fun w' => w'.rangeAt 0 0 [.bool false, .int .i64 0, .int .i64 0, .int .i64 0, .int .i64 (-1)])) (r : Sy × Bool) (H0 : i_NewSystem fl a0 a1 a2 = some r) :
  Ct Tryd.prog 32 [.int .i64 a0, .int .i64 a1, .int .i64 a2] w [] (fun rv h' => ∃ (x0 : Option Addr) (y0 z0 : Nat) (C0 : Res) (x1 : Option Addr) (y1 z1 : Nat) (C1 : Res) (x2 : Option Addr) (y2 z2 : Nat) (C2 : Res), rv = .tuple #[.agg #[.slice x0 y0 z0, .slice x1 y1 z1, .slice x2 y2 z2], .bool r.2] ∧ h' = [(0, C0), (1, C1), (2, C2)] ∧ y0 = (r.1.t.b).length ∧ OwnC 3 x0 z0 r.1.t.b C0 ∧ y1 = (r.1.t.f).length ∧ OwnC 84 x1 z1 r.1.t.f C1 ∧ y2 = (r.1.c).length ∧ OwnD 44 48 x2 z2 r.1.c C2) := by
 unfold i_NewSystem at H0
 refine ct_of_cw Tryd.func32 rfl Tryd.ntmps32 rfl (Sat.refl _ _) ?_
 refine sr (oE (stpU_alloc 0 tz36 rfl) rfl ?_)
 rintro _ _ ⟨b1, rfl, rfl⟩
 obtain ⟨x2, e2, H0⟩ := bS H0
 refine oS rfl (nn (sr (oM rfl (oM rfl (oE (stpU_call (fun i => 1 + i) cf84 (fun w hw => c_i_NewTable fl w a0 a1 (RO.pass hg hw) x2 e2) (yB rfl rfl)) rfl ?_)))))
 rintro _ _ ⟨_, ⟨p3, _, c5, C6, p7, _, c9, C10, rfl, rfl, rfl, o6, rfl, o10⟩, rfl⟩
 refine oM rfl (oT rfl (oT rfl (oE (stpU_alloc 3 tz33 rfl) rfl ?_)))
 rintro _ _ ⟨b11, rfl, rfl⟩
 obtain ⟨y12, ey12, H0⟩ := bS H0
 refine oC2 3 ts33 rfl rfl (oS rfl (nn (cw_seq (sr (oM rfl (oK rfl (oM rfl (ow_cutY 3 21 y12 ?_ ?_))))))))
 ·rcases Bool.eq_false_or_eq_true (!x2.2) with hy12 | hy12
  ·have ey12 := cond_t ey12 hy12
   refine oO rfl hy12 rfl (oO rfl hy12 rfl (oD (stp_pick_t rfl hy12 rfl) rfl ?_))
   obtain rfl := sI ey12
   exact ow_nil (jy 3 0)
  have ey12 := cond_f ey12 hy12
  refine oG rfl hy12 (mv rfl) rfl (oG rfl hy12 (stp_lss rfl rfl) rfl (oD (stp_pick_f rfl hy12 rfl) rfl ?_))
  obtain rfl := sI ey12
  exact ow_nil (jy 3 0)
 obtain ⟨y13, ey13, H0⟩ := bS H0
 refine oM rfl (ow_cutY 3 25 y13 ?_ ?_)
 ·rcases Bool.eq_false_or_eq_true y12 with hy13 | hy13
  ·have ey13 := cond_t ey13 hy13
   refine oO rfl hy13 rfl (oO rfl hy13 rfl (oD (stp_pick_t rfl hy13 rfl) rfl ?_))
   obtain rfl := sI ey13
   exact ow_nil (jy 3 0)
  have ey13 := cond_f ey13 hy13
  refine oG rfl hy13 (mv rfl) rfl (oG rfl hy13 (stp_gtr rfl rfl) rfl (oD (stp_pick_f rfl hy13 rfl) rfl ?_))
  obtain rfl := sI ey13
  exact ow_nil (jy 3 0)
 refine ow_nil (kw_nx (cw_cond rfl (fun h14 => ?_) (fun h14 => ?_)))
 ·have H0 := cond_t H0 h14
  refine sr (oD (stp_build (cs := #[.slice none 0 0, .slice none 0 0, .slice none 0 0]) sevp_nil bt36_2) rfl (oC3 0 ts36 rfl rfl (oS rfl (nn (cw_ret (kw_nx_ret (kw_addNil 4 (kw_addNil 5 (kw_addNil 6 ?_)))))))))
  obtain rfl := sI H0
  exact kr Tryd.results32 (.cons (.cellN (us := [_, _, _]) ts36 rfl (Cells.box (id := 0) rfl 3 rfl)) (rT rfl)) [4, 5, 6] ⟨_, _, _, _, _, _, _, _, _, _, _, _, rfl, rfl, rfl, (OwnC.nil _ _), rfl, (OwnC.nil _ _), rfl, (OwnD.nil _ _ _)⟩
 have H0 := cond_f H0 h14
 obtain ⟨x15, e15, H0⟩ := bS H0
 refine cw_skip (kw_nx (cw_seq (rdq g_mixed [2, 6, 8] [0, 3] { dst := dS [28, 29, 30, 31, 0, 8], pre := gA [] [[], [], [1], [0, 1, 2], rn 0 4, rn 0 5], ids := gA [] [[], [], [7], [], [0]], rs := rL [[(8, 0)], [(2, 0)], [(28, 2)], [(27, 1), (29, 3)], [(6, 0), (30, 4)], []], rh := rL [[(3, 0)], [], [], [], [(0, 0)]], V := fun i g => gA undef [.agg #[.slice p3 ((x2.1.b).length) c5, .slice p7 ((x2.1.f).length) c9], .int .i64 a2, .slice ((g 2).A 0) x15 x15, .agg #[.slice p3 ((x2.1.b).length) c5, .slice p7 ((x2.1.f).length) c9, .slice ((g 2).A 0) x15 x15], undef, .bool true] i, U := fun i g => gA [] [[], [], [(7, ((g 2).R 0))], [], [(0, [(b1, .cells #[.slice p3 ((x2.1.b).length) c5, .slice p7 ((x2.1.f).length) c9, .slice ((g 2).A 0) x15 x15] 36 (0, 0))])]] i, Φ := fun i x => gA True [True, True, OwnD 44 48 (x.A 0) x15 (List.replicate x15 (⟨[], []⟩ : Cp)) (x.R 0)] i } ?_ ?_)))
 ·refine ⟨lc rfl rfl fun hs hh => stp_loadN (us := [_, _]) ts33 (sv hs 8 rfl) (Cells.box (id := 3) (hh.get 3 _ rfl) 2 rfl), lM, ?_, ld rfl rfl fun g hΦ s h hs hh => stp_build (cs := #[.slice p3 ((x2.1.b).length) c5, .slice p7 ((x2.1.f).length) c9, .slice ((g 2).A 0) x15 x15]) (sevp_cons (sv hs 27 rfl) (sevp_cons (sv hs 29 rfl) sevp_nil)) bt36_3, ?_, lc rfl rfl fun hs hh => stp_assign rfl, trivial⟩
  ·refine le rfl rfl (fun g hΦ s h hs hh => (stpU_makeD 48 sl34 rfl 7 (sv hs 28 rfl) (sv hs 28 rfl) e15)) ?_
   rintro g _ _ ⟨p16, C17, rfl, rfl, o17⟩
   exact ⟨⟨[p16], [], [C17]⟩, o17, .inr rfl, rfl⟩
  refine le rfl rfl (fun g hΦ s h hs hh => (stpU_store (id := 0) (cs' := [.slice p3 ((x2.1.b).length) c5, .slice p7 ((x2.1.f).length) c9, .slice ((g 2).A 0) x15 x15]) ts36 (sv hs 6 rfl) (sv hs 30 rfl) (hh.get 0 _ rfl) rfl rfl rfl rfl)) ?_
  rintro g _ _ rfl
  exact ⟨⟨[], [], []⟩, trivial, .inl rfl, rfl⟩
 intro g hΦ
 refine kw_gen (ι := Option Addr × Res) (((g 2).A 0), ((g 2).R 0)) (fun | (p16, C17) => OwnD 44 48 p16 x15 (List.replicate x15 (⟨[], []⟩ : Cp)) C17) (fun | (p16, C17) => [(6, .pointer (some ⟨b1, 0, none⟩)), (7, .bool true)]) (fun | (p16, C17) => [(0, [(b1, .cells #[.slice p3 ((x2.1.b).length) c5, .slice p7 ((x2.1.f).length) c9, .slice p16 x15 x15] 36 (0, 0))]), (1, C6), (2, C10), (7, C17)]) (hΦ 2 (by decide)) ⟨rfl, rfl, trivial⟩ ⟨rfl, rfl, rfl, rfl, trivial⟩ ?_
 rintro ⟨p16, C17⟩ o17
 have o17 : OwnD 44 48 p16 x15 (List.replicate x15 (⟨[], []⟩ : Cp)) C17 := o17
 dsimp only
 refine kw_nx (cw_ret ?_)
 obtain rfl := sI H0
 exact kr Tryd.results32 (.cons (.cellN (us := [_, _, _]) ts36 rfl (Cells.box (id := 0) rfl 3 rfl)) (rT rfl)) [1, 2, 7] ⟨_, _, _, _, _, _, _, _, _, _, _, _, rfl, rfl, rfl, o6, rfl, o10, (by simp), o17⟩

theorem c_slices_Sort_Int (fl : Nat) (w : World) (a0 : (List Int)) (hn0_0 : n0_0 = (a0).length) (ho0_0 : OwnC 3 p0_0 c0_0 a0 C0_0) (hM : Sat w (hkeys [(0, C0_0)]) w [(0, C0_0)]) (r : (List Int)) (H0 : slices_Sort_Int fl a0 = some r) :
    Ct Tryd.prog 86 [.slice p0_0 n0_0 c0_0] w [(0, C0_0)] (fun rv h' => ∃ (D0 : Res), rv = .tuple #[] ∧ h' = [(0, D0)] ∧ n0_0 = (r).length ∧ OwnC 3 p0_0 c0_0 r D0) := by
  unfold slices_Sort_Int at H0
  split at H0
  · rename_i hb; obtain rfl := Option.some.inj H0
    exact sort_ct 3 w hn0_0 hb ho0_0 hM
  · cases H0

theorem c_slices_Compact_Int (fl : Nat) (w : World) (a0 : (List Int)) (hn0_0 : n0_0 = (a0).length) (ho0_0 : OwnC 3 p0_0 c0_0 a0 C0_0) (hM : Sat w (hkeys [(0, C0_0)]) w [(0, C0_0)]) (r : (List Int)) (H0 : slices_Compact_Int fl a0 = some r) :
    Ct Tryd.prog 88 [.slice p0_0 n0_0 c0_0] w [(0, C0_0)] (fun rv h' => ∃ (x1 : Option Addr) (y1 z1 : Nat) (C1 : Res), rv = .slice x1 y1 z1 ∧ h' = [(0, []), (1, C1)] ∧ y1 = (r).length ∧ OwnC 3 x1 z1 r C1) := by
  unfold slices_Compact_Int at H0
  split at H0
  · rename_i hb; obtain rfl := Option.some.inj H0
    exact compact_ct 3 w hn0_0 hb ho0_0 hM
  · cases H0

theorem c_i_HeldFrames (fl : Nat) (w : World) (a0 : Sy) (hn0_0 : n0_0 = (a0.t.b).length) (hr0_0 : RO w (hkeys []) (RdL p0_0 c0_0 a0.t.b)) (hn0_1 : n0_1 = (a0.t.f).length) (hr0_1 : RO w (hkeys []) (RdL p0_1 c0_1 a0.t.f)) (hn0_2 : n0_2 = (a0.c).length) (hr0_2 : ROD w (hkeys []) p0_2 c0_2 a0.c) (hg : RO w (hkeys []) (fun w' => w'.rangeAt 0 0 [.bool false, .int .i64 0, .int .i64 0, .int .i64 0, .int .i64 (-1)])) (r : (List Int)) (H0 : i_HeldFrames fl a0 = some r) :
  Ct Tryd.prog 34 [.agg #[.slice p0_0 n0_0 c0_0, .slice p0_1 n0_1 c0_1, .slice p0_2 n0_2 c0_2]] w [] (fun rv h' => ∃ (x0 : Option Addr) (y0 z0 : Nat) (C0 : Res), rv = .slice x0 y0 z0 ∧ h' = [(0, C0)] ∧ y0 = (r).length ∧ OwnC 3 x0 z0 r C0) := by
 subst hn0_0 hn0_1 hn0_2
 unfold i_HeldFrames at H0
 refine ct_of_cw Tryd.func34 rfl Tryd.ntmps34 rfl (Sat.refl _ _) ?_
 refine sr (oE (stpU_box 0 rfl rfl) rfl ?_)
 rintro _ _ ⟨b1, rfl, rfl⟩
 obtain ⟨x2, e2, H0⟩ := bS H0
 refine oS rfl (nn (cw_seq (sr (oB3 0 ts36 rfl (oE (stpU_call (fun i => 1 + i) cf18 (fun w hw => c_i_SystemValid fl w a0 rfl (RO.pass hr0_0 hw) rfl (RO.pass hr0_1 hw) rfl (ROD.pass hr0_2 hw) (RO.pass hg hw) x2 e2) (yA rfl)) rfl ?_)))))
 rintro _ _ ⟨_, ⟨rfl, rfl⟩, rfl⟩
 refine oK rfl (nn (cw_cond rfl (fun h3 => ?_) (fun h3 => ?_)))
 ·have H0 := cond_t H0 h3
  refine sr (oS rfl (nn (cw_ret (kw_nx_ret (kw_addNil 1 ?_)))))
  obtain rfl := sI H0
  exact kr Tryd.results34 (rT rfl) [1] ⟨_, _, _, _, rfl, rfl, rfl, (OwnC.nil _ _)⟩
 have H0 := cond_f H0 h3
 obtain ⟨o0_0, eo0_0, H0⟩ := bS H0
 refine cw_skip (kw_nx (sr (oS rfl (nn (cw_seq (sr (oA 2 Tryd.underlying36 rfl ts34 rfl (oL 0 ts34 rfl (oD (stp_len Tryd.underlying34 rfl) rfl (oM rfl (nn (cw_addNil 2 (cw_join (ι := Int × (List Int) × Option Addr × Nat × Nat × Res) (fun | (v4, v5, p6, n7, c8, C9) => o0_0 = .out (v4, v5) ∧ n7 = (v5).length ∧ OwnC 3 p6 c8 v5 C9) (fun | (v4, v5, p6, n7, c8, C9) => [(3, .slice p6 n7 c8), (12, .slice p0_2 ((a0.c).length) c0_2), (13, .int .i64 ((a0.c).length : Int)), (14, .int .i64 v4)]) (fun | (v4, v5, p6, n7, c8, C9) => [(1002, C9)]) ?_ ?_)))))))))))))
 ·refine cw_block (cw_loopS (ι := Nat × Int × (List Int) × Option Addr × Nat × Nat × Res) (js := [2]) (fun x => x.1) (fun | (fuel, v4, v5, p6, n7, c8, C9) => i_HeldFrames_L0 fl a0 fuel v4 v5 = some o0_0 ∧ n7 = (v5).length ∧ OwnC 3 p6 c8 v5 C9) (fun | (_, v4, v5, p6, n7, c8, C9) => [(3, .slice p6 n7 c8), (12, .slice p0_2 ((a0.c).length) c0_2), (13, .int .i64 ((a0.c).length : Int)), (14, .int .i64 v4)]) (fun | (_, v4, v5, p6, n7, c8, C9) => [(1002, C9)]) (fl, 0, [], none, 0, 0, []) ⟨eo0_0, rfl, (OwnC.nil _ _)⟩ ⟨rfl, rfl, rfl, rfl, trivial⟩ ⟨2, [], rfl, rfl, trivial⟩ (by decide) ?_)
  rintro ⟨fuel, v4, v5, p6, _, c8, C9⟩ ⟨H1, rfl, o9⟩
  have H1 : i_HeldFrames_L0 fl a0 fuel v4 v5 = some o0_0 := H1
  rcases fuel with _ | fuel
  ·rw [i_HeldFrames_L0.eq_1] at H1; cases H1
  rw [i_HeldFrames_L0.eq_2] at H1
  dsimp only
  refine sr (oW rfl (nn (cw_seq (cw_cond rfl (fun h10 => ?_) (fun h10 => ?_)))))
  ·have H1 := cond_t H1 h10
   obtain ⟨x11, e11, H1⟩ := bS H1
   refine cw_skip (kw_nx (cw_seq (cw_block (sr ?_))))
   obtain ⟨u12, p13, n14, c15, p16, n17, c18, hw12, hl12, hx12, rfl, hr12, rfl, hs12⟩ := ROD.get hr0_2 e11
   refine oD (stp_indexAddr Tryd.underlying34 ts44 (by decide) rfl hl12 rfl (Rdb.ro hw12) hx12) rfl (oD (stp_loadN (us := [_, _]) ts44 rfl (Cells.el (Rdb.ro hw12) (by decide) hx12 0 2 rfl)) rfl (oE (stpU_alloc 3 tz44 rfl) rfl ?_))
   rintro _ _ ⟨b19, rfl, rfl⟩
   obtain ⟨o1_1, eo1_1, H1⟩ := bS H1
   refine oC2 3 ts44 rfl rfl (nn (sr (oA 1 Tryd.underlying44 rfl ts42 rfl (oL 3 ts42 rfl (oD (stp_len Tryd.underlying42 rfl) rfl (oM rfl (nn (cw_join (ι := Int × (List Int) × Option Addr × Nat × Nat × Res) (fun | (v20, v21, p22, n23, c24, C25) => o1_1 = .out (v20, v21) ∧ n23 = (v21).length ∧ OwnC 3 p22 c24 v21 C25) (fun | (v20, v21, p22, n23, c24, C25) => [(3, .slice p22 n23 c24), (12, .slice p0_2 ((a0.c).length) c0_2), (13, .int .i64 ((a0.c).length : Int)), (14, .int .i64 v4), (19, .slice p16 ((x11.w).length) c18), (20, .int .i64 ((x11.w).length : Int)), (21, .int .i64 v20)]) (fun | (v20, v21, p22, n23, c24, C25) => [(1002, C25)]) ?_ ?_))))))))
   ·refine cw_block (cw_loopS (ι := Nat × Int × (List Int) × Option Addr × Nat × Nat × Res) (js := [1002]) (fun x => x.1) (fun | (fuel, v20, v21, p22, n23, c24, C25) => i_HeldFrames_L1 fl x11 fuel v20 v21 = some o1_1 ∧ n23 = (v21).length ∧ OwnC 3 p22 c24 v21 C25) (fun | (_, v20, v21, p22, n23, c24, C25) => [(3, .slice p22 n23 c24), (12, .slice p0_2 ((a0.c).length) c0_2), (13, .int .i64 ((a0.c).length : Int)), (14, .int .i64 v4), (19, .slice p16 ((x11.w).length) c18), (20, .int .i64 ((x11.w).length : Int)), (21, .int .i64 v20)]) (fun | (_, v20, v21, p22, n23, c24, C25) => [(1002, C25)]) (fl, 0, v5, p6, ((v5).length), c8, C9) ⟨eo1_1, rfl, o9⟩ ⟨rfl, rfl, rfl, rfl, rfl, rfl, rfl, trivial⟩ ⟨1002, [], rfl, rfl, trivial⟩ (by decide) ?_)
    rintro ⟨fuel, v20, v21, p22, _, c24, C25⟩ ⟨H2, rfl, o25⟩
    have H2 : i_HeldFrames_L1 fl x11 fuel v20 v21 = some o1_1 := H2
    rcases fuel with _ | fuel
    ·rw [i_HeldFrames_L1.eq_1] at H2; cases H2
    rw [i_HeldFrames_L1.eq_2] at H2
    dsimp only
    refine sr (oW rfl (nn (cw_seq (cw_cond rfl (fun h26 => ?_) (fun h26 => ?_)))))
    ·have H2 := cond_t H2 h26
     obtain ⟨x27, e27, H2⟩ := bS H2
     refine cw_skip (kw_nx (cw_seq (cw_block (sr (oD (stp_indexAddr Tryd.underlying42 ts48 (by decide) rfl rfl rfl (Rdb.ro hs12) e27) rfl (oD (stp_loadN (us := [_, _, _]) ts48 rfl (Cells.el (Rdb.ro hs12) (by decide) e27 0 3 rfl)) rfl (oE (stpU_alloc 4 tz48 rfl) rfl ?_)))))))
     rintro _ _ ⟨b28, rfl, rfl⟩
     refine oC3 4 ts48 rfl rfl (nn (cw_region (oM rfl (oA 2 Tryd.underlying48 rfl ts3 rfl (oL 4 ts3 rfl (oE (stpU_lit (sz := 1) (l := [x27.fr]) [.int .i64 x27.fr] sl22 5 (sevp_cons rfl sevp_nil) rfl rfl rfl rfl rfl rfl rfl rfl rfl) rfl ?_))))))
     rintro _ _ ⟨p29, C30, rfl, rfl, o30⟩
     obtain ⟨x31, e31, H2⟩ := bS H2
     refine oE (stpU_append sl22 rfl (id := 1002) rfl rfl rfl (by simp) rfl o25 (Rdb.own (id := 5) rfl o30) e31) rfl ?_
     rintro _ _ ⟨p32, c33, C34, rfl, rfl, o34⟩
     obtain ⟨x35, e35, H2⟩ := bS H2
     exact oS rfl (ow_nil (kw_bl_normal (kw_nx (cw_region (oP e35 rfl (oM rfl (ow_nil (kw_lqS (js := [1002]) (fuel, x35, x31, p32, ((x31).length), c33, C34) ⟨H2, rfl, o34⟩ (Nat.lt_succ_self _) ⟨rfl, rfl, rfl, rfl, rfl, rfl, rfl, trivial⟩ ⟨1002, [], rfl, rfl, trivial⟩ (by decide)))))))))
    have H2 := cond_f H2 h26
    refine cw_exit (kw_nx_exit (kw_lq_exit (kw_bl ?_)))
    obtain rfl := sI H2
    exact kw_joinS (js := [1002]) (v20, v21, p22, ((v21).length), c24, C25) ⟨rfl, rfl, o25⟩ ⟨rfl, rfl, rfl, rfl, rfl, rfl, rfl, trivial⟩ ⟨1002, [], rfl, rfl, trivial⟩ (by decide)
   rintro ⟨v20, v21, p22, _, c24, C25⟩ ⟨rfl, rfl, o25⟩
   dsimp only
   obtain ⟨x36, e36, H1⟩ := bS H1
   exact kw_bl_normal (kw_nx (cw_region (oP e36 rfl (oM rfl (ow_nil (kw_lqS (js := [1002]) (fuel, x36, v21, p22, ((v21).length), c24, C25) ⟨H1, rfl, o25⟩ (Nat.lt_succ_self _) ⟨rfl, rfl, rfl, rfl, trivial⟩ ⟨1002, [], rfl, rfl, trivial⟩ (by decide)))))))
  have H1 := cond_f H1 h10
  refine cw_exit (kw_nx_exit (kw_lq_exit (kw_bl ?_)))
  obtain rfl := sI H1
  exact kw_joinS (js := [1002]) (v4, v5, p6, ((v5).length), c8, C9) ⟨rfl, rfl, o9⟩ ⟨rfl, rfl, rfl, rfl, trivial⟩ ⟨1002, [], rfl, rfl, trivial⟩ (by decide)
 rintro ⟨v4, v5, p6, _, c8, C9⟩ ⟨rfl, rfl, o9⟩
 dsimp only
 obtain ⟨x37, e37, H0⟩ := bS H0
 refine kw_nx (sr (oM rfl (oE (stpU_callM (fun i => bif Nat.beq i 0 then 1002 else 6 + i) cf86 (fun w hw hb => c_slices_Sort_Int fl w v5 rfl o9 (hw.pass (js := [1002]) ⟨1002, [], rfl, rfl, trivial⟩ (by decide)) x37 e37) (yA rfl) ⟨rfl, (fun _ _ hp => by obtain ⟨_, _, rfl, _⟩ := hp; exact ⟨_, rfl⟩), trivial⟩) rfl ?_)))
 rintro _ _ ⟨_, ⟨C38, rfl, rfl, hl38, o38⟩, rfl⟩
 obtain ⟨x39, e39, H0⟩ := bS H0
 refine nn (sr (oM rfl (oE (stpU_callM (fun i => bif Nat.beq i 0 then 1002 else 7 + i) cf88 (fun w hw hb => c_slices_Compact_Int fl w x37 (by simp [hl38]) o38 (hw.pass (js := [1002]) ⟨1002, [], rfl, rfl, trivial⟩ (by decide)) x39 e39) (yA rfl) ⟨rfl, (fun _ _ hp => by obtain ⟨_, _, _, _, _, rfl, _⟩ := hp; exact ⟨_, rfl⟩), trivial⟩) rfl ?_)))
 rintro _ _ ⟨_, ⟨p40, _, c42, C43, rfl, rfl, rfl, o43⟩, rfl⟩
 refine oE (stpU_call (fun i => i) cf87 (fun w hw => c_clip87 w p40 ((x39).length) c42 (OwnC.len o43).1) (yA rfl)) rfl ?_
 rintro _ _ ⟨_, ⟨rfl, rfl⟩, rfl⟩
 refine oS rfl (nn (cw_ret ?_))
 obtain rfl := sI H0
 exact kr Tryd.results34 (rT rfl) [8] ⟨_, _, _, _, rfl, rfl, rfl, (OwnC.clip o43)⟩

theorem c_l_FnNewSystem (fl : Nat) (w : World) (a0 : (List UInt8)) (hn0_0 : n0_0 = (a0).length) (hr0_0 : RO w (hkeys []) (RdL p0_0 c0_0 a0)) (hg : RO w (hkeys []) (fun w' => w'.rangeAt 0 0 [.bool false, .int .i64 0, .int .i64 0, .int .i64 0, .int .i64 (-1)])) (r : Bool) (H0 : l_FnNewSystem fl a0 = some r) :
  Ct Tryd.prog 10 [.slice p0_0 n0_0 c0_0] w [] (fun rv h' => rv = .bool r ∧ h' = []) := by
 subst hn0_0
 unfold l_FnNewSystem at H0
 refine ct_of_cw Tryd.func10 rfl Tryd.ntmps10 rfl (Sat.refl _ _) ?_
 refine sr (oS rfl (nn (cw_seq (sr (oM rfl (oD (stp_len Tryd.underlying40 rfl) rfl (oJ rfl (nn (cw_cond rfl (fun h1 => ?_) (fun h1 => ?_))))))))))
 ·have H0 := cond_t H0 h1
  refine sr (oS rfl (nn (cw_ret (kw_nx_ret ?_))))
  obtain rfl := sI H0
  exact kr Tryd.results10 (rT rfl) [] ⟨rfl, rfl⟩
 have H0 := cond_f H0 h1
 obtain ⟨x2, e2, H0⟩ := bS H0
 refine cw_skip (kw_nx (sr (oM rfl (oE (stpU_call (fun i => 0 + i) cf31 (fun w hw => c_s_DrawNewSystem fl w a0 rfl (RO.pass hr0_0 hw) x2 e2) (yA rfl)) rfl ?_))))
 rintro _ _ ⟨_, ⟨rfl, rfl⟩, rfl⟩
 obtain ⟨x3, e3, H0⟩ := bS H0
 refine oM rfl (oT rfl (oT rfl (oT rfl (oS rfl (oS rfl (oS rfl (nn (sr (oM rfl (oM rfl (oM rfl (oE (stpU_call (fun i => 0 + i) cf32 (fun w hw => c_i_NewSystem fl w x2.1 x2.2.1 x2.2.2 (RO.pass hg hw) x3 e3) (yC rfl rfl rfl)) rfl ?_))))))))))))
 rintro _ _ ⟨_, ⟨p4, _, c6, C7, p8, _, c10, C11, p12, _, c14, C15, rfl, rfl, rfl, o7, rfl, o11, rfl, o15⟩, rfl⟩
 refine oM rfl (oT rfl (oT rfl (oE (stpU_alloc 3 tz36 rfl) rfl ?_)))
 rintro _ _ ⟨b16, rfl, rfl⟩
 obtain ⟨x17, e17, H0⟩ := bS H0
 refine oC3 3 ts36 rfl rfl (oS rfl (nn (sr (oM rfl (oM rfl (oM rfl (oE (stpU_call (fun i => 4 + i) cf33 (fun w hw => c_s_NewSystem fl w x2.1 x2.2.1 x2.2.2 x17 e17) (yC rfl rfl rfl)) rfl ?_)))))))
 rintro _ _ ⟨_, ⟨p18, _, c20, C21, p22, _, c24, C25, p26, _, c28, C29, rfl, rfl, rfl, o21, rfl, o25, rfl, o29⟩, rfl⟩
 refine oM rfl (oT rfl (oT rfl (oE (stpU_alloc 7 tz36 rfl) rfl ?_)))
 rintro _ _ ⟨b30, rfl, rfl⟩
 obtain ⟨x31, e31, H0⟩ := bS H0
 refine oC3 7 ts36 rfl rfl (oS rfl (nn (cw_seq (sr (oB3 3 ts36 rfl (oB3 7 ts36 rfl (oE (stpU_call (fun i => 8 + i) cf23 (fun w hw => c_i_SystemSame fl w x3.1 x17.1 rfl (OwnC.pass (id := 0) rfl o7 hw) rfl (OwnC.pass (id := 1) rfl o11 hw) rfl (OwnD.pass (id := 2) rfl o15 hw) rfl (OwnC.pass (id := 4) rfl o21 hw) rfl (OwnC.pass (id := 5) rfl o25 hw) rfl (OwnD.pass (id := 6) rfl o29 hw) x31 e31) (yB rfl rfl)) rfl ?_)))))))
 rintro _ _ ⟨_, ⟨rfl, rfl⟩, rfl⟩
 obtain ⟨y32, ey32, H0⟩ := bS H0
 refine oK rfl (oM rfl (ow_cutY 4 45 y32 ?_ ?_))
 ·rcases Bool.eq_false_or_eq_true (!x31) with hy32 | hy32
  ·have ey32 := cond_t ey32 hy32
   refine oO rfl hy32 rfl (oO rfl hy32 rfl (oO rfl hy32 rfl (oD (stp_pick_t rfl hy32 rfl) rfl ?_)))
   obtain rfl := sI ey32
   exact ow_nil (jy 4 0)
  have ey32 := cond_f ey32 hy32
  refine oG rfl hy32 (mv rfl) rfl (oG rfl hy32 (mv rfl) rfl (oG rfl hy32 (stp_neqB Tryd.underlying4 rfl rfl) rfl (oD (stp_pick_f rfl hy32 rfl) rfl ?_)))
  obtain rfl := sI ey32
  exact ow_nil (jy 4 0)
 obtain ⟨y33, ey33, H0⟩ := bS H0
 refine oM rfl (ow_cutY 3 49 y33 ?_ ?_)
 ·rcases Bool.eq_false_or_eq_true y32 with hy33 | hy33
  ·have ey33 := cond_t ey33 hy33
   refine oO rfl hy33 rfl (oO rfl hy33 rfl (oD (stp_pick_t rfl hy33 rfl) rfl ?_))
   obtain rfl := sI ey33
   exact ow_nil (jy 3 0)
  have ey33 := cond_f ey33 hy33
  refine oG rfl hy33 (mv rfl) rfl (oG rfl hy33 (stp_not rfl) rfl (oD (stp_pick_f rfl hy33 rfl) rfl ?_))
  obtain rfl := sI ey33
  exact ow_nil (jy 3 0)
 refine ow_nil (kw_nx (cw_cond rfl (fun h34 => ?_) (fun h34 => ?_)))
 ·have H0 := cond_t H0 h34
  refine sr (oB3 3 ts36 rfl (oB3 7 ts36 rfl (oE (stpU_call (fun i => 8 + i) cf23 (fun w hw => c_i_SystemSame fl w x3.1 x17.1 rfl (OwnC.pass (id := 0) rfl o7 hw) rfl (OwnC.pass (id := 1) rfl o11 hw) rfl (OwnD.pass (id := 2) rfl o15 hw) rfl (OwnC.pass (id := 4) rfl o21 hw) rfl (OwnC.pass (id := 5) rfl o25 hw) rfl (OwnD.pass (id := 6) rfl o29 hw) x31 e31) (yB rfl rfl)) rfl ?_)))
  rintro _ _ ⟨_, ⟨rfl, rfl⟩, rfl⟩
  obtain ⟨y35, ey35, H0⟩ := bS H0
  refine oM rfl (ow_cutY 4 57 y35 ?_ ?_)
  ·rcases Bool.eq_false_or_eq_true x31 with hy35 | hy35
   ·have ey35 := cond_t ey35 hy35
    refine oG rfl hy35 (mv rfl) rfl (oG rfl hy35 (mv rfl) rfl (oG rfl hy35 (stp_eqlB Tryd.underlying4 rfl rfl) rfl (oD (stp_pick_t rfl hy35 rfl) rfl ?_)))
    obtain rfl := sI ey35
    exact ow_nil (jy 4 0)
   have ey35 := cond_f ey35 hy35
   refine oO rfl hy35 rfl (oO rfl hy35 rfl (oO rfl hy35 rfl (oD (stp_pick_f rfl hy35 rfl) rfl ?_)))
   obtain rfl := sI ey35
   exact ow_nil (jy 4 0)
  refine oS rfl (nn (cw_ret (kw_nx_ret ?_)))
  obtain rfl := sI H0
  exact kr Tryd.results10 (rT rfl) [] ⟨rfl, rfl⟩
 have H0 := cond_f H0 h34
 obtain ⟨x36, e36, H0⟩ := bS H0
 obtain ⟨x37, e37, H0⟩ := bS H0
 refine cw_skip (kw_nx (sr (oB3 3 ts36 rfl (oM rfl (oD (stp_sub rfl rfl e36) rfl (oD (stp_build (cs := #[.int .i64 0, .int .i64 0]) sevp_nil bt46_11) rfl (oE (stpU_call (fun i => 8 + i) cf26 (fun w hw => c_i_LookCpu fl w x3.1 x36 (⟨0, 0⟩ : K) rfl (OwnC.pass (id := 0) rfl o7 hw) rfl (OwnC.pass (id := 1) rfl o11 hw) rfl (OwnD.pass (id := 2) rfl o15 hw) (RO.pass hg hw) x37 e37) (yC rfl rfl rfl)) rfl ?_)))))))
 rintro _ _ ⟨_, ⟨p38, _, c40, C41, p42, _, c44, C45, p46, _, c48, C49, rfl, rfl, rfl, o41, rfl, o45, rfl, o49⟩, rfl⟩
 refine oM rfl (oT rfl (oT rfl (oT rfl (oT rfl (oE (stpU_alloc 11 tz36 rfl) rfl ?_)))))
 rintro _ _ ⟨b50, rfl, rfl⟩
 obtain ⟨x51, e51, H0⟩ := bS H0
 refine oC3 11 ts36 rfl rfl (oS rfl (oS rfl (oS rfl (nn (sr (oB3 3 ts36 rfl (oE (stpU_call (fun i => 12 + i) cf18 (fun w hw => c_i_SystemValid fl w x3.1 rfl (OwnC.pass (id := 0) rfl o7 hw) rfl (OwnC.pass (id := 1) rfl o11 hw) rfl (OwnD.pass (id := 2) rfl o15 hw) (RO.pass hg hw) x51 e51) (yA rfl)) rfl ?_)))))))
 rintro _ _ ⟨_, ⟨rfl, rfl⟩, rfl⟩
 obtain ⟨y52, ey52, H0⟩ := bS H0
 refine oM rfl (ow_cutY 6 76 y52 ?_ ?_)
 ·rcases Bool.eq_false_or_eq_true x51 with hy52 | hy52
  ·have ey52 := cond_t ey52 hy52
   refine oG rfl hy52 (fA 2 Tryd.underlying36 rfl ts34 rfl rfl rfl) rfl (oG rfl hy52 (lB 3 ts34 rfl rfl rfl) rfl (oG rfl hy52 (stp_len Tryd.underlying34 rfl) rfl (oG rfl hy52 (mv rfl) rfl (oG rfl hy52 (stp_eql rfl rfl) rfl (oD (stp_pick_t rfl hy52 rfl) rfl ?_)))))
   obtain rfl := sI ey52
   exact ow_nil (jy 6 0)
  have ey52 := cond_f ey52 hy52
  refine oO rfl hy52 rfl (oO rfl hy52 rfl (oO rfl hy52 rfl (oO rfl hy52 rfl (oO rfl hy52 rfl (oD (stp_pick_f rfl hy52 rfl) rfl ?_)))))
  obtain rfl := sI ey52
  exact ow_nil (jy 6 0)
 obtain ⟨y53, ey53, H0⟩ := bS H0
 refine oM rfl (ow_cutY 2 79 y53 ?_ ?_)
 ·rcases Bool.eq_false_or_eq_true y52 with hy53 | hy53
  ·have ey53 := cond_t ey53 hy53
   refine oG rfl hy53 (mv rfl) rfl (oD (stp_pick_t rfl hy53 rfl) rfl ?_)
   obtain rfl := sI ey53
   exact ow_nil (jy 2 0)
  have ey53 := cond_f ey53 hy53
  refine oO rfl hy53 rfl (oD (stp_pick_f rfl hy53 rfl) rfl ?_)
  obtain rfl := sI ey53
  exact ow_nil (jy 2 0)
 obtain ⟨y54, ey54, H0⟩ := bS H0
 refine oM rfl (ow_cutY 3 83 y54 ?_ ?_)
 ·rcases Bool.eq_false_or_eq_true y53 with hy54 | hy54
  ·have ey54 := cond_t ey54 hy54
   refine oG rfl hy54 (mv rfl) rfl (oG rfl hy54 (stp_eql rfl rfl) rfl (oD (stp_pick_t rfl hy54 rfl) rfl ?_))
   obtain rfl := sI ey54
   exact ow_nil (jy 3 0)
  have ey54 := cond_f ey54 hy54
  refine oO rfl hy54 rfl (oO rfl hy54 rfl (oD (stp_pick_f rfl hy54 rfl) rfl ?_))
  obtain rfl := sI ey54
  exact ow_nil (jy 3 0)
 obtain ⟨y55, ey55, H0⟩ := bS H0
 refine oM rfl (ow_cutY 5 89 y55 ?_ ?_)
 ·rcases Bool.eq_false_or_eq_true y54 with hy55 | hy55
  ·have ey55 := cond_t ey55 hy55
   obtain ⟨x56, e56, ey55⟩ := bS ey55
   refine oG rfl hy55 (stp_loadN (us := [_, _, _]) ts36 rfl (Cells.box (id := 3) rfl 3 rfl)) rfl (ow_eff (.some rfl hy55) (stpU_call (fun i => 12 + i) cf34 (fun w hw => c_i_HeldFrames fl w x3.1 rfl (OwnC.pass (id := 0) rfl o7 hw) rfl (OwnC.pass (id := 1) rfl o11 hw) rfl (OwnD.pass (id := 2) rfl o15 hw) (RO.pass hg hw) x56 e56) (yA rfl)) rfl ?_)
   rintro _ _ ⟨_, ⟨p57, _, c59, C60, rfl, rfl, rfl, o60⟩, rfl⟩
   refine oG rfl hy55 (stp_len Tryd.underlying22 rfl) rfl (oG rfl hy55 (stp_eql rfl rfl) rfl (oD (stp_pick_t rfl hy55 rfl) rfl ?_))
   obtain rfl := sI ey55
   exact ow_nil (jy 5 1)
  have ey55 := cond_f ey55 hy55
  refine oO rfl hy55 rfl (oO rfl hy55 rfl (oO rfl hy55 rfl (oO rfl hy55 rfl (oD (stp_pick_f rfl hy55 rfl) rfl ?_))))
  obtain rfl := sI ey55
  exact ow_nil (jy 5 0)
 refine oS rfl (nn (cw_ret ?_))
 obtain rfl := sI H0
 exact kr Tryd.results10 (rT rfl) [] ⟨rfl, rfl⟩
end Go.Proofs.YtfnliecmagnkdaaDoor
