/- The walks: functions of the program return what their pure functions say. Printed by a program (gen.py). -/
import Derived.Test.YtciliaiocakdkaaGreatDoorGp
import Derived.Test.YtciliaiocakdkaaGreatDoorGt
import Derived.Test.YtciliaiocakdkaaGreatDoorMan
import Derived.Test.YtciliaiocakdkaaGreatDoorMap
import Derived.Test.YtciliaiocakdkaaGreatDoorCpy
import Derived.Test.YtciliaiocakdkaaGreatDoorClr
import Derived.Test.YtciliaiocakdkaaGreatDoorDp
import Derived.Test.YtciliaiocakdkaaGreatDoorSd
import Derived.Test.YtciliaiocakdkaaGreatDoorSrt
import Derived.Test.YtciliaiocakdkaaGreatDoorGe
import Derived.Test.YtciliaiocakdkaaGreatDoorGwab
import Derived.Test.YtciliaiocakdkaaGreatDoorGwac
set_option linter.unusedSimpArgs false
set_option linter.unusedVariables false
set_option linter.unusedSectionVars false
namespace Go.Proofs.YtciliaiocakdkaaGreatDoor
open Go.RowKit
set_option maxHeartbeats 4000000
set_option maxRecDepth 20000
variable {p0_0 : Option Addr} {n0_0 : Nat} {c0_0 : Nat}
theorem c_l_FnAckTwice (fl : Nat) (w : World) (a0 : (List UInt8)) (hn0_0 : n0_0 = (a0).length) (hr0_0 : RO w (hkeys []) (RdL p0_0 c0_0 a0)) (hg : RO w (hkeys []) (fun w' => w'.rangeAt 0 0 [.bool false, .int .i64 0, .int .i64 0, .int .i64 0, .int .i64 (-1)])) (r : Bool) (H0 : l_FnAckTwice fl a0 = some r) :
  Ct Tryz.prog 3 [.slice p0_0 n0_0 c0_0] w [] (fun rv h' => rv = .bool r ∧ h' = []) := by
 subst hn0_0
 unfold l_FnAckTwice at H0
 refine ct_of_cw Tryz.func3 rfl Tryz.ntmps3 rfl (Sat.refl _ _) ?_
 refine sr (oS rfl (nn (cw_seq (sr (oM rfl (oD (stp_len Tryz.underlying22 rfl) rfl (oJ rfl (nn (cw_cond rfl (fun h1 => ?_) (fun h1 => ?_))))))))))
 ·have H0 := cond_t H0 h1
  refine sr (oS rfl (nn (cw_ret (kw_nx_ret ?_))))
  obtain rfl := sI H0
  exact kr Tryz.results3 (rT rfl) [] ⟨rfl, rfl⟩
 have H0 := cond_f H0 h1
 obtain ⟨x2, e2, H0⟩ := bS H0
 refine cw_skip (kw_nx (sr (oM rfl (oE (stpU_call (fun i => 0 + i) cf4 (fun w hw => c_s_DrawAckCpu fl w a0 rfl (RO.pass hr0_0 hw) x2 e2) (yA rfl)) rfl ?_))))
 rintro _ _ ⟨_, ⟨p3, _, c5, C6, p7, _, c9, C10, p11, _, c13, C14, rfl, rfl, rfl, o6, rfl, o10, rfl, o14⟩, rfl⟩
 refine oM rfl (oT rfl (oT rfl (oE (stpU_alloc 3 tz29 rfl) rfl ?_)))
 rintro _ _ ⟨b15, rfl, rfl⟩
 obtain ⟨x16, e16, H0⟩ := bS H0
 refine oC3 3 ts29 rfl rfl (oS rfl (nn (sr (oB3 3 ts29 rfl (oM rfl (oE (stpU_call (fun i => 4 + i) cf5 (fun w hw => c_i_AckCpu fl w x2.1 x2.2 rfl (OwnC.pass (id := 0) rfl o6 hw) rfl (OwnC.pass (id := 1) rfl o10 hw) rfl (OwnD.pass (id := 2) rfl o14 hw) (RO.pass hg hw) x16 e16) (yB rfl rfl)) rfl ?_))))))
 rintro _ _ ⟨_, ⟨p17, _, c19, C20, p21, _, c23, C24, p25, _, c27, C28, rfl, rfl, rfl, o20, rfl, o24, rfl, o28⟩, rfl⟩
 refine oM rfl (oT rfl (oT rfl (oE (stpU_alloc 7 tz29 rfl) rfl ?_)))
 rintro _ _ ⟨b29, rfl, rfl⟩
 obtain ⟨x30, e30, H0⟩ := bS H0
 refine oC3 7 ts29 rfl rfl (oS rfl (nn (sr (oB3 3 ts29 rfl (oM rfl (oE (stpU_call (fun i => 8 + i) cf6 (fun w hw => c_s_AckCpu fl w x2.1 x2.2 rfl (OwnC.pass (id := 0) rfl o6 hw) rfl (OwnC.pass (id := 1) rfl o10 hw) rfl (OwnD.pass (id := 2) rfl o14 hw) x30 e30) (yB rfl rfl)) rfl ?_))))))
 rintro _ _ ⟨_, ⟨p31, _, c33, C34, p35, _, c37, C38, p39, _, c41, C42, rfl, rfl, rfl, o34, rfl, o38, rfl, o42⟩, rfl⟩
 refine oM rfl (oT rfl (oT rfl (oE (stpU_alloc 11 tz29 rfl) rfl ?_)))
 rintro _ _ ⟨b43, rfl, rfl⟩
 obtain ⟨x44, e44, H0⟩ := bS H0
 refine oC3 11 ts29 rfl rfl (oS rfl (nn (cw_seq (sr (oB3 7 ts29 rfl (oB3 11 ts29 rfl (oE (stpU_call (fun i => 12 + i) cf7 (fun w hw => c_i_SystemSame fl w x16.1 x30.1 rfl (OwnC.pass (id := 4) rfl o20 hw) rfl (OwnC.pass (id := 5) rfl o24 hw) rfl (OwnD.pass (id := 6) rfl o28 hw) rfl (OwnC.pass (id := 8) rfl o34 hw) rfl (OwnC.pass (id := 9) rfl o38 hw) rfl (OwnD.pass (id := 10) rfl o42 hw) x44 e44) (yB rfl rfl)) rfl ?_)))))))
 rintro _ _ ⟨_, ⟨rfl, rfl⟩, rfl⟩
 obtain ⟨y45, ey45, H0⟩ := bS H0
 refine oK rfl (oM rfl (ow_cutY 4 40 y45 ?_ ?_))
 ·rcases Bool.eq_false_or_eq_true (!x44) with hy45 | hy45
  ·have ey45 := cond_t ey45 hy45
   refine oO rfl hy45 rfl (oO rfl hy45 rfl (oO rfl hy45 rfl (oD (stp_pick_t rfl hy45 rfl) rfl ?_)))
   obtain rfl := sI ey45
   exact ow_nil (jy 4 0)
  have ey45 := cond_f ey45 hy45
  refine oG rfl hy45 (mv rfl) rfl (oG rfl hy45 (mv rfl) rfl (oG rfl hy45 (stp_neqB Tryz.underlying4 rfl rfl) rfl (oD (stp_pick_f rfl hy45 rfl) rfl ?_)))
  obtain rfl := sI ey45
  exact ow_nil (jy 4 0)
 obtain ⟨y46, ey46, H0⟩ := bS H0
 refine oM rfl (ow_cutY 3 44 y46 ?_ ?_)
 ·rcases Bool.eq_false_or_eq_true y45 with hy46 | hy46
  ·have ey46 := cond_t ey46 hy46
   refine oO rfl hy46 rfl (oO rfl hy46 rfl (oD (stp_pick_t rfl hy46 rfl) rfl ?_))
   obtain rfl := sI ey46
   exact ow_nil (jy 3 0)
  have ey46 := cond_f ey46 hy46
  refine oG rfl hy46 (mv rfl) rfl (oG rfl hy46 (stp_not rfl) rfl (oD (stp_pick_f rfl hy46 rfl) rfl ?_))
  obtain rfl := sI ey46
  exact ow_nil (jy 3 0)
 refine ow_nil (kw_nx (cw_cond rfl (fun h47 => ?_) (fun h47 => ?_)))
 ·have H0 := cond_t H0 h47
  refine sr (oB3 7 ts29 rfl (oB3 11 ts29 rfl (oE (stpU_call (fun i => 12 + i) cf7 (fun w hw => c_i_SystemSame fl w x16.1 x30.1 rfl (OwnC.pass (id := 4) rfl o20 hw) rfl (OwnC.pass (id := 5) rfl o24 hw) rfl (OwnD.pass (id := 6) rfl o28 hw) rfl (OwnC.pass (id := 8) rfl o34 hw) rfl (OwnC.pass (id := 9) rfl o38 hw) rfl (OwnD.pass (id := 10) rfl o42 hw) x44 e44) (yB rfl rfl)) rfl ?_)))
  rintro _ _ ⟨_, ⟨rfl, rfl⟩, rfl⟩
  obtain ⟨y48, ey48, H0⟩ := bS H0
  refine oM rfl (ow_cutY 4 52 y48 ?_ ?_)
  ·rcases Bool.eq_false_or_eq_true x44 with hy48 | hy48
   ·have ey48 := cond_t ey48 hy48
    refine oG rfl hy48 (mv rfl) rfl (oG rfl hy48 (mv rfl) rfl (oG rfl hy48 (stp_eqlB Tryz.underlying4 rfl rfl) rfl (oD (stp_pick_t rfl hy48 rfl) rfl ?_)))
    obtain rfl := sI ey48
    exact ow_nil (jy 4 0)
   have ey48 := cond_f ey48 hy48
   refine oO rfl hy48 rfl (oO rfl hy48 rfl (oO rfl hy48 rfl (oD (stp_pick_f rfl hy48 rfl) rfl ?_)))
   obtain rfl := sI ey48
   exact ow_nil (jy 4 0)
  refine oS rfl (nn (cw_ret (kw_nx_ret ?_)))
  obtain rfl := sI H0
  exact kr Tryz.results3 (rT rfl) [] ⟨rfl, rfl⟩
 have H0 := cond_f H0 h47
 obtain ⟨x49, e49, H0⟩ := bS H0
 refine cw_skip (kw_nx (sr (oB3 7 ts29 rfl (oM rfl (oE (stpU_call (fun i => 12 + i) cf5 (fun w hw => c_i_AckCpu fl w x16.1 x2.2 rfl (OwnC.pass (id := 4) rfl o20 hw) rfl (OwnC.pass (id := 5) rfl o24 hw) rfl (OwnD.pass (id := 6) rfl o28 hw) (RO.pass hg hw) x49 e49) (yB rfl rfl)) rfl ?_)))))
 rintro _ _ ⟨_, ⟨p50, _, c52, C53, p54, _, c56, C57, p58, _, c60, C61, rfl, rfl, rfl, o53, rfl, o57, rfl, o61⟩, rfl⟩
 refine oM rfl (oT rfl (oT rfl (oE (stpU_alloc 15 tz29 rfl) rfl ?_)))
 rintro _ _ ⟨b62, rfl, rfl⟩
 refine oC3 15 ts29 rfl rfl (oS rfl (nn (sr (oB3 3 ts29 rfl (oE (stpU_alloc 16 tz29 rfl) rfl ?_)))))
 rintro _ _ ⟨b63, rfl, rfl⟩
 refine oC3 16 ts29 rfl rfl (nn (sr (oE (stpU_lit0 sl27 17) rfl ?_)))
 rintro _ _ ⟨p64, C65, rfl, rfl, o65⟩
 refine oA 2 Tryz.underlying29 rfl ts27 rfl (oL 3 ts27 rfl ?_)
 obtain ⟨u66, hl66, hw66, ha66⟩ := OwnD.shr o14
 obtain ⟨x67, e67, H0⟩ := bS H0
 refine oE (stpU_appendR sl27 rfl (id := 17) rfl rfl rfl hl66 rfl o65 (RdC.rdb (id := 2) hw66 rfl) (Bun.nil 52 0) hl66.symm e67) rfl ?_
 rintro _ _ ⟨p68, c69, C70, rfl, rfl, o70⟩
 obtain ⟨x71, e71, H0⟩ := bS H0
 refine oA 2 Tryz.underlying29 rfl ts27 rfl (oC3 16 ts27 rfl rfl (nn (cw_seq ?_)))
 obtain ⟨u72, p73, n74, c75, p76, n77, c78, hl72, hx72, rfl, rfl, hw72, hr72, hs72⟩ := OwnD.view o28 e71
 obtain ⟨x79, e79, H0⟩ := bS H0
 obtain ⟨u80, hx80⟩ := idxSh hl66 e67 e79
 refine rdq g_mixed [4, 5, 11] [6, 7, 16, 17] { dst := dS [66, 67, 68, 69, 70, 71, 72, 73, 74, 0], pre := gA [] [[], [0], [], [], [3], [], [3, 4, 5], rn 3 4, rn 0 8, rn 0 9], ids := fun i => match i with | 9 => [17] | _ => [], rs := rL [[(11, 0)], [(65, 1)], [(4, 0)], [(5, 0)], [(68, 4)], [(4, 0)], [(69, 5), (70, 6)], [(71, 7)], [(66, 2), (67, 3)], [(73, 9), (72, 8)]], rh := rL [[], [(16, 0)], [], [], [(7, 0)], [], [(6, 0)], [(6, 0)], [(17, 0)], [(17, 0)]], V := fun i g => gA undef [.pointer (some ⟨b63, 2, none⟩), .slice p68 ((x67).length) c69, .int .i64 x2.2, .pointer (some ⟨b29, 2, none⟩), .slice p25 ((x16.1.c).length) c27, .int .i64 x2.2, .pointer (some ⟨eB p25, eO p25 + Int.toNat x2.2 * Enc.sz CpS + 0, none⟩), .agg #[.slice p73 ((x71.n).length) c75, .slice p76 ((x71.w).length) c78], .pointer (some ⟨eB p68, eO p68 + Int.toNat x2.2 * Enc.sz CpS + 0, none⟩)] i, U := fun i g => match i with | 9 => [(17, ((g 9).R 0))] | _ => [], Φ := fun i x => match i with | 9 => OwnC (α := CpS) 37 p68 c69 ((([] : List CpS) ++ u66).set (Int.toNat x2.2) (⟨p73, (x71.n).length, c75, p76, (x71.w).length, c78⟩ : CpS)) (x.R 0) | _ => True } ?_ ?_
 ·refine ⟨lc rfl rfl fun hs hh => stp_fieldAddr (j := 2) Tryz.underlying29 rfl ts27 rfl (sv hs 11 rfl) rfl, lc rfl rfl fun hs hh => stp_load1 ts27 (sv hs 65 rfl) (Cells.box (id := 16) (hh.get 16 _ rfl) 1 rfl), lM, lc rfl rfl fun hs hh => stp_fieldAddr (j := 2) Tryz.underlying29 rfl ts27 rfl (sv hs 5 rfl) rfl, lc rfl rfl fun hs hh => stp_load1 ts27 (sv hs 68 rfl) (Cells.box (id := 7) (hh.get 7 _ rfl) 1 rfl), lM, lc rfl rfl fun hs hh => stp_indexAddr Tryz.underlying27 ts37 (by decide) (sv hs 69 rfl) hl72 (sv hs 70 rfl) (RdC.rdb (id := 6) hw72 (hh.get 6 _ rfl)) hx72, lc rfl rfl fun hs hh => stp_loadN (us := [_, _]) ts37 (sv hs 71 rfl) (Cells.el (RdC.rdb (id := 6) hw72 (hh.get 6 _ rfl)) (by decide) hx72 0 2 rfl), lc rfl rfl fun hs hh => stp_indexAddr Tryz.underlying27 ts37 (by decide) (sv hs 66 rfl) (shlen hl66 e67) (sv hs 67 rfl) (Rdb.own (id := 17) (hh.get 17 _ rfl) o70) hx80, ?_, trivial⟩
  refine le rfl rfl (fun g hΦ s h hs hh => (stpU_storeEl (id := 17) (i := 0) (⟨p73, (x71.n).length, c75, p76, (x71.w).length, c78⟩ : CpS) (by decide) ts37 (sv hs 73 rfl) (sv hs 72 rfl) (hh.get 17 _ rfl) o70 hx80 rfl rfl rfl rfl)) ?_
  rintro g _ _ ⟨C81, rfl, o81⟩
  exact ⟨⟨[], [], [C81]⟩, o81, .inl rfl, rfl⟩
 intro g hΦ
 refine kw_gen (ι := Res) ((g 9).R 0) (fun | C81 => OwnC (α := CpS) 37 p68 c69 ((([] : List CpS) ++ u66).set (Int.toNat x2.2) (⟨p73, (x71.n).length, c75, p76, (x71.w).length, c78⟩ : CpS)) C81) (fun | C81 => [(3, .pointer (some ⟨b15, 0, none⟩)), (5, .pointer (some ⟨b29, 0, none⟩)), (9, .pointer (some ⟨b62, 0, none⟩)), (10, .bool x49.2), (11, .pointer (some ⟨b63, 0, none⟩))]) (fun | C81 => [(0, C6), (1, C10), (2, C14), (3, [(b15, .cells #[.slice p3 ((x2.1.t.b).length) c5, .slice p7 ((x2.1.t.f).length) c9, .slice p11 ((x2.1.c).length) c13] 29 (0, 0))]), (4, C20), (5, C24), (6, C28), (7, [(b29, .cells #[.slice p17 ((x16.1.t.b).length) c19, .slice p21 ((x16.1.t.f).length) c23, .slice p25 ((x16.1.c).length) c27] 29 (0, 0))]), (12, C53), (13, C57), (14, C61), (15, [(b62, .cells #[.slice p50 ((x49.1.t.b).length) c52, .slice p54 ((x49.1.t.f).length) c56, .slice p58 ((x49.1.c).length) c60] 29 (0, 0))]), (16, [(b63, .cells #[.slice p3 ((x2.1.t.b).length) c5, .slice p7 ((x2.1.t.f).length) c9, .slice p68 ((x67).length) c69] 29 (0, 0))]), (17, C81)]) (hΦ 9 (by decide)) ⟨rfl, rfl, rfl, rfl, rfl, trivial⟩ ⟨rfl, rfl, rfl, rfl, rfl, rfl, rfl, rfl, rfl, rfl, rfl, rfl, rfl, rfl, trivial⟩ ?_
 rintro C81 o81
 have o81 : OwnC (α := CpS) 37 p68 c69 ((([] : List CpS) ++ u66).set (Int.toNat x2.2) (⟨p73, (x71.n).length, c75, p76, (x71.w).length, c78⟩ : CpS)) C81 := o81
 dsimp only
 obtain ⟨y82, ey82, H0⟩ := bS H0
 obtain ⟨y84, ey84, H0⟩ := bS H0
 obtain ⟨y86, ey86, H0⟩ := bS H0
 refine kw_nx (cw_seq (cw_join (ι := Unit) (fun | _ => True) (fun | _ => [(2, .bool y86)]) (fun | _ => []) ?_ ?_))
 ·rcases Bool.eq_false_or_eq_true x49.2 with hy82 | hy82
  ·have ey82 := cond_t ey82 hy82
   obtain ⟨x83, e83, ey82⟩ := bS ey82
   have qy82 := sI ey82
   rcases Bool.eq_false_or_eq_true y82 with hy84 | hy84
   ·have ey84 := cond_t ey84 hy84
    obtain ⟨x85, e85, ey84⟩ := bS ey84
    have qy84 := sI ey84
    rcases Bool.eq_false_or_eq_true y84 with hy86 | hy86
    ·have ey86 := cond_t ey86 hy86
     obtain ⟨x87, e87, ey86⟩ := bS ey86
     obtain ⟨x92, e92, ey86⟩ := bS ey86
     have qy86 := sI ey86
     refine rdq g_mixed [3, 5, 9, 10, 11] [0, 1, 2, 3, 4, 5, 6, 7, 12, 13, 14, 15, 16, 17] { dst := dS [75, 76, 77, 78, 79, 80, 81, 82, 83, 84, 85, 86, 87, 88, 89, 90, 91, 92, 93, 94, 3], pre := gA [] [[], [0], [0, 1], [0, 1], rn 0 4, rn 0 5, rn 0 6, rn 0 7, rn 0 7, rn 0 9, rn 0 10, rn 0 11, rn 0 12, rn 0 13, rn 0 14, rn 0 12, [0, 1, 2, 3, 4, 5, 6, 7, 8, 9, 10, 11, 12, 13, 15], [0, 1, 2, 3, 4, 5, 6, 7, 8, 9, 10, 11, 12, 13, 15, 16], rn 0 18, rn 0 19, rn 0 20], ids := fun i => match i with | 13 => [18] | 16 => [19] | _ => [], rs := rL [[(10, 0)], [(74, 1)], [(9, 0), (75, 2)], [(5, 0), (75, 2)], [(76, 3), (77, 4), (75, 2)], [(75, 2), (78, 5)], [(79, 6)], [(5, 0), (80, 7)], [(11, 0), (80, 7)], [(81, 8), (82, 9), (80, 7)], [(80, 7), (83, 10)], [(84, 11)], [(5, 0), (85, 12)], [(86, 13), (85, 12)], [(87, 14), (85, 12)], [(3, 0), (85, 12)], [(89, 16), (85, 12)], [(90, 17), (85, 12)], [(88, 15), (91, 18), (85, 12)], [(85, 12), (92, 19)], [(93, 20)]], rh := rL [[], [], [(15, 0)], [(7, 0)], [(4, 0), (5, 0), (6, 0), (12, 0), (13, 0), (14, 0)], [], [], [(7, 0)], [(16, 0)], [(0, 0), (1, 0), (2, 0), (4, 0), (5, 0), (6, 0), (17, 0)], [], [], [(7, 0)], [(4, 0), (5, 0), (6, 0)], [], [(3, 0)], [(0, 0), (1, 0), (2, 0)]], V := fun i g => gA undef [.bool x49.2, .bool x49.2, .agg #[.slice p50 ((x49.1.t.b).length) c52, .slice p54 ((x49.1.t.f).length) c56, .slice p58 ((x49.1.c).length) c60], .agg #[.slice p17 ((x16.1.t.b).length) c19, .slice p21 ((x16.1.t.f).length) c23, .slice p25 ((x16.1.c).length) c27], .bool x83, .bool y82, .bool y82, .agg #[.slice p17 ((x16.1.t.b).length) c19, .slice p21 ((x16.1.t.f).length) c23, .slice p25 ((x16.1.c).length) c27], .agg #[.slice p3 ((x2.1.t.b).length) c5, .slice p7 ((x2.1.t.f).length) c9, .slice p68 ((x67).length) c69], .bool x85, .bool y84, .bool y84, .agg #[.slice p17 ((x16.1.t.b).length) c19, .slice p21 ((x16.1.t.f).length) c23, .slice p25 ((x16.1.c).length) c27], .slice ((g 13).A 0) ((x87).length) ((g 13).C 0), .int .i64 ((x87).length : Int), .agg #[.slice p3 ((x2.1.t.b).length) c5, .slice p7 ((x2.1.t.f).length) c9, .slice p11 ((x2.1.c).length) c13], .slice ((g 16).A 0) ((x92).length) ((g 16).C 0), .int .i64 ((x92).length : Int), .bool (decide (((x87).length : Int) ≤ ((x92).length : Int))), .bool y86, .bool y86] i, U := fun i g => match i with | 13 => [(18, ((g 13).R 0))] | 16 => [(19, ((g 16).R 0))] | _ => [], Φ := fun i x => match i with | 13 => OwnC 3 (x.A 0) (x.C 0) x87 (x.R 0) | 16 => OwnC 3 (x.A 0) (x.C 0) x92 (x.R 0) | _ => True } ?_ ?_
     ·refine ⟨lM, lM, lg rfl rfl 75 hy82 fun hs hh => stp_loadN (us := [_, _, _]) ts29 (sv hs 9 rfl) (Cells.box (id := 15) (hh.get 15 _ rfl) 3 rfl), lg rfl rfl 75 hy82 fun hs hh => stp_loadN (us := [_, _, _]) ts29 (sv hs 5 rfl) (Cells.box (id := 7) (hh.get 7 _ rfl) 3 rfl), ?_, lc rfl rfl fun hs hh => stp_pick_tB (sv hs 75 rfl) hy82 (sv hs 78 rfl) qy82, lM, lg rfl rfl 80 hy84 fun hs hh => stp_loadN (us := [_, _, _]) ts29 (sv hs 5 rfl) (Cells.box (id := 7) (hh.get 7 _ rfl) 3 rfl), lg rfl rfl 80 hy84 fun hs hh => stp_loadN (us := [_, _, _]) ts29 (sv hs 11 rfl) (Cells.box (id := 16) (hh.get 16 _ rfl) 3 rfl), ?_, lc rfl rfl fun hs hh => stp_pick_tB (sv hs 80 rfl) hy84 (sv hs 83 rfl) qy84, lM, lg rfl rfl 85 hy86 fun hs hh => stp_loadN (us := [_, _, _]) ts29 (sv hs 5 rfl) (Cells.box (id := 7) (hh.get 7 _ rfl) 3 rfl), ?_, lg rfl rfl 85 hy86 fun hs hh => stp_len Tryz.underlying23 (sv hs 87 rfl), lg rfl rfl 85 hy86 fun hs hh => stp_loadN (us := [_, _, _]) ts29 (sv hs 3 rfl) (Cells.box (id := 3) (hh.get 3 _ rfl) 3 rfl), ?_, lg rfl rfl 85 hy86 fun hs hh => stp_len Tryz.underlying23 (sv hs 90 rfl), lg rfl rfl 85 hy86 fun hs hh => stp_leq (sv hs 88 rfl) (sv hs 91 rfl), lc rfl rfl fun hs hh => stp_pick_tB (sv hs 85 rfl) hy86 (sv hs 92 rfl) qy86, lS, trivial⟩
      ·refine loc_eff rfl rfl (fun g hΦ s h hs hh => ⟨(.some (gval_of rfl (sv hs 75 rfl)) hy82), (stpU_call (fun i => 18 + i) cf7 (fun w hw => c_i_SystemSame fl w x49.1 x16.1 rfl (OwnC.pass (id := 12) (hh.get 12 _ rfl) o53 hw) rfl (OwnC.pass (id := 13) (hh.get 13 _ rfl) o57 hw) rfl (OwnD.pass (id := 14) (hh.get 14 _ rfl) o61 hw) rfl (OwnC.pass (id := 4) (hh.get 4 _ rfl) o20 hw) rfl (OwnC.pass (id := 5) (hh.get 5 _ rfl) o24 hw) rfl (OwnD.pass (id := 6) (hh.get 6 _ rfl) o28 hw) x83 e83) (yB (sv hs 76 rfl) (sv hs 77 rfl)))⟩) ?_
       rintro g _ _ ⟨_, ⟨rfl, rfl⟩, rfl⟩
       exact ⟨⟨[], [], []⟩, trivial, .inr rfl, rfl⟩
      ·refine loc_eff rfl rfl (fun g hΦ s h hs hh => ⟨(.some (gval_of rfl (sv hs 80 rfl)) hy84), (stpU_call (fun i => 18 + i) cf7 (fun w hw => c_i_SystemSame fl w x16.1 (⟨x2.1.t, (x67.set (Int.toNat x2.2) (⟨x71.n, x71.w⟩ : Cp))⟩ : Sy) rfl (OwnC.pass (id := 4) (hh.get 4 _ rfl) o20 hw) rfl (OwnC.pass (id := 5) (hh.get 5 _ rfl) o24 hw) rfl (OwnD.pass (id := 6) (hh.get 6 _ rfl) o28 hw) rfl (OwnC.pass (id := 0) (hh.get 0 _ rfl) o6 hw) rfl (OwnC.pass (id := 1) (hh.get 1 _ rfl) o10 hw) (by simp) (rod_sh (id := 17) (id2 := 2) (id3 := 6) (hh.get 17 _ rfl) o81 (hh.get 2 _ rfl) hl66 ha66 e67 (hh.get 6 _ rfl) hr72 hs72 hw) x85 e85) (yB (sv hs 81 rfl) (sv hs 82 rfl)))⟩) ?_
       rintro g _ _ ⟨_, ⟨rfl, rfl⟩, rfl⟩
       exact ⟨⟨[], [], []⟩, trivial, .inr rfl, rfl⟩
      ·refine loc_eff rfl rfl (fun g hΦ s h hs hh => ⟨(.some (gval_of rfl (sv hs 85 rfl)) hy86), (stpU_call (fun i => 18 + i) cf8 (fun w hw => c_i_HeldFrames fl w x16.1 rfl (OwnC.pass (id := 4) (hh.get 4 _ rfl) o20 hw) rfl (OwnC.pass (id := 5) (hh.get 5 _ rfl) o24 hw) rfl (OwnD.pass (id := 6) (hh.get 6 _ rfl) o28 hw) (RO.pass hg hw) x87 e87) (yA (sv hs 86 rfl)))⟩) ?_
       rintro g _ _ ⟨_, ⟨p88, _, c90, C91, rfl, rfl, rfl, o91⟩, rfl⟩
       exact ⟨⟨[p88], [c90], [C91]⟩, o91, .inr rfl, rfl⟩
      refine loc_eff rfl rfl (fun g hΦ s h hs hh => ⟨(.some (gval_of rfl (sv hs 85 rfl)) hy86), (stpU_call (fun i => 19 + i) cf8 (fun w hw => c_i_HeldFrames fl w x2.1 rfl (OwnC.pass (id := 0) (hh.get 0 _ rfl) o6 hw) rfl (OwnC.pass (id := 1) (hh.get 1 _ rfl) o10 hw) rfl (OwnD.pass (id := 2) (hh.get 2 _ rfl) o14 hw) (RO.pass hg hw) x92 e92) (yA (sv hs 89 rfl)))⟩) ?_
      rintro g _ _ ⟨_, ⟨p93, _, c95, C96, rfl, rfl, rfl, o96⟩, rfl⟩
      exact ⟨⟨[p93], [c95], [C96]⟩, o96, .inr rfl, rfl⟩
     intro g hΦ
     exact kw_join () trivial ⟨rfl, trivial⟩ trivial
    have ey86 := cond_f ey86 hy86
    have qy86 := sI ey86
    refine rdq g_mixed [5, 9, 10, 11] [0, 1, 2, 4, 5, 6, 7, 12, 13, 14, 15, 16, 17] { dst := dS [75, 76, 77, 78, 79, 80, 81, 82, 83, 84, 85, 86, 87, 88, 89, 90, 91, 92, 93, 94, 3], pre := gA [] [[], [0], [0, 1], [0, 1], rn 0 4, rn 0 5, rn 0 6, rn 0 7, rn 0 7, rn 0 9, rn 0 10, rn 0 11, rn 0 12, rn 0 13, rn 0 14, rn 0 12, [0, 1, 2, 3, 4, 5, 6, 7, 8, 9, 10, 11, 12, 13, 15], [0, 1, 2, 3, 4, 5, 6, 7, 8, 9, 10, 11, 12, 13, 15, 16], rn 0 18, rn 0 19, rn 0 20], ids := fun _ => [], rs := rL [[(10, 0)], [(74, 1)], [(9, 0), (75, 2)], [(5, 0), (75, 2)], [(76, 3), (77, 4), (75, 2)], [(75, 2), (78, 5)], [(79, 6)], [(5, 0), (80, 7)], [(11, 0), (80, 7)], [(81, 8), (82, 9), (80, 7)], [(80, 7), (83, 10)], [(84, 11)], [(85, 12)], [(85, 12)], [(85, 12)], [(85, 12)], [(85, 12)], [(85, 12)], [(85, 12)], [(85, 12), (92, 19)], [(93, 20)]], rh := rL [[], [], [(15, 0)], [(7, 0)], [(4, 0), (5, 0), (6, 0), (12, 0), (13, 0), (14, 0)], [], [], [(7, 0)], [(16, 0)], [(0, 0), (1, 0), (2, 0), (4, 0), (5, 0), (6, 0), (17, 0)]], V := fun i g => gA undef [.bool x49.2, .bool x49.2, .agg #[.slice p50 ((x49.1.t.b).length) c52, .slice p54 ((x49.1.t.f).length) c56, .slice p58 ((x49.1.c).length) c60], .agg #[.slice p17 ((x16.1.t.b).length) c19, .slice p21 ((x16.1.t.f).length) c23, .slice p25 ((x16.1.c).length) c27], .bool x83, .bool y82, .bool y82, .agg #[.slice p17 ((x16.1.t.b).length) c19, .slice p21 ((x16.1.t.f).length) c23, .slice p25 ((x16.1.c).length) c27], .agg #[.slice p3 ((x2.1.t.b).length) c5, .slice p7 ((x2.1.t.f).length) c9, .slice p68 ((x67).length) c69], .bool x85, .bool y84, .bool y84, undef, undef, undef, undef, undef, undef, undef, .bool y86, .bool y86] i, U := fun _ _ => [], Φ := fun _ _ => True } ?_ ?_
    ·refine ⟨lM, lM, lg rfl rfl 75 hy82 fun hs hh => stp_loadN (us := [_, _, _]) ts29 (sv hs 9 rfl) (Cells.box (id := 15) (hh.get 15 _ rfl) 3 rfl), lg rfl rfl 75 hy82 fun hs hh => stp_loadN (us := [_, _, _]) ts29 (sv hs 5 rfl) (Cells.box (id := 7) (hh.get 7 _ rfl) 3 rfl), ?_, lc rfl rfl fun hs hh => stp_pick_tB (sv hs 75 rfl) hy82 (sv hs 78 rfl) qy82, lM, lg rfl rfl 80 hy84 fun hs hh => stp_loadN (us := [_, _, _]) ts29 (sv hs 5 rfl) (Cells.box (id := 7) (hh.get 7 _ rfl) 3 rfl), lg rfl rfl 80 hy84 fun hs hh => stp_loadN (us := [_, _, _]) ts29 (sv hs 11 rfl) (Cells.box (id := 16) (hh.get 16 _ rfl) 3 rfl), ?_, lc rfl rfl fun hs hh => stp_pick_tB (sv hs 80 rfl) hy84 (sv hs 83 rfl) qy84, lM, lo rfl rfl 85 hy86, lo rfl rfl 85 hy86, lo rfl rfl 85 hy86, lo rfl rfl 85 hy86, lo rfl rfl 85 hy86, lo rfl rfl 85 hy86, lo rfl rfl 85 hy86, lc rfl rfl fun hs hh => stp_pick_fB (sv hs 85 rfl) hy86 rfl qy86, lS, trivial⟩
     ·refine loc_eff rfl rfl (fun g hΦ s h hs hh => ⟨(.some (gval_of rfl (sv hs 75 rfl)) hy82), (stpU_call (fun i => 18 + i) cf7 (fun w hw => c_i_SystemSame fl w x49.1 x16.1 rfl (OwnC.pass (id := 12) (hh.get 12 _ rfl) o53 hw) rfl (OwnC.pass (id := 13) (hh.get 13 _ rfl) o57 hw) rfl (OwnD.pass (id := 14) (hh.get 14 _ rfl) o61 hw) rfl (OwnC.pass (id := 4) (hh.get 4 _ rfl) o20 hw) rfl (OwnC.pass (id := 5) (hh.get 5 _ rfl) o24 hw) rfl (OwnD.pass (id := 6) (hh.get 6 _ rfl) o28 hw) x83 e83) (yB (sv hs 76 rfl) (sv hs 77 rfl)))⟩) ?_
      rintro g _ _ ⟨_, ⟨rfl, rfl⟩, rfl⟩
      exact ⟨⟨[], [], []⟩, trivial, .inr rfl, rfl⟩
     refine loc_eff rfl rfl (fun g hΦ s h hs hh => ⟨(.some (gval_of rfl (sv hs 80 rfl)) hy84), (stpU_call (fun i => 18 + i) cf7 (fun w hw => c_i_SystemSame fl w x16.1 (⟨x2.1.t, (x67.set (Int.toNat x2.2) (⟨x71.n, x71.w⟩ : Cp))⟩ : Sy) rfl (OwnC.pass (id := 4) (hh.get 4 _ rfl) o20 hw) rfl (OwnC.pass (id := 5) (hh.get 5 _ rfl) o24 hw) rfl (OwnD.pass (id := 6) (hh.get 6 _ rfl) o28 hw) rfl (OwnC.pass (id := 0) (hh.get 0 _ rfl) o6 hw) rfl (OwnC.pass (id := 1) (hh.get 1 _ rfl) o10 hw) (by simp) (rod_sh (id := 17) (id2 := 2) (id3 := 6) (hh.get 17 _ rfl) o81 (hh.get 2 _ rfl) hl66 ha66 e67 (hh.get 6 _ rfl) hr72 hs72 hw) x85 e85) (yB (sv hs 81 rfl) (sv hs 82 rfl)))⟩) ?_
     rintro g _ _ ⟨_, ⟨rfl, rfl⟩, rfl⟩
     exact ⟨⟨[], [], []⟩, trivial, .inr rfl, rfl⟩
    intro g hΦ
    exact kw_join () trivial ⟨rfl, trivial⟩ trivial
   have ey84 := cond_f ey84 hy84
   have qy84 := sI ey84
   have hy86 : y84 = false := by rw [← qy84]
   have ey86 := cond_f ey86 hy86
   have qy86 := sI ey86
   refine rdq g_mixed [5, 9, 10] [4, 5, 6, 7, 12, 13, 14, 15] { dst := dS [75, 76, 77, 78, 79, 80, 81, 82, 83, 84, 85, 86, 87, 88, 89, 90, 91, 92, 93, 94, 3], pre := gA [] [[], [0], [0, 1], [0, 1], rn 0 4, rn 0 5, rn 0 6, rn 0 7, rn 0 7, rn 0 9, rn 0 10, rn 0 11, rn 0 12, rn 0 13, rn 0 14, rn 0 12, [0, 1, 2, 3, 4, 5, 6, 7, 8, 9, 10, 11, 12, 13, 15], [0, 1, 2, 3, 4, 5, 6, 7, 8, 9, 10, 11, 12, 13, 15, 16], rn 0 18, rn 0 19, rn 0 20], ids := fun _ => [], rs := rL [[(10, 0)], [(74, 1)], [(9, 0), (75, 2)], [(5, 0), (75, 2)], [(76, 3), (77, 4), (75, 2)], [(75, 2), (78, 5)], [(79, 6)], [(80, 7)], [(80, 7)], [(80, 7)], [(80, 7), (83, 10)], [(84, 11)], [(85, 12)], [(85, 12)], [(85, 12)], [(85, 12)], [(85, 12)], [(85, 12)], [(85, 12)], [(85, 12), (92, 19)], [(93, 20)]], rh := rL [[], [], [(15, 0)], [(7, 0)], [(4, 0), (5, 0), (6, 0), (12, 0), (13, 0), (14, 0)]], V := fun i g => gA undef [.bool x49.2, .bool x49.2, .agg #[.slice p50 ((x49.1.t.b).length) c52, .slice p54 ((x49.1.t.f).length) c56, .slice p58 ((x49.1.c).length) c60], .agg #[.slice p17 ((x16.1.t.b).length) c19, .slice p21 ((x16.1.t.f).length) c23, .slice p25 ((x16.1.c).length) c27], .bool x83, .bool y82, .bool y82, undef, undef, undef, .bool y84, .bool y84, undef, undef, undef, undef, undef, undef, undef, .bool y86, .bool y86] i, U := fun _ _ => [], Φ := fun _ _ => True } ?_ ?_
   ·refine ⟨lM, lM, lg rfl rfl 75 hy82 fun hs hh => stp_loadN (us := [_, _, _]) ts29 (sv hs 9 rfl) (Cells.box (id := 15) (hh.get 15 _ rfl) 3 rfl), lg rfl rfl 75 hy82 fun hs hh => stp_loadN (us := [_, _, _]) ts29 (sv hs 5 rfl) (Cells.box (id := 7) (hh.get 7 _ rfl) 3 rfl), ?_, lc rfl rfl fun hs hh => stp_pick_tB (sv hs 75 rfl) hy82 (sv hs 78 rfl) qy82, lM, lo rfl rfl 80 hy84, lo rfl rfl 80 hy84, lo rfl rfl 80 hy84, lc rfl rfl fun hs hh => stp_pick_fB (sv hs 80 rfl) hy84 rfl qy84, lM, lo rfl rfl 85 hy86, lo rfl rfl 85 hy86, lo rfl rfl 85 hy86, lo rfl rfl 85 hy86, lo rfl rfl 85 hy86, lo rfl rfl 85 hy86, lo rfl rfl 85 hy86, lc rfl rfl fun hs hh => stp_pick_fB (sv hs 85 rfl) hy86 rfl qy86, lS, trivial⟩
    refine loc_eff rfl rfl (fun g hΦ s h hs hh => ⟨(.some (gval_of rfl (sv hs 75 rfl)) hy82), (stpU_call (fun i => 18 + i) cf7 (fun w hw => c_i_SystemSame fl w x49.1 x16.1 rfl (OwnC.pass (id := 12) (hh.get 12 _ rfl) o53 hw) rfl (OwnC.pass (id := 13) (hh.get 13 _ rfl) o57 hw) rfl (OwnD.pass (id := 14) (hh.get 14 _ rfl) o61 hw) rfl (OwnC.pass (id := 4) (hh.get 4 _ rfl) o20 hw) rfl (OwnC.pass (id := 5) (hh.get 5 _ rfl) o24 hw) rfl (OwnD.pass (id := 6) (hh.get 6 _ rfl) o28 hw) x83 e83) (yB (sv hs 76 rfl) (sv hs 77 rfl)))⟩) ?_
    rintro g _ _ ⟨_, ⟨rfl, rfl⟩, rfl⟩
    exact ⟨⟨[], [], []⟩, trivial, .inr rfl, rfl⟩
   intro g hΦ
   exact kw_join () trivial ⟨rfl, trivial⟩ trivial
  have ey82 := cond_f ey82 hy82
  have qy82 := sI ey82
  have hy84 : y82 = false := by rw [← qy82]
  have ey84 := cond_f ey84 hy84
  have qy84 := sI ey84
  have hy86 : y84 = false := by rw [← qy84]
  have ey86 := cond_f ey86 hy86
  have qy86 := sI ey86
  refine rdq g_mixed [10] [] { dst := dS [75, 76, 77, 78, 79, 80, 81, 82, 83, 84, 85, 86, 87, 88, 89, 90, 91, 92, 93, 94, 3], pre := gA [] [[], [0], [0, 1], [0, 1], rn 0 4, rn 0 5, rn 0 6, rn 0 7, rn 0 7, rn 0 9, rn 0 10, rn 0 11, rn 0 12, rn 0 13, rn 0 14, rn 0 12, [0, 1, 2, 3, 4, 5, 6, 7, 8, 9, 10, 11, 12, 13, 15], [0, 1, 2, 3, 4, 5, 6, 7, 8, 9, 10, 11, 12, 13, 15, 16], rn 0 18, rn 0 19, rn 0 20], ids := fun _ => [], rs := rL [[(10, 0)], [(74, 1)], [(75, 2)], [(75, 2)], [(75, 2)], [(75, 2), (78, 5)], [(79, 6)], [(80, 7)], [(80, 7)], [(80, 7)], [(80, 7), (83, 10)], [(84, 11)], [(85, 12)], [(85, 12)], [(85, 12)], [(85, 12)], [(85, 12)], [(85, 12)], [(85, 12)], [(85, 12), (92, 19)], [(93, 20)]], rh := fun _ => [], V := fun i g => gA undef [.bool x49.2, .bool x49.2, undef, undef, undef, .bool y82, .bool y82, undef, undef, undef, .bool y84, .bool y84, undef, undef, undef, undef, undef, undef, undef, .bool y86, .bool y86] i, U := fun _ _ => [], Φ := fun _ _ => True } ?_ ?_
  ·exact ⟨lM, lM, lo rfl rfl 75 hy82, lo rfl rfl 75 hy82, lo rfl rfl 75 hy82, lc rfl rfl fun hs hh => stp_pick_fB (sv hs 75 rfl) hy82 rfl qy82, lM, lo rfl rfl 80 hy84, lo rfl rfl 80 hy84, lo rfl rfl 80 hy84, lc rfl rfl fun hs hh => stp_pick_fB (sv hs 80 rfl) hy84 rfl qy84, lM, lo rfl rfl 85 hy86, lo rfl rfl 85 hy86, lo rfl rfl 85 hy86, lo rfl rfl 85 hy86, lo rfl rfl 85 hy86, lo rfl rfl 85 hy86, lo rfl rfl 85 hy86, lc rfl rfl fun hs hh => stp_pick_fB (sv hs 85 rfl) hy86 rfl qy86, lS, trivial⟩
  intro g hΦ
  exact kw_join () trivial ⟨rfl, trivial⟩ trivial
 rintro _ -
 dsimp only
 refine kw_nx (cw_ret ?_)
 obtain rfl := sI H0
 exact kr Tryz.results3 (rT rfl) [] ⟨rfl, rfl⟩
end Go.Proofs.YtciliaiocakdkaaGreatDoor
