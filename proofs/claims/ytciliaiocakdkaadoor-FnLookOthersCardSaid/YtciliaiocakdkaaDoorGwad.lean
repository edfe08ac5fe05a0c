/- The walks: functions of the program return what their pure functions say. Printed by a program (gen.py). -/
import Derived.Test.YtciliaiocakdkaaDoorGp
import Derived.Test.YtciliaiocakdkaaDoorGt
import Derived.Test.YtciliaiocakdkaaDoorMan
import Derived.Test.YtciliaiocakdkaaDoorMap
import Derived.Test.YtciliaiocakdkaaDoorCpy
import Derived.Test.YtciliaiocakdkaaDoorClr
import Derived.Test.YtciliaiocakdkaaDoorDp
import Derived.Test.YtciliaiocakdkaaDoorSd
import Derived.Test.YtciliaiocakdkaaDoorGe
import Derived.Test.YtciliaiocakdkaaDoorGwab
import Derived.Test.YtciliaiocakdkaaDoorGwac
set_option linter.unusedSimpArgs false
set_option linter.unusedVariables false
set_option linter.unusedSectionVars false
namespace Go.Proofs.YtciliaiocakdkaaDoor
open Go.RowKit
set_option maxHeartbeats 4000000
set_option maxRecDepth 20000
variable {p0_0 : Option Addr} {n0_0 : Nat} {c0_0 : Nat}
theorem c_l_FnLookOthers (fl : Nat) (w : World) (a0 : (List UInt8)) (hn0_0 : n0_0 = (a0).length) (hr0_0 : RO w (hkeys []) (RdL p0_0 c0_0 a0)) (hg : RO w (hkeys []) (fun w' => w'.rangeAt 0 0 [.bool false, .int .i64 0, .int .i64 0, .int .i64 0, .int .i64 (-1)])) (r : Bool) (H0 : l_FnLookOthers fl a0 = some r) :
  Ct Tryd.prog 4 [.slice p0_0 n0_0 c0_0] w [] (fun rv h' => rv = .bool r ∧ h' = []) := by
 subst hn0_0
 unfold l_FnLookOthers at H0
 refine ct_of_cw Tryd.func4 rfl Tryd.ntmps4 rfl (Sat.refl _ _) ?_
 refine sr (oS rfl (nn (cw_seq (sr (oM rfl (oD (stp_len Tryd.underlying22 rfl) rfl (oJ rfl (nn (cw_cond rfl (fun h1 => ?_) (fun h1 => ?_))))))))))
 ·have H0 := cond_t H0 h1
  refine sr (oS rfl (nn (cw_ret (kw_nx_ret ?_))))
  obtain rfl := sI H0
  exact kr Tryd.results4 (rT rfl) [] ⟨rfl, rfl⟩
 have H0 := cond_f H0 h1
 obtain ⟨x2, e2, H0⟩ := bS H0
 refine cw_skip (kw_nx (sr (oM rfl (oE (stpU_call (fun i => 0 + i) cf9 (fun w hw => c_s_DrawLookCpu fl w a0 rfl (RO.pass hr0_0 hw) x2 e2) (yA rfl)) rfl ?_))))
 rintro _ _ ⟨_, ⟨p3, _, c5, C6, p7, _, c9, C10, p11, _, c13, C14, rfl, rfl, rfl, o6, rfl, o10, rfl, o14⟩, rfl⟩
 refine oM rfl (oT rfl (oT rfl (oT rfl (oE (stpU_alloc 3 tz29 rfl) rfl ?_))))
 rintro _ _ ⟨b15, rfl, rfl⟩
 refine oE (stpU_alloc 4 tz36 rfl) rfl ?_
 rintro _ _ ⟨b16, rfl, rfl⟩
 obtain ⟨x17, e17, H0⟩ := bS H0
 refine oC3 3 ts29 rfl rfl (oS rfl (oC2 4 ts36 rfl rfl (nn (sr (oB3 3 ts29 rfl (oM rfl (oB2 4 ts36 rfl (oE (stpU_call (fun i => 5 + i) cf10 (fun w hw => c_i_LookCpu fl w x2.1 x2.2.1 x2.2.2 rfl (OwnC.pass (id := 0) rfl o6 hw) rfl (OwnC.pass (id := 1) rfl o10 hw) rfl (OwnD.pass (id := 2) rfl o14 hw) (RO.pass hg hw) x17 e17) (yC rfl rfl rfl)) rfl ?_))))))))
 rintro _ _ ⟨_, ⟨p18, _, c20, C21, p22, _, c24, C25, p26, _, c28, C29, rfl, rfl, rfl, o21, rfl, o25, rfl, o29⟩, rfl⟩
 refine oM rfl (oT rfl (oT rfl (oT rfl (oT rfl (oE (stpU_alloc 8 tz29 rfl) rfl ?_)))))
 rintro _ _ ⟨b30, rfl, rfl⟩
 obtain ⟨x31, e31, H0⟩ := bS H0
 refine oC3 8 ts29 rfl rfl (oS rfl (oS rfl (oS rfl (nn (sr (oB3 3 ts29 rfl (oM rfl (oB2 4 ts36 rfl (oE (stpU_call (fun i => 9 + i) cf11 (fun w hw => c_s_LookCpu fl w x2.1 x2.2.1 x2.2.2 rfl (OwnC.pass (id := 0) rfl o6 hw) rfl (OwnC.pass (id := 1) rfl o10 hw) rfl (OwnD.pass (id := 2) rfl o14 hw) x31 e31) (yC rfl rfl rfl)) rfl ?_)))))))))
 rintro _ _ ⟨_, ⟨p32, _, c34, C35, p36, _, c38, C39, p40, _, c42, C43, rfl, rfl, rfl, o35, rfl, o39, rfl, o43⟩, rfl⟩
 refine oM rfl (oT rfl (oT rfl (oT rfl (oT rfl (oE (stpU_alloc 12 tz29 rfl) rfl ?_)))))
 rintro _ _ ⟨b44, rfl, rfl⟩
 obtain ⟨x45, e45, H0⟩ := bS H0
 refine oC3 12 ts29 rfl rfl (oS rfl (oS rfl (oS rfl (nn (cw_seq (sr (oB3 8 ts29 rfl (oB3 12 ts29 rfl (oE (stpU_call (fun i => 13 + i) cf6 (fun w hw => c_i_SystemSame fl w x17.1 x31.1 rfl (OwnC.pass (id := 5) rfl o21 hw) rfl (OwnC.pass (id := 6) rfl o25 hw) rfl (OwnD.pass (id := 7) rfl o29 hw) rfl (OwnC.pass (id := 9) rfl o35 hw) rfl (OwnC.pass (id := 10) rfl o39 hw) rfl (OwnD.pass (id := 11) rfl o43 hw) x45 e45) (yB rfl rfl)) rfl ?_)))))))))
 rintro _ _ ⟨_, ⟨rfl, rfl⟩, rfl⟩
 obtain ⟨y46, ey46, H0⟩ := bS H0
 refine oK rfl (oM rfl (ow_cutY 4 50 y46 ?_ ?_))
 ·rcases Bool.eq_false_or_eq_true (!x45) with hy46 | hy46
  ·have ey46 := cond_t ey46 hy46
   refine oO rfl hy46 rfl (oO rfl hy46 rfl (oO rfl hy46 rfl (oD (stp_pick_t rfl hy46 rfl) rfl ?_)))
   obtain rfl := sI ey46
   exact ow_nil (jy 4 0)
  have ey46 := cond_f ey46 hy46
  refine oG rfl hy46 (mv rfl) rfl (oG rfl hy46 (mv rfl) rfl (oG rfl hy46 (stp_neq rfl rfl) rfl (oD (stp_pick_f rfl hy46 rfl) rfl ?_)))
  obtain rfl := sI ey46
  exact ow_nil (jy 4 0)
 obtain ⟨y47, ey47, H0⟩ := bS H0
 refine oM rfl (ow_cutY 4 55 y47 ?_ ?_)
 ·rcases Bool.eq_false_or_eq_true y46 with hy47 | hy47
  ·have ey47 := cond_t ey47 hy47
   refine oO rfl hy47 rfl (oO rfl hy47 rfl (oO rfl hy47 rfl (oD (stp_pick_t rfl hy47 rfl) rfl ?_)))
   obtain rfl := sI ey47
   exact ow_nil (jy 4 0)
  have ey47 := cond_f ey47 hy47
  refine oG rfl hy47 (mv rfl) rfl (oG rfl hy47 (mv rfl) rfl (oG rfl hy47 (stp_neq rfl rfl) rfl (oD (stp_pick_f rfl hy47 rfl) rfl ?_)))
  obtain rfl := sI ey47
  exact ow_nil (jy 4 0)
 obtain ⟨y48, ey48, H0⟩ := bS H0
 refine oM rfl (ow_cutY 4 60 y48 ?_ ?_)
 ·rcases Bool.eq_false_or_eq_true y47 with hy48 | hy48
  ·have ey48 := cond_t ey48 hy48
   refine oO rfl hy48 rfl (oO rfl hy48 rfl (oO rfl hy48 rfl (oD (stp_pick_t rfl hy48 rfl) rfl ?_)))
   obtain rfl := sI ey48
   exact ow_nil (jy 4 0)
  have ey48 := cond_f ey48 hy48
  refine oG rfl hy48 (mv rfl) rfl (oG rfl hy48 (mv rfl) rfl (oG rfl hy48 (stp_neqB Tryd.underlying4 rfl rfl) rfl (oD (stp_pick_f rfl hy48 rfl) rfl ?_)))
  obtain rfl := sI ey48
  exact ow_nil (jy 4 0)
 obtain ⟨y49, ey49, H0⟩ := bS H0
 refine oM rfl (ow_cutY 3 64 y49 ?_ ?_)
 ·rcases Bool.eq_false_or_eq_true y48 with hy49 | hy49
  ·have ey49 := cond_t ey49 hy49
   refine oO rfl hy49 rfl (oO rfl hy49 rfl (oD (stp_pick_t rfl hy49 rfl) rfl ?_))
   obtain rfl := sI ey49
   exact ow_nil (jy 3 0)
  have ey49 := cond_f ey49 hy49
  refine oG rfl hy49 (mv rfl) rfl (oG rfl hy49 (stp_not rfl) rfl (oD (stp_pick_f rfl hy49 rfl) rfl ?_))
  obtain rfl := sI ey49
  exact ow_nil (jy 3 0)
 refine ow_nil (kw_nx (cw_cond rfl (fun h50 => ?_) (fun h50 => ?_)))
 ·have H0 := cond_t H0 h50
  refine sr (oB3 8 ts29 rfl (oB3 12 ts29 rfl (oE (stpU_call (fun i => 13 + i) cf6 (fun w hw => c_i_SystemSame fl w x17.1 x31.1 rfl (OwnC.pass (id := 5) rfl o21 hw) rfl (OwnC.pass (id := 6) rfl o25 hw) rfl (OwnD.pass (id := 7) rfl o29 hw) rfl (OwnC.pass (id := 9) rfl o35 hw) rfl (OwnC.pass (id := 10) rfl o39 hw) rfl (OwnD.pass (id := 11) rfl o43 hw) x45 e45) (yB rfl rfl)) rfl ?_)))
  rintro _ _ ⟨_, ⟨rfl, rfl⟩, rfl⟩
  obtain ⟨y51, ey51, H0⟩ := bS H0
  refine oM rfl (ow_cutY 4 72 y51 ?_ ?_)
  ·rcases Bool.eq_false_or_eq_true x45 with hy51 | hy51
   ·have ey51 := cond_t ey51 hy51
    refine oG rfl hy51 (mv rfl) rfl (oG rfl hy51 (mv rfl) rfl (oG rfl hy51 (stp_eql rfl rfl) rfl (oD (stp_pick_t rfl hy51 rfl) rfl ?_)))
    obtain rfl := sI ey51
    exact ow_nil (jy 4 0)
   have ey51 := cond_f ey51 hy51
   refine oO rfl hy51 rfl (oO rfl hy51 rfl (oO rfl hy51 rfl (oD (stp_pick_f rfl hy51 rfl) rfl ?_)))
   obtain rfl := sI ey51
   exact ow_nil (jy 4 0)
  obtain ⟨y52, ey52, H0⟩ := bS H0
  refine oM rfl (ow_cutY 4 77 y52 ?_ ?_)
  ·rcases Bool.eq_false_or_eq_true y51 with hy52 | hy52
   ·have ey52 := cond_t ey52 hy52
    refine oG rfl hy52 (mv rfl) rfl (oG rfl hy52 (mv rfl) rfl (oG rfl hy52 (stp_eql rfl rfl) rfl (oD (stp_pick_t rfl hy52 rfl) rfl ?_)))
    obtain rfl := sI ey52
    exact ow_nil (jy 4 0)
   have ey52 := cond_f ey52 hy52
   refine oO rfl hy52 rfl (oO rfl hy52 rfl (oO rfl hy52 rfl (oD (stp_pick_f rfl hy52 rfl) rfl ?_)))
   obtain rfl := sI ey52
   exact ow_nil (jy 4 0)
  obtain ⟨y53, ey53, H0⟩ := bS H0
  refine oM rfl (ow_cutY 4 82 y53 ?_ ?_)
  ·rcases Bool.eq_false_or_eq_true y52 with hy53 | hy53
   ·have ey53 := cond_t ey53 hy53
    refine oG rfl hy53 (mv rfl) rfl (oG rfl hy53 (mv rfl) rfl (oG rfl hy53 (stp_eqlB Tryd.underlying4 rfl rfl) rfl (oD (stp_pick_t rfl hy53 rfl) rfl ?_)))
    obtain rfl := sI ey53
    exact ow_nil (jy 4 0)
   have ey53 := cond_f ey53 hy53
   refine oO rfl hy53 rfl (oO rfl hy53 rfl (oO rfl hy53 rfl (oD (stp_pick_f rfl hy53 rfl) rfl ?_)))
   obtain rfl := sI ey53
   exact ow_nil (jy 4 0)
  refine oS rfl (nn (cw_ret (kw_nx_ret ?_)))
  obtain rfl := sI H0
  exact kr Tryd.results4 (rT rfl) [] ⟨rfl, rfl⟩
 have H0 := cond_f H0 h50
 refine cw_skip (kw_nx (sr (oB3 3 ts29 rfl (oE (stpU_alloc 13 tz29 rfl) rfl ?_))))
 rintro _ _ ⟨b54, rfl, rfl⟩
 refine oC3 13 ts29 rfl rfl (nn (sr (oE (stpU_lit0 sl27 14) rfl ?_)))
 rintro _ _ ⟨p55, C56, rfl, rfl, o56⟩
 refine oA 2 Tryd.underlying29 rfl ts27 rfl (oL 3 ts27 rfl ?_)
 obtain ⟨u57, hl57, hw57, ha57⟩ := OwnD.shr o14
 obtain ⟨x58, e58, H0⟩ := bS H0
 refine oE (stpU_appendR sl27 rfl (id := 14) rfl rfl rfl hl57 rfl o56 (RdC.rdb (id := 2) hw57 rfl) (Bun.nil 53 0) hl57.symm e58) rfl ?_
 rintro _ _ ⟨p59, c60, C61, rfl, rfl, o61⟩
 obtain ⟨x62, e62, H0⟩ := bS H0
 refine oA 2 Tryd.underlying29 rfl ts27 rfl (oC3 13 ts27 rfl rfl (nn (cw_seq ?_)))
 obtain ⟨u63, p64, n65, c66, p67, n68, c69, hl63, hx63, rfl, rfl, hw63, hr63, hs63⟩ := OwnD.view o29 e62
 obtain ⟨x70, e70, H0⟩ := bS H0
 obtain ⟨u71, hx71⟩ := idxSh hl57 e58 e70
 refine rdq g_mixed [4, 6, 14] [7, 8, 13, 14] { dst := dS [90, 91, 92, 93, 94, 95, 96, 97, 98, 0], pre := gA [] [[], [0], [], [], [3], [], [3, 4, 5], rn 3 4, rn 0 8, rn 0 9], ids := fun i => match i with | 9 => [14] | _ => [], rs := rL [[(14, 0)], [(89, 1)], [(4, 0)], [(6, 0)], [(92, 4)], [(4, 0)], [(93, 5), (94, 6)], [(95, 7)], [(90, 2), (91, 3)], [(97, 9), (96, 8)]], rh := rL [[], [(13, 0)], [], [], [(8, 0)], [], [(7, 0)], [(7, 0)], [(14, 0)], [(14, 0)]], V := fun i g => gA undef [.pointer (some ⟨b54, 2, none⟩), .slice p59 ((x58).length) c60, .int .i64 x2.2.1, .pointer (some ⟨b30, 2, none⟩), .slice p26 ((x17.1.c).length) c28, .int .i64 x2.2.1, .pointer (some ⟨eB p26, eO p26 + Int.toNat x2.2.1 * Enc.sz CpS + 0, none⟩), .agg #[.slice p64 ((x62.n).length) c66, .slice p67 ((x62.w).length) c69], .pointer (some ⟨eB p59, eO p59 + Int.toNat x2.2.1 * Enc.sz CpS + 0, none⟩)] i, U := fun i g => match i with | 9 => [(14, ((g 9).R 0))] | _ => [], Φ := fun i x => match i with | 9 => OwnC (α := CpS) 43 p59 c60 ((([] : List CpS) ++ u57).set (Int.toNat x2.2.1) (⟨p64, (x62.n).length, c66, p67, (x62.w).length, c69⟩ : CpS)) (x.R 0) | _ => True } ?_ ?_
 ·refine ⟨lc rfl rfl fun hs hh => stp_fieldAddr (j := 2) Tryd.underlying29 rfl ts27 rfl (sv hs 14 rfl) rfl, lc rfl rfl fun hs hh => stp_load1 ts27 (sv hs 89 rfl) (Cells.box (id := 13) (hh.get 13 _ rfl) 1 rfl), lM, lc rfl rfl fun hs hh => stp_fieldAddr (j := 2) Tryd.underlying29 rfl ts27 rfl (sv hs 6 rfl) rfl, lc rfl rfl fun hs hh => stp_load1 ts27 (sv hs 92 rfl) (Cells.box (id := 8) (hh.get 8 _ rfl) 1 rfl), lM, lc rfl rfl fun hs hh => stp_indexAddr Tryd.underlying27 ts43 (by decide) (sv hs 93 rfl) hl63 (sv hs 94 rfl) (RdC.rdb (id := 7) hw63 (hh.get 7 _ rfl)) hx63, lc rfl rfl fun hs hh => stp_loadN (us := [_, _]) ts43 (sv hs 95 rfl) (Cells.el (RdC.rdb (id := 7) hw63 (hh.get 7 _ rfl)) (by decide) hx63 0 2 rfl), lc rfl rfl fun hs hh => stp_indexAddr Tryd.underlying27 ts43 (by decide) (sv hs 90 rfl) (shlen hl57 e58) (sv hs 91 rfl) (Rdb.own (id := 14) (hh.get 14 _ rfl) o61) hx71, ?_, trivial⟩
  refine le rfl rfl (fun g hΦ s h hs hh => (stpU_storeEl (id := 14) (i := 0) (⟨p64, (x62.n).length, c66, p67, (x62.w).length, c69⟩ : CpS) (by decide) ts43 (sv hs 97 rfl) (sv hs 96 rfl) (hh.get 14 _ rfl) o61 hx71 rfl rfl rfl rfl)) ?_
  rintro g _ _ ⟨C72, rfl, o72⟩
  exact ⟨⟨[], [], [C72]⟩, o72, .inl rfl, rfl⟩
 intro g hΦ
 refine kw_gen (ι := Res) ((g 9).R 0) (fun | C72 => OwnC (α := CpS) 43 p59 c60 ((([] : List CpS) ++ u57).set (Int.toNat x2.2.1) (⟨p64, (x62.n).length, c66, p67, (x62.w).length, c69⟩ : CpS)) C72) (fun | C72 => [(4, .int .i64 x2.2.1), (6, .pointer (some ⟨b30, 0, none⟩)), (14, .pointer (some ⟨b54, 0, none⟩))]) (fun | C72 => [(0, C6), (1, C10), (2, C14), (5, C21), (6, C25), (7, C29), (8, [(b30, .cells #[.slice p18 ((x17.1.t.b).length) c20, .slice p22 ((x17.1.t.f).length) c24, .slice p26 ((x17.1.c).length) c28] 29 (0, 0))]), (13, [(b54, .cells #[.slice p3 ((x2.1.t.b).length) c5, .slice p7 ((x2.1.t.f).length) c9, .slice p59 ((x58).length) c60] 29 (0, 0))]), (14, C72)]) (hΦ 9 (by decide)) ⟨rfl, rfl, rfl, trivial⟩ ⟨rfl, rfl, rfl, rfl, rfl, rfl, rfl, rfl, rfl, trivial⟩ ?_
 rintro C72 o72
 have o72 : OwnC (α := CpS) 43 p59 c60 ((([] : List CpS) ++ u57).set (Int.toNat x2.2.1) (⟨p64, (x62.n).length, c66, p67, (x62.w).length, c69⟩ : CpS)) C72 := o72
 dsimp only
 obtain ⟨x73, e73, H0⟩ := bS H0
 refine kw_nx (sr (oB3 8 ts29 rfl (oB3 13 ts29 rfl (oE (stpU_call (fun i => 15 + i) cf6 (fun w hw => c_i_SystemSame fl w x17.1 (⟨x2.1.t, (x58.set (Int.toNat x2.2.1) (⟨x62.n, x62.w⟩ : Cp))⟩ : Sy) rfl (OwnC.pass (id := 5) rfl o21 hw) rfl (OwnC.pass (id := 6) rfl o25 hw) rfl (OwnD.pass (id := 7) rfl o29 hw) rfl (OwnC.pass (id := 0) rfl o6 hw) rfl (OwnC.pass (id := 1) rfl o10 hw) (by simp) (rod_sh (id := 14) (id2 := 2) (id3 := 7) rfl o72 rfl hl57 ha57 e58 rfl hr63 hs63 hw) x73 e73) (yB rfl rfl)) rfl ?_))))
 rintro _ _ ⟨_, ⟨rfl, rfl⟩, rfl⟩
 obtain ⟨y74, ey74, H0⟩ := bS H0
 refine oM rfl (ow_cutY 9 110 y74 ?_ ?_)
 ·rcases Bool.eq_false_or_eq_true x73 with hy74 | hy74
  ·have ey74 := cond_t ey74 hy74
   refine oG rfl hy74 (fA 2 Tryd.underlying29 rfl ts27 rfl rfl rfl) rfl (oG rfl hy74 (lB 8 ts27 rfl rfl rfl) rfl (oG rfl hy74 (mv rfl) rfl (oG rfl hy74 (stp_indexAddr Tryd.underlying27 ts43 (by decide) rfl hl63 rfl (RdC.rdb (id := 7) hw63 rfl) hx63) rfl (oG rfl hy74 (fA 0 Tryd.underlying43 rfl ts41 rfl rfl rfl) rfl (oG rfl hy74 (stp_load1 ts41 rfl (Cells.el (RdC.rdb (id := 7) hw63 rfl) (by decide) hx63 0 1 rfl)) rfl (oG rfl hy74 (stp_len Tryd.underlying41 rfl) rfl (oG rfl hy74 (stp_leq rfl rfl) rfl (oD (stp_pick_t rfl hy74 rfl) rfl ?_))))))))
   obtain rfl := sI ey74
   exact ow_nil (jy 9 0)
  have ey74 := cond_f ey74 hy74
  refine oO rfl hy74 rfl (oO rfl hy74 rfl (oO rfl hy74 rfl (oO rfl hy74 rfl (oO rfl hy74 rfl (oO rfl hy74 rfl (oO rfl hy74 rfl (oO rfl hy74 rfl (oD (stp_pick_f rfl hy74 rfl) rfl ?_))))))))
  obtain rfl := sI ey74
  exact ow_nil (jy 9 0)
 refine oS rfl (nn (cw_ret ?_))
 obtain rfl := sI H0
 exact kr Tryd.results4 (rT rfl) [] ⟨rfl, rfl⟩
end Go.Proofs.YtciliaiocakdkaaDoor
