/- The walks: functions of the program return what their pure functions say. Printed by a program (gen.py). -/
import Derived.Test.YtfnliecmagnkdaaDoorGp
import Derived.Test.YtfnliecmagnkdaaDoorGt
import Derived.Test.YtfnliecmagnkdaaDoorMan
import Derived.Test.YtfnliecmagnkdaaDoorMap
import Derived.Test.YtfnliecmagnkdaaDoorCpy
import Derived.Test.YtfnliecmagnkdaaDoorClr
import Derived.Test.YtfnliecmagnkdaaDoorDp
import Derived.Test.YtfnliecmagnkdaaDoorSrt
import Derived.Test.YtfnliecmagnkdaaDoorE8
import Derived.Test.YtfnliecmagnkdaaDoorGwac
import Derived.Test.YtfnliecmagnkdaaDoorGwap
import Derived.Test.YtfnliecmagnkdaaDoorGwaq
import Derived.Test.YtfnliecmagnkdaaDoorGwar
import Derived.Test.YtfnliecmagnkdaaDoorGws
set_option linter.unusedSimpArgs false
set_option linter.unusedVariables false
set_option linter.unusedSectionVars false
namespace Go.Proofs.YtfnliecmagnkdaaDoor
open Go.RowKit
set_option maxHeartbeats 4000000
set_option maxRecDepth 20000
variable {p0_0 p0_1 p0_2 : Option Addr} {n0_0 n0_1 n0_2 : Nat} {c0_0 c0_1 c0_2 : Nat}
theorem c_i_LookCpu (fl : Nat) (w : World) (a0 : Sy) (a1 : Int) (a2 : K) (hn0_0 : n0_0 = (a0.t.b).length) (hr0_0 : RO w (hkeys []) (RdL p0_0 c0_0 a0.t.b)) (hn0_1 : n0_1 = (a0.t.f).length) (hr0_1 : RO w (hkeys []) (RdL p0_1 c0_1 a0.t.f)) (hn0_2 : n0_2 = (a0.c).length) (hr0_2 : ROD w (hkeys []) p0_2 c0_2 a0.c) (hg : RO w (hkeys []) (fun w' => w'.rangeAt 0 0 [.bool false, .int .i64 0, .int .i64 0, .int .i64 0, .int .i64 (-1)])) (r : Sy × Int × Int × Bool) (H0 : i_LookCpu fl a0 a1 a2 = some r) :
  Ct Tryd.prog 26 [.agg #[.slice p0_0 n0_0 c0_0, .slice p0_1 n0_1 c0_1, .slice p0_2 n0_2 c0_2], .int .i64 a1, .agg #[.int .i64 a2.s, .int .i64 a2.p]] w [] (fun rv h' => ∃ (x0 : Option Addr) (y0 z0 : Nat) (C0 : Res) (x1 : Option Addr) (y1 z1 : Nat) (C1 : Res) (x2 : Option Addr) (y2 z2 : Nat) (C2 : Res), rv = .tuple #[.agg #[.slice x0 y0 z0, .slice x1 y1 z1, .slice x2 y2 z2], .int .i64 r.2.1, .int .i64 r.2.2.1, .bool r.2.2.2] ∧ h' = [(0, C0), (1, C1), (2, C2)] ∧ y0 = (r.1.t.b).length ∧ OwnC 3 x0 z0 r.1.t.b C0 ∧ y1 = (r.1.t.f).length ∧ OwnC 84 x1 z1 r.1.t.f C1 ∧ y2 = (r.1.c).length ∧ OwnD 44 48 x2 z2 r.1.c C2) := by
 subst hn0_0 hn0_1 hn0_2
 unfold i_LookCpu at H0
 refine ct_of_cw Tryd.func26 rfl Tryd.ntmps26 rfl (Sat.refl _ _) ?_
 refine sr (oE (stpU_box 0 rfl rfl) rfl ?_)
 rintro _ _ ⟨b1, rfl, rfl⟩
 refine oE (stpU_box 1 rfl rfl) rfl ?_
 rintro _ _ ⟨b2, rfl, rfl⟩
 refine oE (stpU_alloc 2 tz36 rfl) rfl ?_
 rintro _ _ ⟨b3, rfl, rfl⟩
 obtain ⟨x4, e4, H0⟩ := bS H0
 refine oS rfl (oS rfl (oS rfl (nn (cw_seq (sr (oB3 0 ts36 rfl (oM rfl (oE (stpU_call (fun i => 3 + i) cf71 (fun w hw => c_i_cpuOf fl w a0 a1 rfl (RO.pass hr0_0 hw) rfl (RO.pass hr0_1 hw) rfl (ROD.pass hr0_2 hw) (RO.pass hg hw) x4 e4) (yB rfl rfl)) rfl ?_))))))))
 rintro _ _ ⟨_, ⟨rfl, rfl⟩, rfl⟩
 obtain ⟨y5, ey5, H0⟩ := bS H0
 refine oK rfl (oM rfl (ow_cutY 4 23 y5 ?_ ?_))
 ·rcases Bool.eq_false_or_eq_true (!x4) with hy5 | hy5
  ·have ey5 := cond_t ey5 hy5
   refine oO rfl hy5 rfl (oO rfl hy5 rfl (oO rfl hy5 rfl (oD (stp_pick_t rfl hy5 rfl) rfl ?_)))
   obtain rfl := sI ey5
   exact ow_nil (jy 4 0)
  have ey5 := cond_f ey5 hy5
  obtain ⟨x6, e6, ey5⟩ := bS ey5
  refine oG rfl hy5 (stp_loadN (us := [_, _]) ts46 rfl (Cells.box (id := 1) rfl 2 rfl)) rfl (ow_eff (.some rfl hy5) (stpU_call (fun i => 3 + i) cf59 (fun w hw => c_i_KeyValid fl w a2 x6 e6) (yA rfl)) rfl ?_)
  rintro _ _ ⟨_, ⟨rfl, rfl⟩, rfl⟩
  refine oG rfl hy5 (stp_not rfl) rfl (oD (stp_pick_f rfl hy5 rfl) rfl ?_)
  obtain rfl := sI ey5
  exact ow_nil (jy 4 0)
 refine ow_nil (kw_nx (cw_cond rfl (fun h7 => ?_) (fun h7 => ?_)))
 ·have H0 := cond_t H0 h7
  refine sr (oD (stp_build (cs := #[.slice none 0 0, .slice none 0 0, .slice none 0 0]) sevp_nil bt36_2) rfl (oC3 2 ts36 rfl rfl (oS rfl (oS rfl (oS rfl (nn (cw_ret (kw_nx_ret (kw_addNil 3 (kw_addNil 4 (kw_addNil 5 ?_)))))))))))
  obtain rfl := sI H0
  exact kr Tryd.results26 (.cons (.cellN (us := [_, _, _]) ts36 rfl (Cells.box (id := 2) rfl 3 rfl)) (.cons (.tmp rfl) (.cons (.tmp rfl) (rT rfl)))) [3, 4, 5] ⟨_, _, _, _, _, _, _, _, _, _, _, _, rfl, rfl, rfl, (OwnC.nil _ _), rfl, (OwnC.nil _ _), rfl, (OwnD.nil _ _ _)⟩
 have H0 := cond_f H0 h7
 obtain ⟨x8, e8, H0⟩ := bS H0
 refine cw_skip (kw_nx (sr (oB3 0 ts36 rfl (oE (stpU_call (fun i => 6 + i) cf72 (fun w hw => c_i_System_clone fl w a0 rfl (RO.pass hr0_0 hw) rfl (RO.pass hr0_1 hw) rfl (ROD.pass hr0_2 hw) x8 e8) (yA rfl)) rfl ?_))))
 rintro _ _ ⟨_, ⟨p9, _, c11, C12, p13, _, c15, C16, p17, _, c19, C20, rfl, rfl, rfl, o12, rfl, o16, rfl, o20⟩, rfl⟩
 refine oE (stpU_alloc 9 tz36 rfl) rfl ?_
 rintro _ _ ⟨b21, rfl, rfl⟩
 obtain ⟨x22, e22, H0⟩ := bS H0
 refine oC3 9 ts36 rfl rfl (nn (sr (oA 2 Tryd.underlying36 rfl ts34 rfl (oL 9 ts34 rfl (oM rfl (ow_open 8 10 11 12 rfl o20 e22 ?_))))))
 rintro u23 p24 n25 c26 p27 n28 c29 C30 C31 C32 C33 o30 hb31 hx23 rfl o32 rfl o33
 obtain ⟨x34, e34, H0⟩ := bS H0
 refine oD (stp_indexAddr Tryd.underlying34 ts44 (by decide) rfl (Bun.len hb31) rfl (Rdb.own (id := 8) rfl o30) hx23) rfl (oS rfl (nn (cw_seq (cw_seq (rdq g_mixed [5, 11] [1, 8, 11] { dst := dS [32, 33, 34, 35, 36, 37, 13], pre := gA [] [[], [0], [0, 1], [0, 1, 2], [], rn 0 5, rn 0 6], ids := fun _ => [], rs := rL [[(11, 0)], [(31, 1)], [(32, 2)], [(33, 3)], [(5, 0)], [(34, 4), (35, 5)], [(36, 6)]], rh := rL [[], [], [], [(8, 0)], [(1, 0)], [(11, 0)]], V := fun i g => gA undef [.pointer (some ⟨eB p17, eO p17 + Int.toNat a1 * Enc.sz CpS + 0, none⟩), .pointer (some ⟨eB p17, eO p17 + Int.toNat a1 * Enc.sz CpS + 0, none⟩), .pointer (some ⟨eB p17, eO p17 + Int.toNat a1 * Enc.sz CpS + 0, none⟩), .slice p24 ((x22.n).length) c26, .agg #[.int .i64 a2.s, .int .i64 a2.p], .int .i64 x34, .int .i64 x34] i, U := fun _ _ => [], Φ := fun _ _ => True } ?_ ?_)))))
 ·refine ⟨lM, lc rfl rfl fun hs hh => stp_nilCheck (sv hs 31 rfl), lc rfl rfl fun hs hh => stp_fieldAddr (j := 0) Tryd.underlying44 rfl ts42 rfl (sv hs 32 rfl) rfl, lc rfl rfl fun hs hh => stp_load1 ts42 (sv hs 33 rfl) (Cells.el (Rdb.own (id := 8) (hh.get 8 _ rfl) o30) (by decide) hx23 0 1 rfl), lc rfl rfl fun hs hh => stp_loadN (us := [_, _]) ts46 (sv hs 5 rfl) (Cells.box (id := 1) (hh.get 1 _ rfl) 2 rfl), ?_, lS, trivial⟩
  refine le rfl rfl (fun g hΦ s h hs hh => (stpU_call (fun i => 13 + i) cf52 (fun w hw => c_i_noteOf fl w x22.n a2 rfl (OwnC.pass (id := 11) (hh.get 11 _ rfl) o32 hw) x34 e34) (yB (sv hs 34 rfl) (sv hs 35 rfl)))) ?_
  rintro g _ _ ⟨_, ⟨rfl, rfl⟩, rfl⟩
  exact ⟨⟨[], [], []⟩, trivial, .inr rfl, rfl⟩
 intro g hΦ
 refine KW.sub (s' := [(3, .pointer (some ⟨b1, 0, none⟩)), (5, .pointer (some ⟨b2, 0, none⟩)), (6, .pointer (some ⟨b3, 0, none⟩)), (10, .pointer (some ⟨b21, 0, none⟩)), (11, .pointer (some ⟨eB p17, eO p17 + Int.toNat a1 * Enc.sz CpS + 0, none⟩)), (12, .int .i64 x34)]) (h' := [(0, [(b1, .cells #[.slice p0_0 ((a0.t.b).length) c0_0, .slice p0_1 ((a0.t.f).length) c0_1, .slice p0_2 ((a0.c).length) c0_2] 36 (0, 0))]), (1, [(b2, .cells #[.int .i64 a2.s, .int .i64 a2.p] 46 (0, 0))]), (2, [(b3, .cells #[.slice none 0 0, .slice none 0 0, .slice none 0 0] 36 (0, 0))]), (6, C12), (7, C16), (8, C30), (9, [(b21, .cells #[.slice p9 ((x8.t.b).length) c11, .slice p13 ((x8.t.f).length) c15, .slice p17 ((x8.c).length) c19] 36 (0, 0))]), (10, C31), (11, C32), (12, C33)]) ?_ ⟨rfl, rfl, rfl, rfl, rfl, rfl, trivial⟩ ⟨rfl, rfl, rfl, rfl, rfl, rfl, rfl, rfl, rfl, rfl, trivial⟩
 refine kw_nx (sr (oM rfl (oI rfl (nn (cw_cond rfl (fun h35 => ?_) (fun h35 => ?_))))))
 ·have H0 := cond_t H0 h35
  obtain ⟨x36, e36, H0⟩ := bS H0
  refine cw_seq (rdq g_mixed [6, 10, 11, 12] [2, 8, 9, 11] { dst := dS [40, 41, 42, 43, 44, 45, 46, 47, 48, 0, 8, 9, 10], pre := gA [] [[], [], [1], [1, 2], [1, 2, 3], [], rn 1 5, rn 1 6, rn 1 7, [0], rn 0 10, rn 0 11, rn 0 12], ids := fun i => match i with | 9 => [2] | _ => [], rs := rL [[(10, 0)], [(11, 0)], [(40, 2)], [(41, 3)], [(42, 4)], [(12, 0)], [(43, 5), (44, 6)], [(45, 7)], [(46, 8)], [(6, 0), (39, 1)], [(47, 9)], [], []], rh := rL [[(9, 0)], [], [], [], [(8, 0)], [], [(11, 0)], [], [(11, 0)], [(2, 0)]], V := fun i g => gA undef [.agg #[.slice p9 ((x8.t.b).length) c11, .slice p13 ((x8.t.f).length) c15, .slice p17 ((x8.c).length) c19], .pointer (some ⟨eB p17, eO p17 + Int.toNat a1 * Enc.sz CpS + 0, none⟩), .pointer (some ⟨eB p17, eO p17 + Int.toNat a1 * Enc.sz CpS + 0, none⟩), .pointer (some ⟨eB p17, eO p17 + Int.toNat a1 * Enc.sz CpS + 0, none⟩), .slice p24 ((x22.n).length) c26, .int .i64 x34, .pointer (some ⟨eB p24, eO p24 + Int.toNat x34 * Enc.sz Nt + 0, none⟩), .pointer (some ⟨eB p24, eO p24 + Int.toNat x34 * Enc.sz Nt + 2, none⟩), .int .i64 x36.fr, undef, .int .i64 x36.fr, .int .i64 1, .bool true] i, U := fun i g => match i with | 9 => [(2, [(b3, .cells #[.slice p9 ((x8.t.b).length) c11, .slice p13 ((x8.t.f).length) c15, .slice p17 ((x8.c).length) c19] 36 (0, 0))])] | _ => [], Φ := fun _ _ => True } ?_ ?_)
  ·refine ⟨lc rfl rfl fun hs hh => stp_loadN (us := [_, _, _]) ts36 (sv hs 10 rfl) (Cells.box (id := 9) (hh.get 9 _ rfl) 3 rfl), lM, lc rfl rfl fun hs hh => stp_nilCheck (sv hs 40 rfl), lc rfl rfl fun hs hh => stp_fieldAddr (j := 0) Tryd.underlying44 rfl ts42 rfl (sv hs 41 rfl) rfl, lc rfl rfl fun hs hh => stp_load1 ts42 (sv hs 42 rfl) (Cells.el (Rdb.own (id := 8) (hh.get 8 _ rfl) o30) (by decide) hx23 0 1 rfl), lM, lc rfl rfl fun hs hh => stp_indexAddr Tryd.underlying42 ts48 (by decide) (sv hs 43 rfl) rfl (sv hs 44 rfl) (Rdb.own (id := 11) (hh.get 11 _ rfl) o32) e36, lc rfl rfl fun hs hh => stp_fieldAddr (j := 2) Tryd.underlying48 rfl ts3 rfl (sv hs 45 rfl) rfl, lc rfl rfl fun hs hh => stp_load1 ts3 (sv hs 46 rfl) (Cells.el (Rdb.own (id := 11) (hh.get 11 _ rfl) o32) (by decide) e36 2 1 rfl), ?_, lS, lc rfl rfl fun hs hh => stp_assign rfl, lc rfl rfl fun hs hh => stp_assign rfl, trivial⟩
   refine le rfl rfl (fun g hΦ s h hs hh => (stpU_store (id := 2) (cs' := [.slice p9 ((x8.t.b).length) c11, .slice p13 ((x8.t.f).length) c15, .slice p17 ((x8.c).length) c19]) ts36 (sv hs 6 rfl) (sv hs 39 rfl) (hh.get 2 _ rfl) rfl rfl rfl rfl)) ?_
   rintro g _ _ rfl
   exact ⟨⟨[], [], []⟩, trivial, .inl rfl, rfl⟩
  intro g hΦ
  refine KW.sub (s' := [(6, .pointer (some ⟨b3, 0, none⟩)), (7, .int .i64 x36.fr), (8, .int .i64 1), (9, .bool true)]) (h' := [(2, [(b3, .cells #[.slice p9 ((x8.t.b).length) c11, .slice p13 ((x8.t.f).length) c15, .slice p17 ((x8.c).length) c19] 36 (0, 0))]), (6, C12), (7, C16), (8, C30), (10, C31), (11, C32), (12, C33)]) ?_ ⟨rfl, rfl, rfl, rfl, trivial⟩ ⟨rfl, rfl, rfl, rfl, rfl, rfl, rfl, trivial⟩
  refine kw_nx (cw_ret (kw_nx_ret (kw_shut 8 10 11 12 o30 hb31 (idx_some hx23).2.2 (idx_some e22).2.2 rfl o32 rfl o33 ?_)))
  rintro C37 o37
  obtain rfl := sI H0
  exact kr Tryd.results26 (.cons (.cellN (us := [_, _, _]) ts36 rfl (Cells.box (id := 2) rfl 3 rfl)) (.cons (.tmp rfl) (.cons (.tmp rfl) (rT rfl)))) [6, 7, 8] ⟨_, _, _, _, _, _, _, _, _, _, _, _, rfl, rfl, rfl, o12, rfl, o16, rfl, o37⟩
 have H0 := cond_f H0 h35
 obtain ⟨x38, e38, H0⟩ := bS H0
 refine cw_skip (kw_nx (sr (oA 0 Tryd.underlying36 rfl ts33 rfl (oB2 0 ts33 rfl (oB2 1 ts46 rfl (oE (stpU_call (fun i => 13 + i) cf51 (fun w hw => c_i_Table_find fl w a0.t a2 rfl (RO.pass hr0_0 hw) rfl (RO.pass hr0_1 hw) x38 e38) (yB rfl rfl)) rfl ?_))))))
 rintro _ _ ⟨_, ⟨rfl, rfl⟩, rfl⟩
 refine oS rfl (nn (cw_seq (sr (oM rfl (oW rfl (nn (cw_cond rfl (fun h39 => ?_) (fun h39 => ?_))))))))
 ·have H0 := cond_t H0 h39
  refine sr (oB3 9 ts36 rfl (oC3 2 ts36 rfl rfl (oS rfl (oS rfl (oS rfl (nn (cw_ret (kw_nx_ret (kw_shut 8 10 11 12 o30 hb31 (idx_some hx23).2.2 (idx_some e22).2.2 rfl o32 rfl o33 ?_)))))))))
  rintro C40 o40
  obtain rfl := sI H0
  exact kr Tryd.results26 (.cons (.cellN (us := [_, _, _]) ts36 rfl (Cells.box (id := 2) rfl 3 rfl)) (.cons (.tmp rfl) (.cons (.tmp rfl) (rT rfl)))) [6, 7, 8] ⟨_, _, _, _, _, _, _, _, _, _, _, _, rfl, rfl, rfl, o12, rfl, o16, rfl, o40⟩
 have H0 := cond_f H0 h39
 refine cw_skip (kw_nx (cw_seq (sr (oM rfl (oZ rfl (oA 0 Tryd.underlying44 rfl ts42 rfl (oD (stp_load1 ts42 rfl (Cells.el (Rdb.own (id := 8) rfl o30) (by decide) hx23 0 1 rfl)) rfl (oD (stp_len Tryd.underlying42 rfl) rfl (oQ rfl (nn (cw_cond rfl (fun h41 => ?_) (fun h41 => ?_))))))))))))
 ·have H0 := cond_t H0 h41
  obtain ⟨x42, e42, H0⟩ := bS H0
  refine sr (oM rfl (oZ rfl (oA 0 Tryd.underlying44 rfl ts42 rfl (oD (stp_load1 ts42 rfl (Cells.el (Rdb.own (id := 8) rfl o30) (by decide) hx23 0 1 rfl)) rfl (oD (stp_indexAddr Tryd.underlying42 ts48 (by decide) rfl rfl rfl (Rdb.own (id := 11) rfl o32) e42) rfl (oA 0 Tryd.underlying48 rfl ts46 rfl (oD (stp_loadN (us := [_, _]) ts46 rfl (Cells.el (Rdb.own (id := 11) rfl o32) (by decide) e42 0 2 rfl)) rfl (oE (stpU_alloc 13 tz46 rfl) rfl ?_))))))))
  rintro _ _ ⟨b43, rfl, rfl⟩
  obtain ⟨x44, e44, H0⟩ := bS H0
  obtain ⟨x49, e49, H0⟩ := bS H0
  refine oC2 13 ts46 rfl rfl (nn (rdq g_mixed [11, 14] [8, 11, 12, 13] { dst := dS [69, 70, 71, 72, 73, 74, 75, 76, 77, 78, 79, 80, 81, 82, 83, 84, 0, 85, 86, 0], pre := gA [] [[], [], [], [2], [2, 3], [2, 3, 4], [], rn 2 5, [], [8], [8, 9], [8, 9, 10], [], rn 2 11, [0, 2, 3, 4, 5, 6, 7, 8, 9, 10, 11, 12, 13], [0, 2, 3, 4, 5, 6, 7, 8, 9, 10, 11, 12, 13, 14], [0, 2, 3, 4, 5, 6, 7, 8, 9, 10, 11, 12, 13, 14, 15], rn 0 17, rn 0 18, rn 0 19], ids := fun i => match i with | 7 => [14] | 13 => [15] | 16 => [8, 14] | 19 => [8, 14, 15] | _ => [], rs := rL [[(11, 0)], [(11, 0)], [(11, 0)], [(70, 3)], [(71, 4)], [(72, 5)], [(14, 0)], [(73, 6), (74, 7)], [(11, 0)], [(76, 9)], [(77, 10)], [(78, 11)], [(14, 0)], [(79, 12), (80, 13)], [(68, 1)], [(82, 15)], [(83, 16), (75, 8)], [(69, 2)], [(84, 18)], [(85, 19), (81, 14)]], rh := rL [[], [], [], [], [], [(8, 0)], [(13, 0)], [(11, 0)], [], [], [], [(8, 0)], [(13, 0)], [(12, 0)], [], [], [(8, 0), (14, 8)], [], [], [(8, 17), (14, 17), (15, 14)]], V := fun i g => gA undef [.pointer (some ⟨eB p17, eO p17 + Int.toNat a1 * Enc.sz CpS + 0, none⟩), .pointer (some ⟨eB p17, eO p17 + Int.toNat a1 * Enc.sz CpS + 0, none⟩), .pointer (some ⟨eB p17, eO p17 + Int.toNat a1 * Enc.sz CpS + 0, none⟩), .pointer (some ⟨eB p17, eO p17 + Int.toNat a1 * Enc.sz CpS + 0, none⟩), .pointer (some ⟨eB p17, eO p17 + Int.toNat a1 * Enc.sz CpS + 0, none⟩), .slice p24 ((x22.n).length) c26, .agg #[.int .i64 x42.k.s, .int .i64 x42.k.p], .slice ((g 7).A 0) ((x44).length) ((g 7).C 0), .pointer (some ⟨eB p17, eO p17 + Int.toNat a1 * Enc.sz CpS + 0, none⟩), .pointer (some ⟨eB p17, eO p17 + Int.toNat a1 * Enc.sz CpS + 0, none⟩), .pointer (some ⟨eB p17, eO p17 + Int.toNat a1 * Enc.sz CpS + 1, none⟩), .slice p27 ((x22.w).length) c29, .agg #[.int .i64 x42.k.s, .int .i64 x42.k.p], .slice ((g 13).A 0) ((x49).length) ((g 13).C 0), .pointer (some ⟨eB p17, eO p17 + Int.toNat a1 * Enc.sz CpS + 0, none⟩), .pointer (some ⟨eB p17, eO p17 + Int.toNat a1 * Enc.sz CpS + 0, none⟩), undef, .pointer (some ⟨eB p17, eO p17 + Int.toNat a1 * Enc.sz CpS + 0, none⟩), .pointer (some ⟨eB p17, eO p17 + Int.toNat a1 * Enc.sz CpS + 1, none⟩)] i, U := fun i g => match i with | 7 => [(14, ((g 7).R 0))] | 13 => [(15, ((g 13).R 0))] | 16 => [(8, ((g 16).R 0)), (14, ((g 16).R 1))] | 19 => [(8, ((g 19).R 0)), (14, ((g 19).R 1)), (15, ((g 19).R 2))] | _ => [], Φ := fun i x => match i with | 7 => OwnC 48 (x.A 0) (x.C 0) x44 (x.R 0) | 13 => OwnC 48 (x.A 0) (x.C 0) x49 (x.R 0) | 16 => OwnC (α := CpS) 44 p17 c19 (u23.set (Int.toNat a1) (⟨(x.A 0), (x44).length, (x.C 0), p27, (x22.w).length, c29⟩ : CpS)) (x.R 0) ∧ OwnC 48 (x.A 0) (x.C 0) x44 (x.R 1) | 19 => OwnC (α := CpS) 44 p17 c19 (u23.set (Int.toNat a1) (⟨(x.A 0), (x44).length, (x.C 0), (x.A 1), (x49).length, (x.C 1)⟩ : CpS)) (x.R 0) ∧ OwnC 48 (x.A 0) (x.C 0) x44 (x.R 1) ∧ OwnC 48 (x.A 1) (x.C 1) x49 (x.R 2) | _ => True } ?_ ?_))
  ·refine ⟨lM, lM, lM, lc rfl rfl fun hs hh => stp_nilCheck (sv hs 70 rfl), lc rfl rfl fun hs hh => stp_fieldAddr (j := 0) Tryd.underlying44 rfl ts42 rfl (sv hs 71 rfl) rfl, lc rfl rfl fun hs hh => stp_load1 ts42 (sv hs 72 rfl) (Cells.el (Rdb.own (id := 8) (hh.get 8 _ rfl) o30) (by decide) hx23 0 1 rfl), lc rfl rfl fun hs hh => stp_loadN (us := [_, _]) ts46 (sv hs 14 rfl) (Cells.box (id := 13) (hh.get 13 _ rfl) 2 rfl), ?_, lM, lc rfl rfl fun hs hh => stp_nilCheck (sv hs 76 rfl), lc rfl rfl fun hs hh => stp_fieldAddr (j := 1) Tryd.underlying44 rfl ts42 rfl (sv hs 77 rfl) rfl, lc rfl rfl fun hs hh => stp_load1 ts42 (sv hs 78 rfl) (Cells.el (Rdb.own (id := 8) (hh.get 8 _ rfl) o30) (by decide) hx23 1 1 rfl), lc rfl rfl fun hs hh => stp_loadN (us := [_, _]) ts46 (sv hs 14 rfl) (Cells.box (id := 13) (hh.get 13 _ rfl) 2 rfl), ?_, lc rfl rfl fun hs hh => stp_nilCheck (sv hs 68 rfl), lc rfl rfl fun hs hh => stp_fieldAddr (j := 0) Tryd.underlying44 rfl ts42 rfl (sv hs 82 rfl) rfl, ?_, lc rfl rfl fun hs hh => stp_nilCheck (sv hs 69 rfl), lc rfl rfl fun hs hh => stp_fieldAddr (j := 1) Tryd.underlying44 rfl ts42 rfl (sv hs 84 rfl) rfl, ?_, trivial⟩
   ·refine le rfl rfl (fun g hΦ s h hs hh => (stpU_call (fun i => 14 + i) cf73 (fun w hw => c_i_drop fl w x22.n x42.k rfl (OwnC.pass (id := 11) (hh.get 11 _ rfl) o32 hw) x44 e44) (yB (sv hs 73 rfl) (sv hs 74 rfl)))) ?_
    rintro g _ _ ⟨_, ⟨p45, _, c47, C48, rfl, rfl, rfl, o48⟩, rfl⟩
    exact ⟨⟨[p45], [c47], [C48]⟩, o48, .inr rfl, rfl⟩
   ·refine le rfl rfl (fun g hΦ s h hs hh => (stpU_call (fun i => 15 + i) cf73 (fun w hw => c_i_drop fl w x22.w x42.k rfl (OwnC.pass (id := 12) (hh.get 12 _ rfl) o33 hw) x49 e49) (yB (sv hs 79 rfl) (sv hs 80 rfl)))) ?_
    rintro g _ _ ⟨_, ⟨p50, _, c52, C53, rfl, rfl, rfl, o53⟩, rfl⟩
    exact ⟨⟨[p50], [c52], [C53]⟩, o53, .inr rfl, rfl⟩
   ·refine le rfl rfl (fun g hΦ s h hs hh => (stpU_keep (hh.get 14 _ rfl) (stpU_storeEl (id := 8) (i := 0) (⟨((g 7).A 0), (x44).length, ((g 7).C 0), p27, (x22.w).length, c29⟩ : CpS) (by decide) ts42 (sv hs 83 rfl) (sv hs 75 rfl) (hh.get 8 _ rfl) o30 hx23 rfl rfl rfl rfl) (by rintro _ _ ⟨_, rfl, _⟩; rfl) (hΦ 7 rfl))) ?_
    rintro g _ _ ⟨_, ⟨C54, rfl, o54⟩, rfl, o57⟩
    exact ⟨⟨[((g 7).A 0)], [((g 7).C 0)], [C54, ((g 7).R 0)]⟩, ⟨o54, o57⟩, .inl rfl, rfl⟩
   refine le rfl rfl (fun g hΦ s h hs hh => (stpU_keep (hh.get 15 _ rfl) (stpU_keep (hh.get 14 _ rfl) (stpU_storeElS (id := 8) (i := 1) (⟨((g 16).A 0), (x44).length, ((g 16).C 0), ((g 13).A 0), (x49).length, ((g 13).C 0)⟩ : CpS) (by decide) ts42 (sv hs 85 rfl) (sv hs 81 rfl) (hh.get 8 _ rfl) (hΦ 16 rfl).1 (idx_set hx23) rfl rfl rfl rfl) (by rintro _ _ ⟨_, rfl, _⟩; rfl) (hΦ 16 rfl).2) (by rintro _ _ ⟨_, ⟨_, rfl, _⟩, rfl, _⟩; rfl) (hΦ 13 rfl))) ?_
   rintro g _ _ ⟨_, ⟨_, ⟨C58, rfl, o58⟩, rfl, o61⟩, rfl, o64⟩
   exact ⟨⟨[((g 16).A 0), ((g 13).A 0)], [((g 16).C 0), ((g 13).C 0)], [C58, ((g 16).R 1), ((g 13).R 0)]⟩, ⟨o58, o61, o64⟩, .inl rfl, rfl⟩
  intro g hΦ
  refine kw_gen (ι := Option Addr × Nat × Res × Option Addr × Nat × Res × Option Addr × Nat × Res × Res × Option Addr × Option Addr × Nat × Nat × Res × Res × Res) (((g 7).A 0), ((g 7).C 0), ((g 7).R 0), ((g 13).A 0), ((g 13).C 0), ((g 13).R 0), ((g 16).A 0), ((g 16).C 0), ((g 16).R 0), ((g 16).R 1), ((g 19).A 0), ((g 19).A 1), ((g 19).C 0), ((g 19).C 1), ((g 19).R 0), ((g 19).R 1), ((g 19).R 2)) (fun | (p45, c47, C48, p50, c52, C53, p55, c56, C54, C57, p59, p62, c60, c63, C58, C61, C64) => OwnC 48 p45 c47 x44 C48 ∧ OwnC 48 p50 c52 x49 C53 ∧ OwnC (α := CpS) 44 p17 c19 (u23.set (Int.toNat a1) (⟨p55, (x44).length, c56, p27, (x22.w).length, c29⟩ : CpS)) C54 ∧ OwnC 48 p55 c56 x44 C57 ∧ OwnC (α := CpS) 44 p17 c19 (u23.set (Int.toNat a1) (⟨p59, (x44).length, c60, p62, (x49).length, c63⟩ : CpS)) C58 ∧ OwnC 48 p59 c60 x44 C61 ∧ OwnC 48 p62 c63 x49 C64) (fun | (p45, c47, C48, p50, c52, C53, p55, c56, C54, C57, p59, p62, c60, c63, C58, C61, C64) => [(5, .pointer (some ⟨b2, 0, none⟩)), (6, .pointer (some ⟨b3, 0, none⟩)), (10, .pointer (some ⟨b21, 0, none⟩)), (11, .pointer (some ⟨eB p17, eO p17 + Int.toNat a1 * Enc.sz CpS + 0, none⟩)), (13, .int .i64 x38)]) (fun | (p45, c47, C48, p50, c52, C53, p55, c56, C54, C57, p59, p62, c60, c63, C58, C61, C64) => [(1, [(b2, .cells #[.int .i64 a2.s, .int .i64 a2.p] 46 (0, 0))]), (2, [(b3, .cells #[.slice none 0 0, .slice none 0 0, .slice none 0 0] 36 (0, 0))]), (6, C12), (7, C16), (8, C58), (9, [(b21, .cells #[.slice p9 ((x8.t.b).length) c11, .slice p13 ((x8.t.f).length) c15, .slice p17 ((x8.c).length) c19] 36 (0, 0))]), (10, C31), (14, C61), (15, C64)]) ⟨(hΦ 7 (by decide)), (hΦ 13 (by decide)), (hΦ 16 (by decide)).1, (hΦ 16 (by decide)).2, (hΦ 19 (by decide)).1, (hΦ 19 (by decide)).2.1, (hΦ 19 (by decide)).2.2⟩ ⟨rfl, rfl, rfl, rfl, rfl, trivial⟩ ⟨rfl, rfl, rfl, rfl, rfl, rfl, rfl, rfl, rfl, trivial⟩ ?_
  rintro ⟨p45, c47, C48, p50, c52, C53, p55, c56, C54, C57, p59, p62, c60, c63, C58, C61, C64⟩ ⟨o48, o53, o54, o57, o58, o61, o64⟩
  dsimp only
  obtain ⟨x67, e67, H0⟩ := bS H0
  refine kw_nx (cw_seq (rdq g_mixed [5, 11, 13] [1, 8, 14] { dst := dS [87, 88, 89, 90, 91, 92, 93, 94, 95, 96, 97, 98, 99, 0], pre := gA [] [[], [], [1], [1, 2], [1, 2, 3], [], [], [5, 6], [5, 6, 7], rn 1 8, rn 1 9, rn 0 11, rn 0 12, rn 0 13], ids := fun i => match i with | 8 => [16] | 9 => [14] | 13 => [8, 14] | _ => [], rs := rL [[(11, 0)], [(11, 0)], [(87, 2)], [(88, 3)], [(89, 4)], [(5, 0)], [(13, 0)], [(91, 6), (92, 7)], [(93, 8)], [(90, 5), (94, 9)], [(95, 10)], [(86, 1)], [(97, 12)], [(98, 13), (96, 11)]], rh := rL [[], [], [], [], [(8, 0)], [(1, 0)], [], [], [], [(14, 0), (16, 9)], [], [], [], [(8, 0), (14, 10)]], V := fun i g => gA undef [.pointer (some ⟨eB p17, eO p17 + Int.toNat a1 * Enc.sz CpS + 0, none⟩), .pointer (some ⟨eB p17, eO p17 + Int.toNat a1 * Enc.sz CpS + 0, none⟩), .pointer (some ⟨eB p17, eO p17 + Int.toNat a1 * Enc.sz CpS + 0, none⟩), .pointer (some ⟨eB p17, eO p17 + Int.toNat a1 * Enc.sz CpS + 0, none⟩), .slice p59 ((x44).length) c60, .agg #[.int .i64 a2.s, .int .i64 a2.p], .int .i64 x38, .agg #[.int .i64 a2.s, .int .i64 a2.p, .int .i64 x38], .slice ((g 8).A 0) 1 1, .slice ((g 9).A 0) ((x67).length) ((g 9).C 0), .slice ((g 9).A 0) ((x67).length) ((x67).length), .pointer (some ⟨eB p17, eO p17 + Int.toNat a1 * Enc.sz CpS + 0, none⟩), .pointer (some ⟨eB p17, eO p17 + Int.toNat a1 * Enc.sz CpS + 0, none⟩)] i, U := fun i g => match i with | 8 => [(16, ((g 8).R 0))] | 9 => [(14, ((g 9).R 0))] | 13 => [(8, ((g 13).R 0)), (14, ((g 13).R 1))] | _ => [], Φ := fun i x => match i with | 8 => OwnC (α := Nt) 48 (x.A 0) 1 ([(⟨a2, x38⟩ : Nt)]) (x.R 0) | 9 => OwnC 48 (x.A 0) (x.C 0) x67 (x.R 0) | 13 => OwnC (α := CpS) 44 p17 c19 (u23.set (Int.toNat a1) (⟨(x.A 0), (x67).length, (x.C 0), p62, (x49).length, c63⟩ : CpS)) (x.R 0) ∧ OwnC 48 (x.A 0) (x.C 0) x67 (x.R 1) | _ => True } ?_ ?_))
  ·refine ⟨lM, lM, lc rfl rfl fun hs hh => stp_nilCheck (sv hs 87 rfl), lc rfl rfl fun hs hh => stp_fieldAddr (j := 0) Tryd.underlying44 rfl ts42 rfl (sv hs 88 rfl) rfl, lc rfl rfl fun hs hh => stp_load1 ts42 (sv hs 89 rfl) (Cells.el (Rdb.own (id := 8) (hh.get 8 _ rfl) o58) (by decide) (idx_set hx23) 0 1 rfl), lc rfl rfl fun hs hh => stp_loadN (us := [_, _]) ts46 (sv hs 5 rfl) (Cells.box (id := 1) (hh.get 1 _ rfl) 2 rfl), lM, lc rfl rfl fun hs hh => stp_build (cs := #[.int .i64 a2.s, .int .i64 a2.p, .int .i64 x38]) (sevp_cons (sv hs 91 rfl) (sevp_cons (sv hs 92 rfl) sevp_nil)) bt48_9, ?_, ?_, ?_, lc rfl rfl fun hs hh => stp_nilCheck (sv hs 86 rfl), lc rfl rfl fun hs hh => stp_fieldAddr (j := 0) Tryd.underlying44 rfl ts42 rfl (sv hs 97 rfl) rfl, ?_, trivial⟩
   ·refine le rfl rfl (fun g hΦ s h hs hh => (stpU_lit (sz := 3) (l := [(⟨a2, x38⟩ : Nt)]) [.agg #[.int .i64 a2.s, .int .i64 a2.p, .int .i64 x38]] sl42 16 (sevp_cons (sv hs 93 rfl) sevp_nil) rfl rfl rfl rfl rfl rfl rfl rfl rfl)) ?_
    rintro g _ _ ⟨p65, C66, rfl, rfl, o66⟩
    exact ⟨⟨[p65], [], [C66]⟩, o66, .inr rfl, rfl⟩
   ·refine le rfl rfl (fun g hΦ s h hs hh => (stpU_append sl42 rfl (id := 14) (sv hs 90 rfl) rfl (sv hs 94 rfl) (by simp) (hh.get 14 _ rfl) o61 (Rdb.own (id := 16) (hh.get 16 _ rfl) (hΦ 8 rfl)) e67)) ?_
    rintro g _ _ ⟨p68, c69, C70, rfl, rfl, o70⟩
    exact ⟨⟨[p68], [c69], [C70]⟩, o70, .inr rfl, rfl⟩
   ·refine le rfl rfl (fun g hΦ s h hs hh => (stpU_call (fun i => i) cf74 (fun w hw => c_clip74 w ((g 9).A 0) ((x67).length) ((g 9).C 0) (OwnC.len (hΦ 9 rfl)).1) (yA (sv hs 95 rfl)))) ?_
    rintro g _ _ ⟨_, ⟨rfl, rfl⟩, rfl⟩
    exact ⟨⟨[], [], []⟩, trivial, .inr rfl, rfl⟩
   refine le rfl rfl (fun g hΦ s h hs hh => (stpU_keep (hh.get 14 _ rfl) (stpU_storeElS (id := 8) (i := 0) (⟨((g 9).A 0), (x67).length, (x67).length, p62, (x49).length, c63⟩ : CpS) (by decide) ts42 (sv hs 98 rfl) (sv hs 96 rfl) (hh.get 8 _ rfl) o58 (idx_set hx23) rfl rfl rfl rfl) (by rintro _ _ ⟨_, rfl, _⟩; rfl) (OwnC.clip (hΦ 9 rfl)))) ?_
   rintro g _ _ ⟨_, ⟨C71, rfl, o71⟩, rfl, o74⟩
   exact ⟨⟨[((g 9).A 0)], [(x67).length], [C71, ((g 9).R 0)]⟩, ⟨o71, o74⟩, .inl rfl, rfl⟩
  intro g hΦ
  refine kw_gen (ι := Option Addr × Res × Option Addr × Nat × Res × Option Addr × Nat × Res × Res) (((g 8).A 0), ((g 8).R 0), ((g 9).A 0), ((g 9).C 0), ((g 9).R 0), ((g 13).A 0), ((g 13).C 0), ((g 13).R 0), ((g 13).R 1)) (fun | (p65, C66, p68, c69, C70, p72, c73, C71, C74) => OwnC (α := Nt) 48 p65 1 ([(⟨a2, x38⟩ : Nt)]) C66 ∧ OwnC 48 p68 c69 x67 C70 ∧ OwnC (α := CpS) 44 p17 c19 (u23.set (Int.toNat a1) (⟨p72, (x67).length, c73, p62, (x49).length, c63⟩ : CpS)) C71 ∧ OwnC 48 p72 c73 x67 C74) (fun | (p65, C66, p68, c69, C70, p72, c73, C71, C74) => [(6, .pointer (some ⟨b3, 0, none⟩)), (10, .pointer (some ⟨b21, 0, none⟩)), (13, .int .i64 x38)]) (fun | (p65, C66, p68, c69, C70, p72, c73, C71, C74) => [(2, [(b3, .cells #[.slice none 0 0, .slice none 0 0, .slice none 0 0] 36 (0, 0))]), (6, C12), (7, C16), (8, C71), (9, [(b21, .cells #[.slice p9 ((x8.t.b).length) c11, .slice p13 ((x8.t.f).length) c15, .slice p17 ((x8.c).length) c19] 36 (0, 0))]), (10, C31), (14, C74), (15, C64)]) ⟨(hΦ 8 (by decide)), (hΦ 9 (by decide)), (hΦ 13 (by decide)).1, (hΦ 13 (by decide)).2⟩ ⟨rfl, rfl, rfl, trivial⟩ ⟨rfl, rfl, rfl, rfl, rfl, rfl, rfl, rfl, trivial⟩ ?_
  rintro ⟨p65, C66, p68, c69, C70, p72, c73, C71, C74⟩ ⟨o66, o70, o71, o74⟩
  dsimp only
  refine kw_nx (sr (oB3 9 ts36 rfl (oM rfl (oC3 2 ts36 rfl rfl (oS rfl (oS rfl (oS rfl (nn (cw_ret (kw_shut 8 10 14 15 o71 (Bun.setL (Bun.set hb31 _) _) (idx_some (idx_set hx23)).2.2 (idx_setD e22 (⟨x67, x49⟩ : Cp)) rfl o74 rfl o64 ?_))))))))))
  rintro C75 o75
  obtain rfl := sI H0
  exact kr Tryd.results26 (.cons (.cellN (us := [_, _, _]) ts36 rfl (Cells.box (id := 2) rfl 3 rfl)) (.cons (.tmp rfl) (.cons (.tmp rfl) (rT rfl)))) [6, 7, 8] ⟨_, _, _, _, _, _, _, _, _, _, _, _, rfl, rfl, rfl, o12, rfl, o16, (by simp), o75⟩
 have H0 := cond_f H0 h41
 obtain ⟨x78, e78, H0⟩ := bS H0
 refine cw_skip (kw_nx (cw_seq (rdq g_mixed [5, 11, 13] [1, 8, 11] { dst := dS [87, 88, 89, 90, 91, 92, 93, 94, 95, 96, 97, 98, 99, 0], pre := gA [] [[], [], [1], [1, 2], [1, 2, 3], [], [], [5, 6], [5, 6, 7], rn 1 8, rn 1 9, rn 0 11, rn 0 12, rn 0 13], ids := fun i => match i with | 8 => [17] | 9 => [11] | 13 => [8, 11] | _ => [], rs := rL [[(11, 0)], [(11, 0)], [(87, 2)], [(88, 3)], [(89, 4)], [(5, 0)], [(13, 0)], [(91, 6), (92, 7)], [(93, 8)], [(90, 5), (94, 9)], [(95, 10)], [(86, 1)], [(97, 12)], [(98, 13), (96, 11)]], rh := rL [[], [], [], [], [(8, 0)], [(1, 0)], [], [], [], [(11, 0), (17, 9)], [], [], [], [(8, 0), (11, 10)]], V := fun i g => gA undef [.pointer (some ⟨eB p17, eO p17 + Int.toNat a1 * Enc.sz CpS + 0, none⟩), .pointer (some ⟨eB p17, eO p17 + Int.toNat a1 * Enc.sz CpS + 0, none⟩), .pointer (some ⟨eB p17, eO p17 + Int.toNat a1 * Enc.sz CpS + 0, none⟩), .pointer (some ⟨eB p17, eO p17 + Int.toNat a1 * Enc.sz CpS + 0, none⟩), .slice p24 ((x22.n).length) c26, .agg #[.int .i64 a2.s, .int .i64 a2.p], .int .i64 x38, .agg #[.int .i64 a2.s, .int .i64 a2.p, .int .i64 x38], .slice ((g 8).A 0) 1 1, .slice ((g 9).A 0) ((x78).length) ((g 9).C 0), .slice ((g 9).A 0) ((x78).length) ((x78).length), .pointer (some ⟨eB p17, eO p17 + Int.toNat a1 * Enc.sz CpS + 0, none⟩), .pointer (some ⟨eB p17, eO p17 + Int.toNat a1 * Enc.sz CpS + 0, none⟩)] i, U := fun i g => match i with | 8 => [(17, ((g 8).R 0))] | 9 => [(11, ((g 9).R 0))] | 13 => [(8, ((g 13).R 0)), (11, ((g 13).R 1))] | _ => [], Φ := fun i x => match i with | 8 => OwnC (α := Nt) 48 (x.A 0) 1 ([(⟨a2, x38⟩ : Nt)]) (x.R 0) | 9 => OwnC 48 (x.A 0) (x.C 0) x78 (x.R 0) | 13 => OwnC (α := CpS) 44 p17 c19 (u23.set (Int.toNat a1) (⟨(x.A 0), (x78).length, (x.C 0), p27, (x22.w).length, c29⟩ : CpS)) (x.R 0) ∧ OwnC 48 (x.A 0) (x.C 0) x78 (x.R 1) | _ => True } ?_ ?_)))
 ·refine ⟨lM, lM, lc rfl rfl fun hs hh => stp_nilCheck (sv hs 87 rfl), lc rfl rfl fun hs hh => stp_fieldAddr (j := 0) Tryd.underlying44 rfl ts42 rfl (sv hs 88 rfl) rfl, lc rfl rfl fun hs hh => stp_load1 ts42 (sv hs 89 rfl) (Cells.el (Rdb.own (id := 8) (hh.get 8 _ rfl) o30) (by decide) hx23 0 1 rfl), lc rfl rfl fun hs hh => stp_loadN (us := [_, _]) ts46 (sv hs 5 rfl) (Cells.box (id := 1) (hh.get 1 _ rfl) 2 rfl), lM, lc rfl rfl fun hs hh => stp_build (cs := #[.int .i64 a2.s, .int .i64 a2.p, .int .i64 x38]) (sevp_cons (sv hs 91 rfl) (sevp_cons (sv hs 92 rfl) sevp_nil)) bt48_9, ?_, ?_, ?_, lc rfl rfl fun hs hh => stp_nilCheck (sv hs 86 rfl), lc rfl rfl fun hs hh => stp_fieldAddr (j := 0) Tryd.underlying44 rfl ts42 rfl (sv hs 97 rfl) rfl, ?_, trivial⟩
  ·refine le rfl rfl (fun g hΦ s h hs hh => (stpU_lit (sz := 3) (l := [(⟨a2, x38⟩ : Nt)]) [.agg #[.int .i64 a2.s, .int .i64 a2.p, .int .i64 x38]] sl42 17 (sevp_cons (sv hs 93 rfl) sevp_nil) rfl rfl rfl rfl rfl rfl rfl rfl rfl)) ?_
   rintro g _ _ ⟨p76, C77, rfl, rfl, o77⟩
   exact ⟨⟨[p76], [], [C77]⟩, o77, .inr rfl, rfl⟩
  ·refine le rfl rfl (fun g hΦ s h hs hh => (stpU_append sl42 rfl (id := 11) (sv hs 90 rfl) rfl (sv hs 94 rfl) (by simp) (hh.get 11 _ rfl) o32 (Rdb.own (id := 17) (hh.get 17 _ rfl) (hΦ 8 rfl)) e78)) ?_
   rintro g _ _ ⟨p79, c80, C81, rfl, rfl, o81⟩
   exact ⟨⟨[p79], [c80], [C81]⟩, o81, .inr rfl, rfl⟩
  ·refine le rfl rfl (fun g hΦ s h hs hh => (stpU_call (fun i => i) cf74 (fun w hw => c_clip74 w ((g 9).A 0) ((x78).length) ((g 9).C 0) (OwnC.len (hΦ 9 rfl)).1) (yA (sv hs 95 rfl)))) ?_
   rintro g _ _ ⟨_, ⟨rfl, rfl⟩, rfl⟩
   exact ⟨⟨[], [], []⟩, trivial, .inr rfl, rfl⟩
  refine le rfl rfl (fun g hΦ s h hs hh => (stpU_keep (hh.get 11 _ rfl) (stpU_storeEl (id := 8) (i := 0) (⟨((g 9).A 0), (x78).length, (x78).length, p27, (x22.w).length, c29⟩ : CpS) (by decide) ts42 (sv hs 98 rfl) (sv hs 96 rfl) (hh.get 8 _ rfl) o30 hx23 rfl rfl rfl rfl) (by rintro _ _ ⟨_, rfl, _⟩; rfl) (OwnC.clip (hΦ 9 rfl)))) ?_
  rintro g _ _ ⟨_, ⟨C82, rfl, o82⟩, rfl, o85⟩
  exact ⟨⟨[((g 9).A 0)], [(x78).length], [C82, ((g 9).R 0)]⟩, ⟨o82, o85⟩, .inl rfl, rfl⟩
 intro g hΦ
 refine kw_gen (ι := Option Addr × Res × Option Addr × Nat × Res × Option Addr × Nat × Res × Res) (((g 8).A 0), ((g 8).R 0), ((g 9).A 0), ((g 9).C 0), ((g 9).R 0), ((g 13).A 0), ((g 13).C 0), ((g 13).R 0), ((g 13).R 1)) (fun | (p76, C77, p79, c80, C81, p83, c84, C82, C85) => OwnC (α := Nt) 48 p76 1 ([(⟨a2, x38⟩ : Nt)]) C77 ∧ OwnC 48 p79 c80 x78 C81 ∧ OwnC (α := CpS) 44 p17 c19 (u23.set (Int.toNat a1) (⟨p83, (x78).length, c84, p27, (x22.w).length, c29⟩ : CpS)) C82 ∧ OwnC 48 p83 c84 x78 C85) (fun | (p76, C77, p79, c80, C81, p83, c84, C82, C85) => [(6, .pointer (some ⟨b3, 0, none⟩)), (10, .pointer (some ⟨b21, 0, none⟩)), (13, .int .i64 x38)]) (fun | (p76, C77, p79, c80, C81, p83, c84, C82, C85) => [(2, [(b3, .cells #[.slice none 0 0, .slice none 0 0, .slice none 0 0] 36 (0, 0))]), (6, C12), (7, C16), (8, C82), (9, [(b21, .cells #[.slice p9 ((x8.t.b).length) c11, .slice p13 ((x8.t.f).length) c15, .slice p17 ((x8.c).length) c19] 36 (0, 0))]), (10, C31), (11, C85), (12, C33)]) ⟨(hΦ 8 (by decide)), (hΦ 9 (by decide)), (hΦ 13 (by decide)).1, (hΦ 13 (by decide)).2⟩ ⟨rfl, rfl, rfl, trivial⟩ ⟨rfl, rfl, rfl, rfl, rfl, rfl, rfl, rfl, trivial⟩ ?_
 rintro ⟨p76, C77, p79, c80, C81, p83, c84, C82, C85⟩ ⟨o77, o81, o82, o85⟩
 dsimp only
 refine kw_nx (sr (oB3 9 ts36 rfl (oM rfl (oC3 2 ts36 rfl rfl (oS rfl (oS rfl (oS rfl (nn (cw_ret (kw_shut 8 10 11 12 o82 (Bun.setL (Bun.set hb31 _) _) (idx_some (idx_set hx23)).2.2 (idx_setD e22 (⟨x78, x22.w⟩ : Cp)) rfl o85 rfl o33 ?_))))))))))
 rintro C86 o86
 obtain rfl := sI H0
 exact kr Tryd.results26 (.cons (.cellN (us := [_, _, _]) ts36 rfl (Cells.box (id := 2) rfl 3 rfl)) (.cons (.tmp rfl) (.cons (.tmp rfl) (rT rfl)))) [6, 7, 8] ⟨_, _, _, _, _, _, _, _, _, _, _, _, rfl, rfl, rfl, o12, rfl, o16, (by simp), o86⟩
end Go.Proofs.YtfnliecmagnkdaaDoor
