/- The walks: functions of the program return what their pure functions say. Printed by a program (gen.py). -/
import Derived.Test.YtfnliecmagnkdabDoorBp
import Derived.Test.YtfnliecmagnkdabDoorBt
import Derived.Test.YtfnliecmagnkdabDoorMan
import Derived.Test.YtfnliecmagnkdabDoorMap
import Derived.Test.YtfnliecmagnkdabDoorCpy
import Derived.Test.YtfnliecmagnkdabDoorClr
import Derived.Test.YtfnliecmagnkdabDoorDp
import Derived.Test.YtfnliecmagnkdabDoorSrt
import Derived.Test.YtfnliecmagnkdabDoorE8
import Derived.Test.YtfnliecmagnkdabDoorBwaa
import Derived.Test.YtfnliecmagnkdabDoorBwab
import Derived.Test.YtfnliecmagnkdabDoorBwad
import Derived.Test.YtfnliecmagnkdabDoorBwae
import Derived.Test.YtfnliecmagnkdabDoorBwaf
import Derived.Test.YtfnliecmagnkdabDoorBwah
import Derived.Test.YtfnliecmagnkdabDoorBws
set_option linter.unusedSimpArgs false
set_option linter.unusedVariables false
set_option linter.unusedSectionVars false
namespace Go.Proofs.YtfnliecmagnkdabDoor
open Go.RowKit
set_option maxHeartbeats 4000000
set_option maxRecDepth 20000
variable {p0_0 p0_1 p0_2 : Option Addr} {n0_0 n0_1 n0_2 : Nat} {c0_0 c0_1 c0_2 : Nat}
theorem c_i_LookCpu (fl : Nat) (w : World) (a0 : Sy) (a1 : Int) (a2 : K) (hn0_0 : n0_0 = (a0.t.b).length) (hr0_0 : RO w (hkeys []) (RdL p0_0 c0_0 a0.t.b)) (hn0_1 : n0_1 = (a0.t.f).length) (hr0_1 : RO w (hkeys []) (RdL p0_1 c0_1 a0.t.f)) (hn0_2 : n0_2 = (a0.c).length) (hr0_2 : ROD w (hkeys []) p0_2 c0_2 a0.c) (hg : RO w (hkeys []) (fun w' => w'.rangeAt 0 0 [.bool false, .int .i64 0, .int .i64 0, .int .i64 0, .int .i64 (-1)])) (r : Sy × Int × Int × Bool) (H0 : i_LookCpu fl a0 a1 a2 = some r) :
  Ct Tryd.prog 14 [.agg #[.slice p0_0 n0_0 c0_0, .slice p0_1 n0_1 c0_1, .slice p0_2 n0_2 c0_2], .int .i64 a1, .agg #[.int .i64 a2.s, .int .i64 a2.p]] w [] (fun rv h' => ∃ (x0 : Option Addr) (y0 z0 : Nat) (C0 : Res) (x1 : Option Addr) (y1 z1 : Nat) (C1 : Res) (x2 : Option Addr) (y2 z2 : Nat) (C2 : Res), rv = .tuple #[.agg #[.slice x0 y0 z0, .slice x1 y1 z1, .slice x2 y2 z2], .int .i64 r.2.1, .int .i64 r.2.2.1, .bool r.2.2.2] ∧ h' = [(0, C0), (1, C1), (2, C2)] ∧ y0 = (r.1.t.b).length ∧ OwnC 3 x0 z0 r.1.t.b C0 ∧ y1 = (r.1.t.f).length ∧ OwnC 71 x1 z1 r.1.t.f C1 ∧ y2 = (r.1.c).length ∧ OwnD 53 55 x2 z2 r.1.c C2) := by
 subst hn0_0 hn0_1 hn0_2
 unfold i_LookCpu at H0
 refine ct_of_cw Tryd.func14 rfl Tryd.ntmps14 rfl (Sat.refl _ _) ?_
 refine sr (oE (stpU_box 0 rfl rfl) rfl ?_)
 rintro _ _ ⟨b1, rfl, rfl⟩
 refine oE (stpU_box 1 rfl rfl) rfl ?_
 rintro _ _ ⟨b2, rfl, rfl⟩
 refine oE (stpU_alloc 2 tz37 rfl) rfl ?_
 rintro _ _ ⟨b3, rfl, rfl⟩
 obtain ⟨x4, e4, H0⟩ := bS H0
 refine oS rfl (oS rfl (oS rfl (nn (cw_seq (sr (oB3 0 ts37 rfl (oM rfl (oE (stpU_call (fun i => 3 + i) cf45 (fun w hw => c_i_cpuOf fl w a0 a1 rfl (RO.pass hr0_0 hw) rfl (RO.pass hr0_1 hw) rfl (ROD.pass hr0_2 hw) (RO.pass hg hw) x4 e4) (yB rfl rfl)) rfl ?_))))))))
 rintro _ _ ⟨_, ⟨rfl, rfl⟩, rfl⟩
 obtain ⟨y5, ey5, H0⟩ := bS H0
 refine oK rfl (oM rfl (ow_cutY 4 23 y5 ?_ ?_))
 ·rcases Bool.eq_false_or_eq_true (!x4) with hy5 | hy5
  ·have ey5 := cond_t ey5 hy5
   refine oO rfl hy5 rfl (oO rfl hy5 rfl (oO rfl hy5 rfl (oD (stp_pick_t rfl hy5 rfl) rfl ?_)))
   obtain rfl := sI ey5
   exact ow_nil (jy 4 0)
  have ey5 := cond_f ey5 hy5
  obtain ⟨x6, e6, ey5⟩ := bS ey5
  refine oG rfl hy5 (stp_loadN (us := [_, _]) ts41 rfl (Cells.box (id := 1) rfl 2 rfl)) rfl (ow_eff (.some rfl hy5) (stpU_call (fun i => 3 + i) cf46 (fun w hw => c_i_KeyValid fl w a2 x6 e6) (yA rfl)) rfl ?_)
  rintro _ _ ⟨_, ⟨rfl, rfl⟩, rfl⟩
  refine oG rfl hy5 (stp_not rfl) rfl (oD (stp_pick_f rfl hy5 rfl) rfl ?_)
  obtain rfl := sI ey5
  exact ow_nil (jy 4 0)
 refine ow_nil (kw_nx (cw_cond rfl (fun h7 => ?_) (fun h7 => ?_)))
 ·have H0 := cond_t H0 h7
  refine sr (oD (stp_build (cs := #[.slice none 0 0, .slice none 0 0, .slice none 0 0]) sevp_nil bt37_0) rfl (oC3 2 ts37 rfl rfl (oS rfl (oS rfl (oS rfl (nn (cw_ret (kw_nx_ret (kw_addNil 3 (kw_addNil 4 (kw_addNil 5 ?_)))))))))))
  obtain rfl := sI H0
  exact kr Tryd.results14 (.cons (.cellN (us := [_, _, _]) ts37 rfl (Cells.box (id := 2) rfl 3 rfl)) (.cons (.tmp rfl) (.cons (.tmp rfl) (rT rfl)))) [3, 4, 5] ⟨_, _, _, _, _, _, _, _, _, _, _, _, rfl, rfl, rfl, (OwnC.nil _ _), rfl, (OwnC.nil _ _), rfl, (OwnD.nil _ _ _)⟩
 have H0 := cond_f H0 h7
 obtain ⟨x8, e8, H0⟩ := bS H0
 refine cw_skip (kw_nx (sr (oB3 0 ts37 rfl (oE (stpU_call (fun i => 6 + i) cf47 (fun w hw => c_i_System_clone fl w a0 rfl (RO.pass hr0_0 hw) rfl (RO.pass hr0_1 hw) rfl (ROD.pass hr0_2 hw) x8 e8) (yA rfl)) rfl ?_))))
 rintro _ _ ⟨_, ⟨p9, _, c11, C12, p13, _, c15, C16, p17, _, c19, C20, rfl, rfl, rfl, o12, rfl, o16, rfl, o20⟩, rfl⟩
 refine oE (stpU_alloc 9 tz37 rfl) rfl ?_
 rintro _ _ ⟨b21, rfl, rfl⟩
 obtain ⟨x22, e22, H0⟩ := bS H0
 refine oC3 9 ts37 rfl rfl (nn (sr (oA 2 Tryd.underlying37 rfl ts35 rfl (oL 9 ts35 rfl (oM rfl (ow_open 8 10 11 12 rfl o20 e22 ?_))))))
 rintro u23 p24 n25 c26 p27 n28 c29 C30 C31 C32 C33 o30 hb31 hx23 rfl o32 rfl o33
 obtain ⟨x34, e34, H0⟩ := bS H0
 refine oD (stp_indexAddr Tryd.underlying35 ts53 (by decide) rfl (Bun.len hb31) rfl (Rdb.own (id := 8) rfl o30) hx23) rfl (oS rfl (nn (cw_seq (cw_seq (rdq g_mixed [5, 11] [1, 8, 11] { dst := dS [32, 33, 34, 35, 36, 37, 13], pre := gA [] [[], [0], [0, 1], [0, 1, 2], [], rn 0 5, rn 0 6], ids := fun _ => [], rs := rL [[(11, 0)], [(31, 1)], [(32, 2)], [(33, 3)], [(5, 0)], [(34, 4), (35, 5)], [(36, 6)]], rh := rL [[], [], [], [(8, 0)], [(1, 0)], [(11, 0)]], V := fun i g => gA undef [.pointer (some ⟨eB p17, eO p17 + Int.toNat a1 * Enc.sz CpS + 0, none⟩), .pointer (some ⟨eB p17, eO p17 + Int.toNat a1 * Enc.sz CpS + 0, none⟩), .pointer (some ⟨eB p17, eO p17 + Int.toNat a1 * Enc.sz CpS + 0, none⟩), .slice p24 ((x22.n).length) c26, .agg #[.int .i64 a2.s, .int .i64 a2.p], .int .i64 x34, .int .i64 x34] i, U := fun _ _ => [], Φ := fun _ _ => True } ?_ ?_)))))
 ·refine ⟨lM, lc rfl rfl fun hs hh => stp_nilCheck (sv hs 31 rfl), lc rfl rfl fun hs hh => stp_fieldAddr (j := 0) Tryd.underlying53 rfl ts51 rfl (sv hs 32 rfl) rfl, lc rfl rfl fun hs hh => stp_load1 ts51 (sv hs 33 rfl) (Cells.el (Rdb.own (id := 8) (hh.get 8 _ rfl) o30) (by decide) hx23 0 1 rfl), lc rfl rfl fun hs hh => stp_loadN (us := [_, _]) ts41 (sv hs 5 rfl) (Cells.box (id := 1) (hh.get 1 _ rfl) 2 rfl), ?_, lS, trivial⟩
  refine le rfl rfl (fun g hΦ s h hs hh => (stpU_call (fun i => 13 + i) cf48 (fun w hw => c_i_noteOf fl w x22.n a2 rfl (OwnC.pass (id := 11) (hh.get 11 _ rfl) o32 hw) x34 e34) (yB (sv hs 34 rfl) (sv hs 35 rfl)))) ?_
  rintro g _ _ ⟨_, ⟨rfl, rfl⟩, rfl⟩
  exact ⟨⟨[], [], []⟩, trivial, .inr rfl, rfl⟩
 intro g hΦ
 refine KW.sub (s' := [(3, .pointer (some ⟨b1, 0, none⟩)), (5, .pointer (some ⟨b2, 0, none⟩)), (6, .pointer (some ⟨b3, 0, none⟩)), (10, .pointer (some ⟨b21, 0, none⟩)), (11, .pointer (some ⟨eB p17, eO p17 + Int.toNat a1 * Enc.sz CpS + 0, none⟩)), (12, .int .i64 x34)]) (h' := [(0, [(b1, .cells #[.slice p0_0 ((a0.t.b).length) c0_0, .slice p0_1 ((a0.t.f).length) c0_1, .slice p0_2 ((a0.c).length) c0_2] 37 (0, 0))]), (1, [(b2, .cells #[.int .i64 a2.s, .int .i64 a2.p] 41 (0, 0))]), (2, [(b3, .cells #[.slice none 0 0, .slice none 0 0, .slice none 0 0] 37 (0, 0))]), (6, C12), (7, C16), (8, C30), (9, [(b21, .cells #[.slice p9 ((x8.t.b).length) c11, .slice p13 ((x8.t.f).length) c15, .slice p17 ((x8.c).length) c19] 37 (0, 0))]), (10, C31), (11, C32), (12, C33)]) ?_ ⟨rfl, rfl, rfl, rfl, rfl, rfl, trivial⟩ ⟨rfl, rfl, rfl, rfl, rfl, rfl, rfl, rfl, rfl, rfl, trivial⟩
 refine kw_nx (sr (oM rfl (oI rfl (nn (cw_cond rfl (fun h35 => ?_) (fun h35 => ?_))))))
 ·have H0 := cond_t H0 h35
  obtain ⟨x36, e36, H0⟩ := bS H0
  refine cw_seq (rdq g_mixed [6, 10, 11, 12] [2, 8, 9, 11] { dst := dS [40, 41, 42, 43, 44, 45, 46, 47, 48, 0, 8, 9, 10], pre := gA [] [[], [], [1], [1, 2], [1, 2, 3], [], rn 1 5, rn 1 6, rn 1 7, [0], rn 0 10, rn 0 11, rn 0 12], ids := fun i => match i with | 9 => [2] | _ => [], rs := rL [[(10, 0)], [(11, 0)], [(40, 2)], [(41, 3)], [(42, 4)], [(12, 0)], [(43, 5), (44, 6)], [(45, 7)], [(46, 8)], [(6, 0), (39, 1)], [(47, 9)], [], []], rh := rL [[(9, 0)], [], [], [], [(8, 0)], [], [(11, 0)], [], [(11, 0)], [(2, 0)]], V := fun i g => gA undef [.agg #[.slice p9 ((x8.t.b).length) c11, .slice p13 ((x8.t.f).length) c15, .slice p17 ((x8.c).length) c19], .pointer (some ⟨eB p17, eO p17 + Int.toNat a1 * Enc.sz CpS + 0, none⟩), .pointer (some ⟨eB p17, eO p17 + Int.toNat a1 * Enc.sz CpS + 0, none⟩), .pointer (some ⟨eB p17, eO p17 + Int.toNat a1 * Enc.sz CpS + 0, none⟩), .slice p24 ((x22.n).length) c26, .int .i64 x34, .pointer (some ⟨eB p24, eO p24 + Int.toNat x34 * Enc.sz Nt + 0, none⟩), .pointer (some ⟨eB p24, eO p24 + Int.toNat x34 * Enc.sz Nt + 2, none⟩), .int .i64 x36.fr, undef, .int .i64 x36.fr, .int .i64 1, .bool true] i, U := fun i g => match i with | 9 => [(2, [(b3, .cells #[.slice p9 ((x8.t.b).length) c11, .slice p13 ((x8.t.f).length) c15, .slice p17 ((x8.c).length) c19] 37 (0, 0))])] | _ => [], Φ := fun _ _ => True } ?_ ?_)
  ·refine ⟨lc rfl rfl fun hs hh => stp_loadN (us := [_, _, _]) ts37 (sv hs 10 rfl) (Cells.box (id := 9) (hh.get 9 _ rfl) 3 rfl), lM, lc rfl rfl fun hs hh => stp_nilCheck (sv hs 40 rfl), lc rfl rfl fun hs hh => stp_fieldAddr (j := 0) Tryd.underlying53 rfl ts51 rfl (sv hs 41 rfl) rfl, lc rfl rfl fun hs hh => stp_load1 ts51 (sv hs 42 rfl) (Cells.el (Rdb.own (id := 8) (hh.get 8 _ rfl) o30) (by decide) hx23 0 1 rfl), lM, lc rfl rfl fun hs hh => stp_indexAddr Tryd.underlying51 ts55 (by decide) (sv hs 43 rfl) rfl (sv hs 44 rfl) (Rdb.own (id := 11) (hh.get 11 _ rfl) o32) e36, lc rfl rfl fun hs hh => stp_fieldAddr (j := 2) Tryd.underlying55 rfl ts3 rfl (sv hs 45 rfl) rfl, lc rfl rfl fun hs hh => stp_load1 ts3 (sv hs 46 rfl) (Cells.el (Rdb.own (id := 11) (hh.get 11 _ rfl) o32) (by decide) e36 2 1 rfl), ?_, lS, lc rfl rfl fun hs hh => stp_assign rfl, lc rfl rfl fun hs hh => stp_assign rfl, trivial⟩
   refine le rfl rfl (fun g hΦ s h hs hh => (stpU_store (id := 2) (cs' := [.slice p9 ((x8.t.b).length) c11, .slice p13 ((x8.t.f).length) c15, .slice p17 ((x8.c).length) c19]) ts37 (sv hs 6 rfl) (sv hs 39 rfl) (hh.get 2 _ rfl) rfl rfl rfl rfl)) ?_
   rintro g _ _ rfl
   exact ⟨⟨[], [], []⟩, trivial, .inl rfl, rfl⟩
  intro g hΦ
  refine KW.sub (s' := [(6, .pointer (some ⟨b3, 0, none⟩)), (7, .int .i64 x36.fr), (8, .int .i64 1), (9, .bool true)]) (h' := [(2, [(b3, .cells #[.slice p9 ((x8.t.b).length) c11, .slice p13 ((x8.t.f).length) c15, .slice p17 ((x8.c).length) c19] 37 (0, 0))]), (6, C12), (7, C16), (8, C30), (10, C31), (11, C32), (12, C33)]) ?_ ⟨rfl, rfl, rfl, rfl, trivial⟩ ⟨rfl, rfl, rfl, rfl, rfl, rfl, rfl, trivial⟩
  refine kw_nx (cw_ret (kw_nx_ret (kw_shut 8 10 11 12 o30 hb31 (idx_some hx23).2.2 (idx_some e22).2.2 rfl o32 rfl o33 ?_)))
  rintro C37 o37
  obtain rfl := sI H0
  exact kr Tryd.results14 (.cons (.cellN (us := [_, _, _]) ts37 rfl (Cells.box (id := 2) rfl 3 rfl)) (.cons (.tmp rfl) (.cons (.tmp rfl) (rT rfl)))) [6, 7, 8] ⟨_, _, _, _, _, _, _, _, _, _, _, _, rfl, rfl, rfl, o12, rfl, o16, rfl, o37⟩
 have H0 := cond_f H0 h35
 obtain ⟨x38, e38, H0⟩ := bS H0
 refine cw_skip (kw_nx (sr (oA 0 Tryd.underlying37 rfl ts34 rfl (oB2 0 ts34 rfl (oB2 1 ts41 rfl (oE (stpU_call (fun i => 13 + i) cf49 (fun w hw => c_i_Table_find fl w a0.t a2 rfl (RO.pass hr0_0 hw) rfl (RO.pass hr0_1 hw) x38 e38) (yB rfl rfl)) rfl ?_))))))
 rintro _ _ ⟨_, ⟨rfl, rfl⟩, rfl⟩
 refine oS rfl (nn (cw_seq (sr (oM rfl (oW rfl (nn (cw_cond rfl (fun h39 => ?_) (fun h39 => ?_))))))))
 ·have H0 := cond_t H0 h39
  refine sr (oB3 9 ts37 rfl (oC3 2 ts37 rfl rfl (oS rfl (oS rfl (oS rfl (nn (cw_ret (kw_nx_ret (kw_shut 8 10 11 12 o30 hb31 (idx_some hx23).2.2 (idx_some e22).2.2 rfl o32 rfl o33 ?_)))))))))
  rintro C40 o40
  obtain rfl := sI H0
  exact kr Tryd.results14 (.cons (.cellN (us := [_, _, _]) ts37 rfl (Cells.box (id := 2) rfl 3 rfl)) (.cons (.tmp rfl) (.cons (.tmp rfl) (rT rfl)))) [6, 7, 8] ⟨_, _, _, _, _, _, _, _, _, _, _, _, rfl, rfl, rfl, o12, rfl, o16, rfl, o40⟩
 have H0 := cond_f H0 h39
 refine cw_skip (kw_nx (cw_seq (sr (oM rfl (oZ rfl (oA 0 Tryd.underlying53 rfl ts51 rfl (oD (stp_load1 ts51 rfl (Cells.el (Rdb.own (id := 8) rfl o30) (by decide) hx23 0 1 rfl)) rfl (oD (stp_len Tryd.underlying51 rfl) rfl (oQ rfl (nn (cw_cond rfl (fun h41 => ?_) (fun h41 => ?_))))))))))))
 ·have H0 := cond_t H0 h41
  obtain ⟨x42, e42, H0⟩ := bS H0
  refine sr (oM rfl (oZ rfl (oA 0 Tryd.underlying53 rfl ts51 rfl (oD (stp_load1 ts51 rfl (Cells.el (Rdb.own (id := 8) rfl o30) (by decide) hx23 0 1 rfl)) rfl (oD (stp_indexAddr Tryd.underlying51 ts55 (by decide) rfl rfl rfl (Rdb.own (id := 11) rfl o32) e42) rfl (oA 0 Tryd.underlying55 rfl ts41 rfl (oD (stp_loadN (us := [_, _]) ts41 rfl (Cells.el (Rdb.own (id := 11) rfl o32) (by decide) e42 0 2 rfl)) rfl (oE (stpU_alloc 13 tz41 rfl) rfl ?_))))))))
  rintro _ _ ⟨b43, rfl, rfl⟩
  obtain ⟨x44, e44, H0⟩ := bS H0
  obtain ⟨x49, e49, H0⟩ := bS H0
  refine oC2 13 ts41 rfl rfl (nn (rdq g_mixed [11, 14] [8, 11, 12, 13] { dst := dS [69, 70, 71, 72, 73, 74, 75, 76, 77, 78, 79, 80, 81, 82, 83, 84, 0, 85, 86, 0], pre := gA [] [[], [], [], [2], [2, 3], [2, 3, 4], [], rn 2 5, [], [8], [8, 9], [8, 9, 10], [], rn 2 11, [0, 2, 3, 4, 5, 6, 7, 8, 9, 10, 11, 12, 13], [0, 2, 3, 4, 5, 6, 7, 8, 9, 10, 11, 12, 13, 14], [0, 2, 3, 4, 5, 6, 7, 8, 9, 10, 11, 12, 13, 14, 15], rn 0 17, rn 0 18, rn 0 19], ids := fun i => match i with | 7 => [14] | 13 => [15] | 16 => [8, 14] | 19 => [8, 14, 15] | _ => [], rs := rL [[(11, 0)], [(11, 0)], [(11, 0)], [(70, 3)], [(71, 4)], [(72, 5)], [(14, 0)], [(73, 6), (74, 7)], [(11, 0)], [(76, 9)], [(77, 10)], [(78, 11)], [(14, 0)], [(79, 12), (80, 13)], [(68, 1)], [(82, 15)], [(83, 16), (75, 8)], [(69, 2)], [(84, 18)], [(85, 19), (81, 14)]], rh := rL [[], [], [], [], [], [(8, 0)], [(13, 0)], [(11, 0)], [], [], [], [(8, 0)], [(13, 0)], [(12, 0)], [], [], [(8, 0), (14, 8)], [], [], [(8, 17), (14, 17), (15, 14)]], V := fun i g => gA undef [.pointer (some ⟨eB p17, eO p17 + Int.toNat a1 * Enc.sz CpS + 0, none⟩), .pointer (some ⟨eB p17, eO p17 + Int.toNat a1 * Enc.sz CpS + 0, none⟩), .pointer (some ⟨eB p17, eO p17 + Int.toNat a1 * Enc.sz CpS + 0, none⟩), .pointer (some ⟨eB p17, eO p17 + Int.toNat a1 * Enc.sz CpS + 0, none⟩), .pointer (some ⟨eB p17, eO p17 + Int.toNat a1 * Enc.sz CpS + 0, none⟩), .slice p24 ((x22.n).length) c26, .agg #[.int .i64 x42.k.s, .int .i64 x42.k.p], .slice ((g 7).A 0) ((x44).length) ((g 7).C 0), .pointer (some ⟨eB p17, eO p17 + Int.toNat a1 * Enc.sz CpS + 0, none⟩), .pointer (some ⟨eB p17, eO p17 + Int.toNat a1 * Enc.sz CpS + 0, none⟩), .pointer (some ⟨eB p17, eO p17 + Int.toNat a1 * Enc.sz CpS + 1, none⟩), .slice p27 ((x22.w).length) c29, .agg #[.int .i64 x42.k.s, .int .i64 x42.k.p], .slice ((g 13).A 0) ((x49).length) ((g 13).C 0), .pointer (some ⟨eB p17, eO p17 + Int.toNat a1 * Enc.sz CpS + 0, none⟩), .pointer (some ⟨eB p17, eO p17 + Int.toNat a1 * Enc.sz CpS + 0, none⟩), undef, .pointer (some ⟨eB p17, eO p17 + Int.toNat a1 * Enc.sz CpS + 0, none⟩), .pointer (some ⟨eB p17, eO p17 + Int.toNat a1 * Enc.sz CpS + 1, none⟩)] i, U := fun i g => match i with | 7 => [(14, ((g 7).R 0))] | 13 => [(15, ((g 13).R 0))] | 16 => [(8, ((g 16).R 0)), (14, ((g 16).R 1))] | 19 => [(8, ((g 19).R 0)), (14, ((g 19).R 1)), (15, ((g 19).R 2))] | _ => [], Φ := fun i x => match i with | 7 => OwnC 55 (x.A 0) (x.C 0) x44 (x.R 0) | 13 => OwnC 55 (x.A 0) (x.C 0) x49 (x.R 0) | 16 => OwnC (α := CpS) 53 p17 c19 (u23.set (Int.toNat a1) (⟨(x.A 0), (x44).length, (x.C 0), p27, (x22.w).length, c29⟩ : CpS)) (x.R 0) ∧ OwnC 55 (x.A 0) (x.C 0) x44 (x.R 1) | 19 => OwnC (α := CpS) 53 p17 c19 (u23.set (Int.toNat a1) (⟨(x.A 0), (x44).length, (x.C 0), (x.A 1), (x49).length, (x.C 1)⟩ : CpS)) (x.R 0) ∧ OwnC 55 (x.A 0) (x.C 0) x44 (x.R 1) ∧ OwnC 55 (x.A 1) (x.C 1) x49 (x.R 2) | _ => True } ?_ ?_))
  ·refine ⟨lM, lM, lM, lc rfl rfl fun hs hh => stp_nilCheck (sv hs 70 rfl), lc rfl rfl fun hs hh => stp_fieldAddr (j := 0) Tryd.underlying53 rfl ts51 rfl (sv hs 71 rfl) rfl, lc rfl rfl fun hs hh => stp_load1 ts51 (sv hs 72 rfl) (Cells.el (Rdb.own (id := 8) (hh.get 8 _ rfl) o30) (by decide) hx23 0 1 rfl), lc rfl rfl fun hs hh => stp_loadN (us := [_, _]) ts41 (sv hs 14 rfl) (Cells.box (id := 13) (hh.get 13 _ rfl) 2 rfl), ?_, lM, lc rfl rfl fun hs hh => stp_nilCheck (sv hs 76 rfl), lc rfl rfl fun hs hh => stp_fieldAddr (j := 1) Tryd.underlying53 rfl ts51 rfl (sv hs 77 rfl) rfl, lc rfl rfl fun hs hh => stp_load1 ts51 (sv hs 78 rfl) (Cells.el (Rdb.own (id := 8) (hh.get 8 _ rfl) o30) (by decide) hx23 1 1 rfl), lc rfl rfl fun hs hh => stp_loadN (us := [_, _]) ts41 (sv hs 14 rfl) (Cells.box (id := 13) (hh.get 13 _ rfl) 2 rfl), ?_, lc rfl rfl fun hs hh => stp_nilCheck (sv hs 68 rfl), lc rfl rfl fun hs hh => stp_fieldAddr (j := 0) Tryd.underlying53 rfl ts51 rfl (sv hs 82 rfl) rfl, ?_, lc rfl rfl fun hs hh => stp_nilCheck (sv hs 69 rfl), lc rfl rfl fun hs hh => stp_fieldAddr (j := 1) Tryd.underlying53 rfl ts51 rfl (sv hs 84 rfl) rfl, ?_, trivial⟩
   ·refine le rfl rfl (fun g hΦ s h hs hh => (stpU_call (fun i => 14 + i) cf50 (fun w hw => c_i_drop fl w x22.n x42.k rfl (OwnC.pass (id := 11) (hh.get 11 _ rfl) o32 hw) x44 e44) (yB (sv hs 73 rfl) (sv hs 74 rfl)))) ?_
    rintro g _ _ ⟨_, ⟨p45, _, c47, C48, rfl, rfl, rfl, o48⟩, rfl⟩
    exact ⟨⟨[p45], [c47], [C48]⟩, o48, .inr rfl, rfl⟩
   ·refine le rfl rfl (fun g hΦ s h hs hh => (stpU_call (fun i => 15 + i) cf50 (fun w hw => c_i_drop fl w x22.w x42.k rfl (OwnC.pass (id := 12) (hh.get 12 _ rfl) o33 hw) x49 e49) (yB (sv hs 79 rfl) (sv hs 80 rfl)))) ?_
    rintro g _ _ ⟨_, ⟨p50, _, c52, C53, rfl, rfl, rfl, o53⟩, rfl⟩
    exact ⟨⟨[p50], [c52], [C53]⟩, o53, .inr rfl, rfl⟩
   ·refine le rfl rfl (fun g hΦ s h hs hh => (stpU_keep (hh.get 14 _ rfl) (stpU_storeEl (id := 8) (i := 0) (⟨((g 7).A 0), (x44).length, ((g 7).C 0), p27, (x22.w).length, c29⟩ : CpS) (by decide) ts51 (sv hs 83 rfl) (sv hs 75 rfl) (hh.get 8 _ rfl) o30 hx23 rfl rfl rfl rfl) (by rintro _ _ ⟨_, rfl, _⟩; rfl) (hΦ 7 rfl))) ?_
    rintro g _ _ ⟨_, ⟨C54, rfl, o54⟩, rfl, o57⟩
    exact ⟨⟨[((g 7).A 0)], [((g 7).C 0)], [C54, ((g 7).R 0)]⟩, ⟨o54, o57⟩, .inl rfl, rfl⟩
   refine le rfl rfl (fun g hΦ s h hs hh => (stpU_keep (hh.get 15 _ rfl) (stpU_keep (hh.get 14 _ rfl) (stpU_storeElS (id := 8) (i := 1) (⟨((g 16).A 0), (x44).length, ((g 16).C 0), ((g 13).A 0), (x49).length, ((g 13).C 0)⟩ : CpS) (by decide) ts51 (sv hs 85 rfl) (sv hs 81 rfl) (hh.get 8 _ rfl) (hΦ 16 rfl).1 (idx_set hx23) rfl rfl rfl rfl) (by rintro _ _ ⟨_, rfl, _⟩; rfl) (hΦ 16 rfl).2) (by rintro _ _ ⟨_, ⟨_, rfl, _⟩, rfl, _⟩; rfl) (hΦ 13 rfl))) ?_
   rintro g _ _ ⟨_, ⟨_, ⟨C58, rfl, o58⟩, rfl, o61⟩, rfl, o64⟩
   exact ⟨⟨[((g 16).A 0), ((g 13).A 0)], [((g 16).C 0), ((g 13).C 0)], [C58, ((g 16).R 1), ((g 13).R 0)]⟩, ⟨o58, o61, o64⟩, .inl rfl, rfl⟩
  intro g hΦ
  refine kw_gen (ι := Option Addr × Nat × Res × Option Addr × Nat × Res × Option Addr × Nat × Res × Res × Option Addr × Option Addr × Nat × Nat × Res × Res × Res) (((g 7).A 0), ((g 7).C 0), ((g 7).R 0), ((g 13).A 0), ((g 13).C 0), ((g 13).R 0), ((g 16).A 0), ((g 16).C 0), ((g 16).R 0), ((g 16).R 1), ((g 19).A 0), ((g 19).A 1), ((g 19).C 0), ((g 19).C 1), ((g 19).R 0), ((g 19).R 1), ((g 19).R 2)) (fun | (p45, c47, C48, p50, c52, C53, p55, c56, C54, C57, p59, p62, c60, c63, C58, C61, C64) => OwnC 55 p45 c47 x44 C48 ∧ OwnC 55 p50 c52 x49 C53 ∧ OwnC (α := CpS) 53 p17 c19 (u23.set (Int.toNat a1) (⟨p55, (x44).length, c56, p27, (x22.w).length, c29⟩ : CpS)) C54 ∧ OwnC 55 p55 c56 x44 C57 ∧ OwnC (α := CpS) 53 p17 c19 (u23.set (Int.toNat a1) (⟨p59, (x44).length, c60, p62, (x49).length, c63⟩ : CpS)) C58 ∧ OwnC 55 p59 c60 x44 C61 ∧ OwnC 55 p62 c63 x49 C64) (fun | (p45, c47, C48, p50, c52, C53, p55, c56, C54, C57, p59, p62, c60, c63, C58, C61, C64) => [(5, .pointer (some ⟨b2, 0, none⟩)), (6, .pointer (some ⟨b3, 0, none⟩)), (10, .pointer (some ⟨b21, 0, none⟩)), (11, .pointer (some ⟨eB p17, eO p17 + Int.toNat a1 * Enc.sz CpS + 0, none⟩)), (13, .int .i64 x38)]) (fun | (p45, c47, C48, p50, c52, C53, p55, c56, C54, C57, p59, p62, c60, c63, C58, C61, C64) => [(1, [(b2, .cells #[.int .i64 a2.s, .int .i64 a2.p] 41 (0, 0))]), (2, [(b3, .cells #[.slice none 0 0, .slice none 0 0, .slice none 0 0] 37 (0, 0))]), (6, C12), (7, C16), (8, C58), (9, [(b21, .cells #[.slice p9 ((x8.t.b).length) c11, .slice p13 ((x8.t.f).length) c15, .slice p17 ((x8.c).length) c19] 37 (0, 0))]), (10, C31), (14, C61), (15, C64)]) ⟨(hΦ 7 (by decide)), (hΦ 13 (by decide)), (hΦ 16 (by decide)).1, (hΦ 16 (by decide)).2, (hΦ 19 (by decide)).1, (hΦ 19 (by decide)).2.1, (hΦ 19 (by decide)).2.2⟩ ⟨rfl, rfl, rfl, rfl, rfl, trivial⟩ ⟨rfl, rfl, rfl, rfl, rfl, rfl, rfl, rfl, rfl, trivial⟩ ?_
  rintro ⟨p45, c47, C48, p50, c52, C53, p55, c56, C54, C57, p59, p62, c60, c63, C58, C61, C64⟩ ⟨o48, o53, o54, o57, o58, o61, o64⟩
  dsimp only
  obtain ⟨x67, e67, H0⟩ := bS H0
  refine kw_nx (cw_seq (rdq g_mixed [5, 11, 13] [1, 8, 14] { dst := dS [87, 88, 89, 90, 91, 92, 93, 94, 95, 96, 97, 98, 99, 0], pre := gA [] [[], [], [1], [1, 2], [1, 2, 3], [], [], [5, 6], [5, 6, 7], rn 1 8, rn 1 9, rn 0 11, rn 0 12, rn 0 13], ids := fun i => match i with | 8 => [16] | 9 => [14] | 13 => [8, 14] | _ => [], rs := rL [[(11, 0)], [(11, 0)], [(87, 2)], [(88, 3)], [(89, 4)], [(5, 0)], [(13, 0)], [(91, 6), (92, 7)], [(93, 8)], [(90, 5), (94, 9)], [(95, 10)], [(86, 1)], [(97, 12)], [(98, 13), (96, 11)]], rh := rL [[], [], [], [], [(8, 0)], [(1, 0)], [], [], [], [(14, 0), (16, 9)], [], [], [], [(8, 0), (14, 10)]], V := fun i g => gA undef [.pointer (some ⟨eB p17, eO p17 + Int.toNat a1 * Enc.sz CpS + 0, none⟩), .pointer (some ⟨eB p17, eO p17 + Int.toNat a1 * Enc.sz CpS + 0, none⟩), .pointer (some ⟨eB p17, eO p17 + Int.toNat a1 * Enc.sz CpS + 0, none⟩), .pointer (some ⟨eB p17, eO p17 + Int.toNat a1 * Enc.sz CpS + 0, none⟩), .slice p59 ((x44).length) c60, .agg #[.int .i64 a2.s, .int .i64 a2.p], .int .i64 x38, .agg #[.int .i64 a2.s, .int .i64 a2.p, .int .i64 x38], .slice ((g 8).A 0) 1 1, .slice ((g 9).A 0) ((x67).length) ((g 9).C 0), .slice ((g 9).A 0) ((x67).length) ((x67).length), .pointer (some ⟨eB p17, eO p17 + Int.toNat a1 * Enc.sz CpS + 0, none⟩), .pointer (some ⟨eB p17, eO p17 + Int.toNat a1 * Enc.sz CpS + 0, none⟩)] i, U := fun i g => match i with | 8 => [(16, ((g 8).R 0))] | 9 => [(14, ((g 9).R 0))] | 13 => [(8, ((g 13).R 0)), (14, ((g 13).R 1))] | _ => [], Φ := fun i x => match i with | 8 => OwnC (α := Nt) 55 (x.A 0) 1 ([(⟨a2, x38⟩ : Nt)]) (x.R 0) | 9 => OwnC 55 (x.A 0) (x.C 0) x67 (x.R 0) | 13 => OwnC (α := CpS) 53 p17 c19 (u23.set (Int.toNat a1) (⟨(x.A 0), (x67).length, (x.C 0), p62, (x49).length, c63⟩ : CpS)) (x.R 0) ∧ OwnC 55 (x.A 0) (x.C 0) x67 (x.R 1) | _ => True } ?_ ?_))
  ·refine ⟨lM, lM, lc rfl rfl fun hs hh => stp_nilCheck (sv hs 87 rfl), lc rfl rfl fun hs hh => stp_fieldAddr (j := 0) Tryd.underlying53 rfl ts51 rfl (sv hs 88 rfl) rfl, lc rfl rfl fun hs hh => stp_load1 ts51 (sv hs 89 rfl) (Cells.el (Rdb.own (id := 8) (hh.get 8 _ rfl) o58) (by decide) (idx_set hx23) 0 1 rfl), lc rfl rfl fun hs hh => stp_loadN (us := [_, _]) ts41 (sv hs 5 rfl) (Cells.box (id := 1) (hh.get 1 _ rfl) 2 rfl), lM, lc rfl rfl fun hs hh => stp_build (cs := #[.int .i64 a2.s, .int .i64 a2.p, .int .i64 x38]) (sevp_cons (sv hs 91 rfl) (sevp_cons (sv hs 92 rfl) sevp_nil)) bt55_4, ?_, ?_, ?_, lc rfl rfl fun hs hh => stp_nilCheck (sv hs 86 rfl), lc rfl rfl fun hs hh => stp_fieldAddr (j := 0) Tryd.underlying53 rfl ts51 rfl (sv hs 97 rfl) rfl, ?_, trivial⟩
   ·refine le rfl rfl (fun g hΦ s h hs hh => (stpU_lit (sz := 3) (l := [(⟨a2, x38⟩ : Nt)]) [.agg #[.int .i64 a2.s, .int .i64 a2.p, .int .i64 x38]] sl51 16 (sevp_cons (sv hs 93 rfl) sevp_nil) rfl rfl rfl rfl rfl rfl rfl rfl rfl)) ?_
    rintro g _ _ ⟨p65, C66, rfl, rfl, o66⟩
    exact ⟨⟨[p65], [], [C66]⟩, o66, .inr rfl, rfl⟩
   ·refine le rfl rfl (fun g hΦ s h hs hh => (stpU_append sl51 rfl (id := 14) (sv hs 90 rfl) rfl (sv hs 94 rfl) (by simp) (hh.get 14 _ rfl) o61 (Rdb.own (id := 16) (hh.get 16 _ rfl) (hΦ 8 rfl)) e67)) ?_
    rintro g _ _ ⟨p68, c69, C70, rfl, rfl, o70⟩
    exact ⟨⟨[p68], [c69], [C70]⟩, o70, .inr rfl, rfl⟩
   ·refine le rfl rfl (fun g hΦ s h hs hh => (stpU_call (fun i => i) cf51 (fun w hw => c_clip51 w ((g 9).A 0) ((x67).length) ((g 9).C 0) (OwnC.len (hΦ 9 rfl)).1) (yA (sv hs 95 rfl)))) ?_
    rintro g _ _ ⟨_, ⟨rfl, rfl⟩, rfl⟩
    exact ⟨⟨[], [], []⟩, trivial, .inr rfl, rfl⟩
   refine le rfl rfl (fun g hΦ s h hs hh => (stpU_keep (hh.get 14 _ rfl) (stpU_storeElS (id := 8) (i := 0) (⟨((g 9).A 0), (x67).length, (x67).length, p62, (x49).length, c63⟩ : CpS) (by decide) ts51 (sv hs 98 rfl) (sv hs 96 rfl) (hh.get 8 _ rfl) o58 (idx_set hx23) rfl rfl rfl rfl) (by rintro _ _ ⟨_, rfl, _⟩; rfl) (OwnC.clip (hΦ 9 rfl)))) ?_
   rintro g _ _ ⟨_, ⟨C71, rfl, o71⟩, rfl, o74⟩
   exact ⟨⟨[((g 9).A 0)], [(x67).length], [C71, ((g 9).R 0)]⟩, ⟨o71, o74⟩, .inl rfl, rfl⟩
  intro g hΦ
  refine kw_gen (ι := Option Addr × Res × Option Addr × Nat × Res × Option Addr × Nat × Res × Res) (((g 8).A 0), ((g 8).R 0), ((g 9).A 0), ((g 9).C 0), ((g 9).R 0), ((g 13).A 0), ((g 13).C 0), ((g 13).R 0), ((g 13).R 1)) (fun | (p65, C66, p68, c69, C70, p72, c73, C71, C74) => OwnC (α := Nt) 55 p65 1 ([(⟨a2, x38⟩ : Nt)]) C66 ∧ OwnC 55 p68 c69 x67 C70 ∧ OwnC (α := CpS) 53 p17 c19 (u23.set (Int.toNat a1) (⟨p72, (x67).length, c73, p62, (x49).length, c63⟩ : CpS)) C71 ∧ OwnC 55 p72 c73 x67 C74) (fun | (p65, C66, p68, c69, C70, p72, c73, C71, C74) => [(6, .pointer (some ⟨b3, 0, none⟩)), (10, .pointer (some ⟨b21, 0, none⟩)), (13, .int .i64 x38)]) (fun | (p65, C66, p68, c69, C70, p72, c73, C71, C74) => [(2, [(b3, .cells #[.slice none 0 0, .slice none 0 0, .slice none 0 0] 37 (0, 0))]), (6, C12), (7, C16), (8, C71), (9, [(b21, .cells #[.slice p9 ((x8.t.b).length) c11, .slice p13 ((x8.t.f).length) c15, .slice p17 ((x8.c).length) c19] 37 (0, 0))]), (10, C31), (14, C74), (15, C64)]) ⟨(hΦ 8 (by decide)), (hΦ 9 (by decide)), (hΦ 13 (by decide)).1, (hΦ 13 (by decide)).2⟩ ⟨rfl, rfl, rfl, trivial⟩ ⟨rfl, rfl, rfl, rfl, rfl, rfl, rfl, rfl, trivial⟩ ?_
  rintro ⟨p65, C66, p68, c69, C70, p72, c73, C71, C74⟩ ⟨o66, o70, o71, o74⟩
  dsimp only
  refine kw_nx (sr (oB3 9 ts37 rfl (oM rfl (oC3 2 ts37 rfl rfl (oS rfl (oS rfl (oS rfl (nn (cw_ret (kw_shut 8 10 14 15 o71 (Bun.setL (Bun.set hb31 _) _) (idx_some (idx_set hx23)).2.2 (idx_setD e22 (⟨x67, x49⟩ : Cp)) rfl o74 rfl o64 ?_))))))))))
  rintro C75 o75
  obtain rfl := sI H0
  exact kr Tryd.results14 (.cons (.cellN (us := [_, _, _]) ts37 rfl (Cells.box (id := 2) rfl 3 rfl)) (.cons (.tmp rfl) (.cons (.tmp rfl) (rT rfl)))) [6, 7, 8] ⟨_, _, _, _, _, _, _, _, _, _, _, _, rfl, rfl, rfl, o12, rfl, o16, (by simp), o75⟩
 have H0 := cond_f H0 h41
 obtain ⟨x78, e78, H0⟩ := bS H0
 refine cw_skip (kw_nx (cw_seq (rdq g_mixed [5, 11, 13] [1, 8, 11] { dst := dS [87, 88, 89, 90, 91, 92, 93, 94, 95, 96, 97, 98, 99, 0], pre := gA [] [[], [], [1], [1, 2], [1, 2, 3], [], [], [5, 6], [5, 6, 7], rn 1 8, rn 1 9, rn 0 11, rn 0 12, rn 0 13], ids := fun i => match i with | 8 => [17] | 9 => [11] | 13 => [8, 11] | _ => [], rs := rL [[(11, 0)], [(11, 0)], [(87, 2)], [(88, 3)], [(89, 4)], [(5, 0)], [(13, 0)], [(91, 6), (92, 7)], [(93, 8)], [(90, 5), (94, 9)], [(95, 10)], [(86, 1)], [(97, 12)], [(98, 13), (96, 11)]], rh := rL [[], [], [], [], [(8, 0)], [(1, 0)], [], [], [], [(11, 0), (17, 9)], [], [], [], [(8, 0), (11, 10)]], V := fun i g => gA undef [.pointer (some ⟨eB p17, eO p17 + Int.toNat a1 * Enc.sz CpS + 0, none⟩), .pointer (some ⟨eB p17, eO p17 + Int.toNat a1 * Enc.sz CpS + 0, none⟩), .pointer (some ⟨eB p17, eO p17 + Int.toNat a1 * Enc.sz CpS + 0, none⟩), .pointer (some ⟨eB p17, eO p17 + Int.toNat a1 * Enc.sz CpS + 0, none⟩), .slice p24 ((x22.n).length) c26, .agg #[.int .i64 a2.s, .int .i64 a2.p], .int .i64 x38, .agg #[.int .i64 a2.s, .int .i64 a2.p, .int .i64 x38], .slice ((g 8).A 0) 1 1, .slice ((g 9).A 0) ((x78).length) ((g 9).C 0), .slice ((g 9).A 0) ((x78).length) ((x78).length), .pointer (some ⟨eB p17, eO p17 + Int.toNat a1 * Enc.sz CpS + 0, none⟩), .pointer (some ⟨eB p17, eO p17 + Int.toNat a1 * Enc.sz CpS + 0, none⟩)] i, U := fun i g => match i with | 8 => [(17, ((g 8).R 0))] | 9 => [(11, ((g 9).R 0))] | 13 => [(8, ((g 13).R 0)), (11, ((g 13).R 1))] | _ => [], Φ := fun i x => match i with | 8 => OwnC (α := Nt) 55 (x.A 0) 1 ([(⟨a2, x38⟩ : Nt)]) (x.R 0) | 9 => OwnC 55 (x.A 0) (x.C 0) x78 (x.R 0) | 13 => OwnC (α := CpS) 53 p17 c19 (u23.set (Int.toNat a1) (⟨(x.A 0), (x78).length, (x.C 0), p27, (x22.w).length, c29⟩ : CpS)) (x.R 0) ∧ OwnC 55 (x.A 0) (x.C 0) x78 (x.R 1) | _ => True } ?_ ?_)))
 ·refine ⟨lM, lM, lc rfl rfl fun hs hh => stp_nilCheck (sv hs 87 rfl), lc rfl rfl fun hs hh => stp_fieldAddr (j := 0) Tryd.underlying53 rfl ts51 rfl (sv hs 88 rfl) rfl, lc rfl rfl fun hs hh => stp_load1 ts51 (sv hs 89 rfl) (Cells.el (Rdb.own (id := 8) (hh.get 8 _ rfl) o30) (by decide) hx23 0 1 rfl), lc rfl rfl fun hs hh => stp_loadN (us := [_, _]) ts41 (sv hs 5 rfl) (Cells.box (id := 1) (hh.get 1 _ rfl) 2 rfl), lM, lc rfl rfl fun hs hh => stp_build (cs := #[.int .i64 a2.s, .int .i64 a2.p, .int .i64 x38]) (sevp_cons (sv hs 91 rfl) (sevp_cons (sv hs 92 rfl) sevp_nil)) bt55_4, ?_, ?_, ?_, lc rfl rfl fun hs hh => stp_nilCheck (sv hs 86 rfl), lc rfl rfl fun hs hh => stp_fieldAddr (j := 0) Tryd.underlying53 rfl ts51 rfl (sv hs 97 rfl) rfl, ?_, trivial⟩
  ·refine le rfl rfl (fun g hΦ s h hs hh => (stpU_lit (sz := 3) (l := [(⟨a2, x38⟩ : Nt)]) [.agg #[.int .i64 a2.s, .int .i64 a2.p, .int .i64 x38]] sl51 17 (sevp_cons (sv hs 93 rfl) sevp_nil) rfl rfl rfl rfl rfl rfl rfl rfl rfl)) ?_
   rintro g _ _ ⟨p76, C77, rfl, rfl, o77⟩
   exact ⟨⟨[p76], [], [C77]⟩, o77, .inr rfl, rfl⟩
  ·refine le rfl rfl (fun g hΦ s h hs hh => (stpU_append sl51 rfl (id := 11) (sv hs 90 rfl) rfl (sv hs 94 rfl) (by simp) (hh.get 11 _ rfl) o32 (Rdb.own (id := 17) (hh.get 17 _ rfl) (hΦ 8 rfl)) e78)) ?_
   rintro g _ _ ⟨p79, c80, C81, rfl, rfl, o81⟩
   exact ⟨⟨[p79], [c80], [C81]⟩, o81, .inr rfl, rfl⟩
  ·refine le rfl rfl (fun g hΦ s h hs hh => (stpU_call (fun i => i) cf51 (fun w hw => c_clip51 w ((g 9).A 0) ((x78).length) ((g 9).C 0) (OwnC.len (hΦ 9 rfl)).1) (yA (sv hs 95 rfl)))) ?_
   rintro g _ _ ⟨_, ⟨rfl, rfl⟩, rfl⟩
   exact ⟨⟨[], [], []⟩, trivial, .inr rfl, rfl⟩
  refine le rfl rfl (fun g hΦ s h hs hh => (stpU_keep (hh.get 11 _ rfl) (stpU_storeEl (id := 8) (i := 0) (⟨((g 9).A 0), (x78).length, (x78).length, p27, (x22.w).length, c29⟩ : CpS) (by decide) ts51 (sv hs 98 rfl) (sv hs 96 rfl) (hh.get 8 _ rfl) o30 hx23 rfl rfl rfl rfl) (by rintro _ _ ⟨_, rfl, _⟩; rfl) (OwnC.clip (hΦ 9 rfl)))) ?_
  rintro g _ _ ⟨_, ⟨C82, rfl, o82⟩, rfl, o85⟩
  exact ⟨⟨[((g 9).A 0)], [(x78).length], [C82, ((g 9).R 0)]⟩, ⟨o82, o85⟩, .inl rfl, rfl⟩
 intro g hΦ
 refine kw_gen (ι := Option Addr × Res × Option Addr × Nat × Res × Option Addr × Nat × Res × Res) (((g 8).A 0), ((g 8).R 0), ((g 9).A 0), ((g 9).C 0), ((g 9).R 0), ((g 13).A 0), ((g 13).C 0), ((g 13).R 0), ((g 13).R 1)) (fun | (p76, C77, p79, c80, C81, p83, c84, C82, C85) => OwnC (α := Nt) 55 p76 1 ([(⟨a2, x38⟩ : Nt)]) C77 ∧ OwnC 55 p79 c80 x78 C81 ∧ OwnC (α := CpS) 53 p17 c19 (u23.set (Int.toNat a1) (⟨p83, (x78).length, c84, p27, (x22.w).length, c29⟩ : CpS)) C82 ∧ OwnC 55 p83 c84 x78 C85) (fun | (p76, C77, p79, c80, C81, p83, c84, C82, C85) => [(6, .pointer (some ⟨b3, 0, none⟩)), (10, .pointer (some ⟨b21, 0, none⟩)), (13, .int .i64 x38)]) (fun | (p76, C77, p79, c80, C81, p83, c84, C82, C85) => [(2, [(b3, .cells #[.slice none 0 0, .slice none 0 0, .slice none 0 0] 37 (0, 0))]), (6, C12), (7, C16), (8, C82), (9, [(b21, .cells #[.slice p9 ((x8.t.b).length) c11, .slice p13 ((x8.t.f).length) c15, .slice p17 ((x8.c).length) c19] 37 (0, 0))]), (10, C31), (11, C85), (12, C33)]) ⟨(hΦ 8 (by decide)), (hΦ 9 (by decide)), (hΦ 13 (by decide)).1, (hΦ 13 (by decide)).2⟩ ⟨rfl, rfl, rfl, trivial⟩ ⟨rfl, rfl, rfl, rfl, rfl, rfl, rfl, rfl, trivial⟩ ?_
 rintro ⟨p76, C77, p79, c80, C81, p83, c84, C82, C85⟩ ⟨o77, o81, o82, o85⟩
 dsimp only
 refine kw_nx (sr (oB3 9 ts37 rfl (oM rfl (oC3 2 ts37 rfl rfl (oS rfl (oS rfl (oS rfl (nn (cw_ret (kw_shut 8 10 11 12 o82 (Bun.setL (Bun.set hb31 _) _) (idx_some (idx_set hx23)).2.2 (idx_setD e22 (⟨x78, x22.w⟩ : Cp)) rfl o85 rfl o33 ?_))))))))))
 rintro C86 o86
 obtain rfl := sI H0
 exact kr Tryd.results14 (.cons (.cellN (us := [_, _, _]) ts37 rfl (Cells.box (id := 2) rfl 3 rfl)) (.cons (.tmp rfl) (.cons (.tmp rfl) (rT rfl)))) [6, 7, 8] ⟨_, _, _, _, _, _, _, _, _, _, _, _, rfl, rfl, rfl, o12, rfl, o16, (by simp), o86⟩

theorem c_l_FnExactLookCpu (fl : Nat) (w : World) (a0 : Sy) (a1 : Int) (a2 : K) (hn0_0 : n0_0 = (a0.t.b).length) (hr0_0 : RO w (hkeys []) (RdL p0_0 c0_0 a0.t.b)) (hn0_1 : n0_1 = (a0.t.f).length) (hr0_1 : RO w (hkeys []) (RdL p0_1 c0_1 a0.t.f)) (hn0_2 : n0_2 = (a0.c).length) (hr0_2 : ROD w (hkeys []) p0_2 c0_2 a0.c) (hg : RO w (hkeys []) (fun w' => w'.rangeAt 0 0 [.bool false, .int .i64 0, .int .i64 0, .int .i64 0, .int .i64 (-1)])) (r : Bool) (H0 : l_FnExactLookCpu fl a0 a1 a2 = some r) :
  Ct Tryd.prog 3 [.agg #[.slice p0_0 n0_0 c0_0, .slice p0_1 n0_1 c0_1, .slice p0_2 n0_2 c0_2], .int .i64 a1, .agg #[.int .i64 a2.s, .int .i64 a2.p]] w [] (fun rv h' => rv = .bool r ∧ h' = []) := by
 subst hn0_0 hn0_1 hn0_2
 unfold l_FnExactLookCpu at H0
 refine ct_of_cw Tryd.func3 rfl Tryd.ntmps3 rfl (Sat.refl _ _) ?_
 refine sr (oE (stpU_box 0 rfl rfl) rfl ?_)
 rintro _ _ ⟨b1, rfl, rfl⟩
 refine oE (stpU_box 1 rfl rfl) rfl ?_
 rintro _ _ ⟨b2, rfl, rfl⟩
 obtain ⟨x3, e3, H0⟩ := bS H0
 refine oS rfl (nn (sr (oS rfl (nn (sr (oB3 0 ts28 rfl (oM rfl (oE (stpU_call (fun i => 2 + i) cf10 (fun w hw => c_l_szSystem fl w a0 1048576 rfl (RO.pass hr0_0 hw) rfl (RO.pass hr0_1 hw) rfl (ROD.pass hr0_2 hw) x3 e3) (yB rfl rfl)) rfl ?_))))))))
 rintro _ _ ⟨_, ⟨rfl, rfl⟩, rfl⟩
 refine oS rfl (nn (cw_seq (sr (oM rfl (oW rfl (nn (cw_cond rfl (fun h4 => ?_) (fun h4 => ?_))))))))
 ·have H0 := cond_t H0 h4
  refine sr (oS rfl (nn (cw_ret (kw_nx_ret ?_))))
  obtain rfl := sI H0
  exact kr Tryd.results3 (rT rfl) [] ⟨rfl, rfl⟩
 have H0 := cond_f H0 h4
 obtain ⟨x5, e5, H0⟩ := bS H0
 obtain ⟨x18, e18, H0⟩ := bS H0
 obtain ⟨x19, e19, H0⟩ := bS H0
 refine cw_skip (kw_nx (cw_seq (rdq g_mixed [1, 3, 5] [0, 1] { dst := dS [31, 32, 33, 34, 35, 36, 30, 37, 38, 39, 40, 9, 0, 10, 11, 12], pre := gA [] [[], [0], [], [], [0, 1, 3], rn 0 5, rn 0 6, rn 0 7, rn 0 7, rn 0 7, rn 0 7, [], [0, 1, 2, 3, 4, 5, 6, 7, 11], [0, 1, 2, 3, 4, 5, 6, 7, 8, 11, 12], [0, 1, 2, 3, 4, 5, 6, 7, 8, 9, 11, 12, 13], rn 0 15], ids := gA [] [[], [2, 3, 4], [], [], [], [5, 6, 7], [], [], [], [], [], [8], [8]], rs := rL [[(3, 0)], [(30, 1)], [(1, 0)], [(5, 0)], [(33, 4)], [(31, 2), (32, 3), (34, 5)], [(35, 6)], [(29, 7)], [(29, 7)], [(29, 7)], [(29, 7)], [], [(8, 12), (36, 8)], [(37, 9)], [(38, 10)], [(39, 11)]], rh := rL [[(0, 0)], [], [], [(1, 0)], [], [(2, 2), (3, 2), (4, 2)], [], [], [], [], [], [], [(8, 12)]], V := fun i g => gA undef [.agg #[.slice p0_0 ((a0.t.b).length) c0_0, .slice p0_1 ((a0.t.f).length) c0_1, .slice p0_2 ((a0.c).length) c0_2], .agg #[.slice ((g 1).A 0) ((x5.t.b).length) ((g 1).C 0), .slice ((g 1).A 1) ((x5.t.f).length) ((g 1).C 1), .slice ((g 1).A 2) ((x5.c).length) ((g 1).C 2)], .int .i64 a1, .agg #[.int .i64 a2.s, .int .i64 a2.p], .agg #[.int .i64 x18.s, .int .i64 x18.p], .tuple #[.agg #[.slice ((g 5).A 0) ((x19.1.t.b).length) ((g 5).C 0), .slice ((g 5).A 1) ((x19.1.t.f).length) ((g 5).C 1), .slice ((g 5).A 2) ((x19.1.c).length) ((g 5).C 2)], .int .i64 x19.2.1, .int .i64 x19.2.2.1, .bool x19.2.2.2], .tuple #[.agg #[.slice ((g 5).A 0) ((x19.1.t.b).length) ((g 5).C 0), .slice ((g 5).A 1) ((x19.1.t.f).length) ((g 5).C 1), .slice ((g 5).A 2) ((x19.1.c).length) ((g 5).C 2)], .int .i64 x19.2.1, .int .i64 x19.2.2.1, .bool x19.2.2.2], .agg #[.slice ((g 5).A 0) ((x19.1.t.b).length) ((g 5).C 0), .slice ((g 5).A 1) ((x19.1.t.f).length) ((g 5).C 1), .slice ((g 5).A 2) ((x19.1.c).length) ((g 5).C 2)], .int .i64 x19.2.1, .int .i64 x19.2.2.1, .bool x19.2.2.2, .pointer (some ⟨((g 11).C 0), 0, none⟩), undef, .int .i64 x19.2.1, .int .i64 x19.2.2.1, .bool x19.2.2.2] i, U := fun i g => gA [] [[], [(2, ((g 1).R 0)), (3, ((g 1).R 1)), (4, ((g 1).R 2))], [], [], [], [(5, ((g 5).R 0)), (6, ((g 5).R 1)), (7, ((g 5).R 2))], [], [], [], [], [], [(8, [(((g 11).C 0), .cells #[.slice none 0 0, .slice none 0 0, .slice none 0 0] 37 (0, 0))])], [(8, [(((g 11).C 0), .cells #[.slice ((g 5).A 0) ((x19.1.t.b).length) ((g 5).C 0), .slice ((g 5).A 1) ((x19.1.t.f).length) ((g 5).C 1), .slice ((g 5).A 2) ((x19.1.c).length) ((g 5).C 2)] 37 (0, 0))])]] i, Φ := fun i x => gA True [True, OwnC 3 (x.A 0) (x.C 0) x5.t.b (x.R 0) ∧ OwnC 71 (x.A 1) (x.C 1) x5.t.f (x.R 1) ∧ OwnD 53 55 (x.A 2) (x.C 2) x5.c (x.R 2), True, True, True, OwnC 3 (x.A 0) (x.C 0) x19.1.t.b (x.R 0) ∧ OwnC 71 (x.A 1) (x.C 1) x19.1.t.f (x.R 1) ∧ OwnD 53 55 (x.A 2) (x.C 2) x19.1.c (x.R 2)] i } ?_ ?_)))
 ·refine ⟨lc rfl rfl fun hs hh => stp_loadN (us := [_, _, _]) ts28 (sv hs 3 rfl) (Cells.box (id := 0) (hh.get 0 _ rfl) 3 rfl), ?_, lM, lc rfl rfl fun hs hh => stp_loadN (us := [_, _]) ts30 (sv hs 5 rfl) (Cells.box (id := 1) (hh.get 1 _ rfl) 2 rfl), ?_, ?_, lM, lT, lT, lT, lT, ?_, ?_, lS, lS, lS, trivial⟩
  ·refine le rfl rfl (fun g hΦ s h hs hh => (stpU_call (fun i => 2 + i) cf12 (fun w hw => c_l_toSystem fl w a0 rfl (RO.pass hr0_0 hw) rfl (RO.pass hr0_1 hw) rfl (ROD.pass hr0_2 hw) x5 e5) (yA (sv hs 30 rfl)))) ?_
   rintro g _ _ ⟨_, ⟨p6, _, c8, C9, p10, _, c12, C13, p14, _, c16, C17, rfl, rfl, rfl, o9, rfl, o13, rfl, o17⟩, rfl⟩
   exact ⟨⟨[p6, p10, p14], [c8, c12, c16], [C9, C13, C17]⟩, ⟨o9, o13, o17⟩, .inr rfl, rfl⟩
  ·refine le rfl rfl (fun g hΦ s h hs hh => (stpU_call (fun i => 5 + i) cf13 (fun w hw => c_l_toKey fl w a2 x18 e18) (yA (sv hs 33 rfl)))) ?_
   rintro g _ _ ⟨_, ⟨rfl, rfl⟩, rfl⟩
   exact ⟨⟨[], [], []⟩, trivial, .inr rfl, rfl⟩
  ·refine le rfl rfl (fun g hΦ s h hs hh => (stpU_call (fun i => 5 + i) cf11 (fun w hw => c_s_LookCpu fl w x5 a1 x18 rfl (OwnC.pass (id := 2) (hh.get 2 _ rfl) (hΦ 1 rfl).1 hw) rfl (OwnC.pass (id := 3) (hh.get 3 _ rfl) (hΦ 1 rfl).2.1 hw) rfl (OwnD.pass (id := 4) (hh.get 4 _ rfl) (hΦ 1 rfl).2.2 hw) x19 e19) (yC (sv hs 31 rfl) (sv hs 32 rfl) (sv hs 34 rfl)))) ?_
   rintro g _ _ ⟨_, ⟨p20, _, c22, C23, p24, _, c26, C27, p28, _, c30, C31, rfl, rfl, rfl, o23, rfl, o27, rfl, o31⟩, rfl⟩
   exact ⟨⟨[p20, p24, p28], [c22, c26, c30], [C23, C27, C31]⟩, ⟨o23, o27, o31⟩, .inr rfl, rfl⟩
  ·refine le rfl rfl (fun g hΦ s h hs hh => (stpU_alloc 8 tz37 rfl)) ?_
   rintro g _ _ ⟨b32, rfl, rfl⟩
   exact ⟨⟨[], [b32], []⟩, trivial, .inr rfl, rfl⟩
  refine le rfl rfl (fun g hΦ s h hs hh => (stpU_store (id := 8) (cs' := [.slice ((g 5).A 0) ((x19.1.t.b).length) ((g 5).C 0), .slice ((g 5).A 1) ((x19.1.t.f).length) ((g 5).C 1), .slice ((g 5).A 2) ((x19.1.c).length) ((g 5).C 2)]) ts37 (sv hs 8 rfl) (sv hs 36 rfl) (hh.get 8 _ rfl) rfl rfl rfl rfl)) ?_
  rintro g _ _ rfl
  exact ⟨⟨[], [], []⟩, trivial, .inl rfl, rfl⟩
 intro g hΦ
 refine kw_gen (ι := Option Addr × Option Addr × Option Addr × Nat × Nat × Nat × Res × Res × Res × Option Addr × Option Addr × Option Addr × Nat × Nat × Nat × Res × Res × Res × Nat) (((g 1).A 0), ((g 1).A 1), ((g 1).A 2), ((g 1).C 0), ((g 1).C 1), ((g 1).C 2), ((g 1).R 0), ((g 1).R 1), ((g 1).R 2), ((g 5).A 0), ((g 5).A 1), ((g 5).A 2), ((g 5).C 0), ((g 5).C 1), ((g 5).C 2), ((g 5).R 0), ((g 5).R 1), ((g 5).R 2), ((g 11).C 0)) (fun | (p6, p10, p14, c8, c12, c16, C9, C13, C17, p20, p24, p28, c22, c26, c30, C23, C27, C31, b32) => OwnC 3 p6 c8 x5.t.b C9 ∧ OwnC 71 p10 c12 x5.t.f C13 ∧ OwnD 53 55 p14 c16 x5.c C17 ∧ OwnC 3 p20 c22 x19.1.t.b C23 ∧ OwnC 71 p24 c26 x19.1.t.f C27 ∧ OwnD 53 55 p28 c30 x19.1.c C31) (fun | (p6, p10, p14, c8, c12, c16, C9, C13, C17, p20, p24, p28, c22, c26, c30, C23, C27, C31, b32) => [(1, .int .i64 a1), (3, .pointer (some ⟨b1, 0, none⟩)), (5, .pointer (some ⟨b2, 0, none⟩)), (8, .pointer (some ⟨b32, 0, none⟩)), (9, .int .i64 x19.2.1), (10, .int .i64 x19.2.2.1), (11, .bool x19.2.2.2)]) (fun | (p6, p10, p14, c8, c12, c16, C9, C13, C17, p20, p24, p28, c22, c26, c30, C23, C27, C31, b32) => [(0, [(b1, .cells #[.slice p0_0 ((a0.t.b).length) c0_0, .slice p0_1 ((a0.t.f).length) c0_1, .slice p0_2 ((a0.c).length) c0_2] 28 (0, 0))]), (1, [(b2, .cells #[.int .i64 a2.s, .int .i64 a2.p] 30 (0, 0))]), (5, C23), (6, C27), (7, C31), (8, [(b32, .cells #[.slice p20 ((x19.1.t.b).length) c22, .slice p24 ((x19.1.t.f).length) c26, .slice p28 ((x19.1.c).length) c30] 37 (0, 0))])]) ⟨(hΦ 1 (by decide)).1, (hΦ 1 (by decide)).2.1, (hΦ 1 (by decide)).2.2, (hΦ 5 (by decide)).1, (hΦ 5 (by decide)).2.1, (hΦ 5 (by decide)).2.2⟩ ⟨rfl, rfl, rfl, rfl, rfl, rfl, rfl, trivial⟩ ⟨rfl, rfl, rfl, rfl, rfl, rfl, trivial⟩ ?_
 rintro ⟨p6, p10, p14, c8, c12, c16, C9, C13, C17, p20, p24, p28, c22, c26, c30, C23, C27, C31, b32⟩ ⟨o9, o13, o17, o23, o27, o31⟩
 dsimp only
 obtain ⟨x33, e33, H0⟩ := bS H0
 refine kw_nx (sr (oB3 0 ts28 rfl (oE (stpU_call (fun i => 9 + i) cf12 (fun w hw => c_l_toSystem fl w a0 rfl (RO.pass hr0_0 hw) rfl (RO.pass hr0_1 hw) rfl (ROD.pass hr0_2 hw) x33 e33) (yA rfl)) rfl ?_)))
 rintro _ _ ⟨_, ⟨p34, _, c36, C37, p38, _, c40, C41, p42, _, c44, C45, rfl, rfl, rfl, o37, rfl, o41, rfl, o45⟩, rfl⟩
 refine oE (stpU_alloc 12 tz37 rfl) rfl ?_
 rintro _ _ ⟨b46, rfl, rfl⟩
 obtain ⟨x47, e47, H0⟩ := bS H0
 refine oC3 12 ts37 rfl rfl (nn (cw_seq (rdq g_mixed [1, 5, 12] [1, 9, 10, 11, 12] { dst := dS [44, 45, 46, 47, 48, 43, 49, 50, 51, 52, 14, 0, 15, 16, 17], pre := gA [] [[], [], [], [2], rn 0 4, rn 0 5, rn 0 6, rn 0 6, rn 0 6, rn 0 6, [], [0, 1, 2, 3, 4, 5, 6, 10], [0, 1, 2, 3, 4, 5, 6, 7, 10, 11], [0, 1, 2, 3, 4, 5, 6, 7, 8, 10, 11, 12], rn 0 14], ids := gA [] [[], [], [], [], [13, 14, 15], [], [], [], [], [], [16], [16]], rs := rL [[(12, 0)], [(1, 0)], [(5, 0)], [(45, 3)], [(43, 1), (44, 2), (46, 4)], [(47, 5)], [(42, 6)], [(42, 6)], [(42, 6)], [(42, 6)], [], [(13, 11), (48, 7)], [(49, 8)], [(50, 9)], [(51, 10)]], rh := rL [[(12, 0)], [], [(1, 0)], [], [(9, 0), (10, 0), (11, 0)], [], [], [], [], [], [], [(16, 11)]], V := fun i g => gA undef [.agg #[.slice p34 ((x33.t.b).length) c36, .slice p38 ((x33.t.f).length) c40, .slice p42 ((x33.c).length) c44], .int .i64 a1, .agg #[.int .i64 a2.s, .int .i64 a2.p], .agg #[.int .i64 x18.s, .int .i64 x18.p], .tuple #[.agg #[.slice ((g 4).A 0) ((x47.1.t.b).length) ((g 4).C 0), .slice ((g 4).A 1) ((x47.1.t.f).length) ((g 4).C 1), .slice ((g 4).A 2) ((x47.1.c).length) ((g 4).C 2)], .int .i64 x47.2.1, .int .i64 x47.2.2.1, .bool x47.2.2.2], .tuple #[.agg #[.slice ((g 4).A 0) ((x47.1.t.b).length) ((g 4).C 0), .slice ((g 4).A 1) ((x47.1.t.f).length) ((g 4).C 1), .slice ((g 4).A 2) ((x47.1.c).length) ((g 4).C 2)], .int .i64 x47.2.1, .int .i64 x47.2.2.1, .bool x47.2.2.2], .agg #[.slice ((g 4).A 0) ((x47.1.t.b).length) ((g 4).C 0), .slice ((g 4).A 1) ((x47.1.t.f).length) ((g 4).C 1), .slice ((g 4).A 2) ((x47.1.c).length) ((g 4).C 2)], .int .i64 x47.2.1, .int .i64 x47.2.2.1, .bool x47.2.2.2, .pointer (some ⟨((g 10).C 0), 0, none⟩), undef, .int .i64 x47.2.1, .int .i64 x47.2.2.1, .bool x47.2.2.2] i, U := fun i g => match i with | 4 => [(13, ((g 4).R 0)), (14, ((g 4).R 1)), (15, ((g 4).R 2))] | 10 => [(16, [(((g 10).C 0), .cells #[.slice none 0 0, .slice none 0 0, .slice none 0 0] 37 (0, 0))])] | 11 => [(16, [(((g 10).C 0), .cells #[.slice ((g 4).A 0) ((x47.1.t.b).length) ((g 4).C 0), .slice ((g 4).A 1) ((x47.1.t.f).length) ((g 4).C 1), .slice ((g 4).A 2) ((x47.1.c).length) ((g 4).C 2)] 37 (0, 0))])] | _ => [], Φ := fun i x => match i with | 4 => OwnC 3 (x.A 0) (x.C 0) x47.1.t.b (x.R 0) ∧ OwnC 71 (x.A 1) (x.C 1) x47.1.t.f (x.R 1) ∧ OwnD 53 55 (x.A 2) (x.C 2) x47.1.c (x.R 2) | _ => True } ?_ ?_)))
 ·refine ⟨lc rfl rfl fun hs hh => stp_loadN (us := [_, _, _]) ts37 (sv hs 12 rfl) (Cells.box (id := 12) (hh.get 12 _ rfl) 3 rfl), lM, lc rfl rfl fun hs hh => stp_loadN (us := [_, _]) ts30 (sv hs 5 rfl) (Cells.box (id := 1) (hh.get 1 _ rfl) 2 rfl), ?_, ?_, lM, lT, lT, lT, lT, ?_, ?_, lS, lS, lS, trivial⟩
  ·refine le rfl rfl (fun g hΦ s h hs hh => (stpU_call (fun i => 13 + i) cf13 (fun w hw => c_l_toKey fl w a2 x18 e18) (yA (sv hs 45 rfl)))) ?_
   rintro g _ _ ⟨_, ⟨rfl, rfl⟩, rfl⟩
   exact ⟨⟨[], [], []⟩, trivial, .inr rfl, rfl⟩
  ·refine le rfl rfl (fun g hΦ s h hs hh => (stpU_call (fun i => 13 + i) cf14 (fun w hw => c_i_LookCpu fl w x33 a1 x18 rfl (OwnC.pass (id := 9) (hh.get 9 _ rfl) o37 hw) rfl (OwnC.pass (id := 10) (hh.get 10 _ rfl) o41 hw) rfl (OwnD.pass (id := 11) (hh.get 11 _ rfl) o45 hw) (RO.pass hg hw) x47 e47) (yC (sv hs 43 rfl) (sv hs 44 rfl) (sv hs 46 rfl)))) ?_
   rintro g _ _ ⟨_, ⟨p48, _, c50, C51, p52, _, c54, C55, p56, _, c58, C59, rfl, rfl, rfl, o51, rfl, o55, rfl, o59⟩, rfl⟩
   exact ⟨⟨[p48, p52, p56], [c50, c54, c58], [C51, C55, C59]⟩, ⟨o51, o55, o59⟩, .inr rfl, rfl⟩
  ·refine le rfl rfl (fun g hΦ s h hs hh => (stpU_alloc 16 tz37 rfl)) ?_
   rintro g _ _ ⟨b60, rfl, rfl⟩
   exact ⟨⟨[], [b60], []⟩, trivial, .inr rfl, rfl⟩
  refine le rfl rfl (fun g hΦ s h hs hh => (stpU_store (id := 16) (cs' := [.slice ((g 4).A 0) ((x47.1.t.b).length) ((g 4).C 0), .slice ((g 4).A 1) ((x47.1.t.f).length) ((g 4).C 1), .slice ((g 4).A 2) ((x47.1.c).length) ((g 4).C 2)]) ts37 (sv hs 13 rfl) (sv hs 48 rfl) (hh.get 16 _ rfl) rfl rfl rfl rfl)) ?_
  rintro g _ _ rfl
  exact ⟨⟨[], [], []⟩, trivial, .inl rfl, rfl⟩
 intro g hΦ
 refine kw_gen (ι := Option Addr × Option Addr × Option Addr × Nat × Nat × Nat × Res × Res × Res × Nat) (((g 4).A 0), ((g 4).A 1), ((g 4).A 2), ((g 4).C 0), ((g 4).C 1), ((g 4).C 2), ((g 4).R 0), ((g 4).R 1), ((g 4).R 2), ((g 10).C 0)) (fun | (p48, p52, p56, c50, c54, c58, C51, C55, C59, b60) => OwnC 3 p48 c50 x47.1.t.b C51 ∧ OwnC 71 p52 c54 x47.1.t.f C55 ∧ OwnD 53 55 p56 c58 x47.1.c C59) (fun | (p48, p52, p56, c50, c54, c58, C51, C55, C59, b60) => [(1, .int .i64 a1), (3, .pointer (some ⟨b1, 0, none⟩)), (5, .pointer (some ⟨b2, 0, none⟩)), (8, .pointer (some ⟨b32, 0, none⟩)), (9, .int .i64 x19.2.1), (10, .int .i64 x19.2.2.1), (11, .bool x19.2.2.2), (12, .pointer (some ⟨b46, 0, none⟩)), (13, .pointer (some ⟨b60, 0, none⟩)), (14, .int .i64 x47.2.1), (15, .int .i64 x47.2.2.1), (16, .bool x47.2.2.2)]) (fun | (p48, p52, p56, c50, c54, c58, C51, C55, C59, b60) => [(0, [(b1, .cells #[.slice p0_0 ((a0.t.b).length) c0_0, .slice p0_1 ((a0.t.f).length) c0_1, .slice p0_2 ((a0.c).length) c0_2] 28 (0, 0))]), (1, [(b2, .cells #[.int .i64 a2.s, .int .i64 a2.p] 30 (0, 0))]), (5, C23), (6, C27), (7, C31), (8, [(b32, .cells #[.slice p20 ((x19.1.t.b).length) c22, .slice p24 ((x19.1.t.f).length) c26, .slice p28 ((x19.1.c).length) c30] 37 (0, 0))]), (9, C37), (10, C41), (11, C45), (12, [(b46, .cells #[.slice p34 ((x33.t.b).length) c36, .slice p38 ((x33.t.f).length) c40, .slice p42 ((x33.c).length) c44] 37 (0, 0))]), (13, C51), (14, C55), (15, C59), (16, [(b60, .cells #[.slice p48 ((x47.1.t.b).length) c50, .slice p52 ((x47.1.t.f).length) c54, .slice p56 ((x47.1.c).length) c58] 37 (0, 0))])]) ⟨(hΦ 4 (by decide)).1, (hΦ 4 (by decide)).2.1, (hΦ 4 (by decide)).2.2⟩ ⟨rfl, rfl, rfl, rfl, rfl, rfl, rfl, rfl, rfl, rfl, rfl, rfl, trivial⟩ ⟨rfl, rfl, rfl, rfl, rfl, rfl, rfl, rfl, rfl, rfl, rfl, rfl, rfl, rfl, trivial⟩ ?_
 rintro ⟨p48, p52, p56, c50, c54, c58, C51, C55, C59, b60⟩ ⟨o51, o55, o59⟩
 dsimp only
 obtain ⟨x61, e61, H0⟩ := bS H0
 refine kw_nx (cw_seq (sr (oB3 16 ts37 rfl (oB3 8 ts37 rfl (oE (stpU_call (fun i => 17 + i) cf15 (fun w hw => c_l_eqSystem fl w x47.1 x19.1 rfl (OwnC.pass (id := 13) rfl o51 hw) rfl (OwnC.pass (id := 14) rfl o55 hw) rfl (OwnD.pass (id := 15) rfl o59 hw) rfl (OwnC.pass (id := 5) rfl o23 hw) rfl (OwnC.pass (id := 6) rfl o27 hw) rfl (OwnD.pass (id := 7) rfl o31 hw) x61 e61) (yB rfl rfl)) rfl ?_)))))
 rintro _ _ ⟨_, ⟨rfl, rfl⟩, rfl⟩
 obtain ⟨y62, ey62, H0⟩ := bS H0
 refine oK rfl (oM rfl (ow_cutY 4 60 y62 ?_ ?_))
 ·rcases Bool.eq_false_or_eq_true (!x61) with hy62 | hy62
  ·have ey62 := cond_t ey62 hy62
   refine oO rfl hy62 rfl (oO rfl hy62 rfl (oO rfl hy62 rfl (oD (stp_pick_t rfl hy62 rfl) rfl ?_)))
   obtain rfl := sI ey62
   exact ow_nil (jy 4 0)
  have ey62 := cond_f ey62 hy62
  refine oG rfl hy62 (mv rfl) rfl (oG rfl hy62 (mv rfl) rfl (oG rfl hy62 (stp_neq rfl rfl) rfl (oD (stp_pick_f rfl hy62 rfl) rfl ?_)))
  obtain rfl := sI ey62
  exact ow_nil (jy 4 0)
 obtain ⟨y63, ey63, H0⟩ := bS H0
 refine oM rfl (ow_cutY 4 65 y63 ?_ ?_)
 ·rcases Bool.eq_false_or_eq_true y62 with hy63 | hy63
  ·have ey63 := cond_t ey63 hy63
   refine oO rfl hy63 rfl (oO rfl hy63 rfl (oO rfl hy63 rfl (oD (stp_pick_t rfl hy63 rfl) rfl ?_)))
   obtain rfl := sI ey63
   exact ow_nil (jy 4 0)
  have ey63 := cond_f ey63 hy63
  refine oG rfl hy63 (mv rfl) rfl (oG rfl hy63 (mv rfl) rfl (oG rfl hy63 (stp_neq rfl rfl) rfl (oD (stp_pick_f rfl hy63 rfl) rfl ?_)))
  obtain rfl := sI ey63
  exact ow_nil (jy 4 0)
 obtain ⟨y64, ey64, H0⟩ := bS H0
 refine oM rfl (ow_cutY 4 70 y64 ?_ ?_)
 ·rcases Bool.eq_false_or_eq_true y63 with hy64 | hy64
  ·have ey64 := cond_t ey64 hy64
   refine oO rfl hy64 rfl (oO rfl hy64 rfl (oO rfl hy64 rfl (oD (stp_pick_t rfl hy64 rfl) rfl ?_)))
   obtain rfl := sI ey64
   exact ow_nil (jy 4 0)
  have ey64 := cond_f ey64 hy64
  refine oG rfl hy64 (mv rfl) rfl (oG rfl hy64 (mv rfl) rfl (oG rfl hy64 (stp_neqB Tryd.underlying4 rfl rfl) rfl (oD (stp_pick_f rfl hy64 rfl) rfl ?_)))
  obtain rfl := sI ey64
  exact ow_nil (jy 4 0)
 refine ow_nil (kw_nx (cw_cond rfl (fun h65 => ?_) (fun h65 => ?_)))
 ·have H0 := cond_t H0 h65
  refine sr (oS rfl (nn (cw_ret (kw_nx_ret ?_))))
  obtain rfl := sI H0
  exact kr Tryd.results3 (rT rfl) [] ⟨rfl, rfl⟩
 have H0 := cond_f H0 h65
 obtain ⟨x66, e66, H0⟩ := bS H0
 obtain ⟨x79, e79, H0⟩ := bS H0
 refine cw_skip (kw_nx (cw_seq (cw_seq (rdq g_mixed [3, 12] [0, 9, 10, 11, 12] { dst := dS [72, 73, 74, 75, 76], pre := gA [] [[], [], [1], [0, 1, 2], rn 0 4], ids := gA [] [[], [], [17, 18, 19]], rs := rL [[(12, 0)], [(3, 0)], [(72, 2)], [(71, 1), (73, 3)], [(74, 4)]], rh := rL [[(12, 0)], [(0, 0)], [], [(9, 0), (10, 0), (11, 0), (17, 3), (18, 3), (19, 3)]], V := fun i g => gA undef [.agg #[.slice p34 ((x33.t.b).length) c36, .slice p38 ((x33.t.f).length) c40, .slice p42 ((x33.c).length) c44], .agg #[.slice p0_0 ((a0.t.b).length) c0_0, .slice p0_1 ((a0.t.f).length) c0_1, .slice p0_2 ((a0.c).length) c0_2], .agg #[.slice ((g 2).A 0) ((x66.t.b).length) ((g 2).C 0), .slice ((g 2).A 1) ((x66.t.f).length) ((g 2).C 1), .slice ((g 2).A 2) ((x66.c).length) ((g 2).C 2)], .bool x79, .bool (!x79)] i, U := fun i g => gA [] [[], [], [(17, ((g 2).R 0)), (18, ((g 2).R 1)), (19, ((g 2).R 2))]] i, Φ := fun i x => gA True [True, True, OwnC 3 (x.A 0) (x.C 0) x66.t.b (x.R 0) ∧ OwnC 71 (x.A 1) (x.C 1) x66.t.f (x.R 1) ∧ OwnD 53 55 (x.A 2) (x.C 2) x66.c (x.R 2)] i } ?_ ?_))))
 ·refine ⟨lc rfl rfl fun hs hh => stp_loadN (us := [_, _, _]) ts37 (sv hs 12 rfl) (Cells.box (id := 12) (hh.get 12 _ rfl) 3 rfl), lc rfl rfl fun hs hh => stp_loadN (us := [_, _, _]) ts28 (sv hs 3 rfl) (Cells.box (id := 0) (hh.get 0 _ rfl) 3 rfl), ?_, ?_, lc rfl rfl fun hs hh => stp_not (sv hs 74 rfl), trivial⟩
  ·refine le rfl rfl (fun g hΦ s h hs hh => (stpU_call (fun i => 17 + i) cf12 (fun w hw => c_l_toSystem fl w a0 rfl (RO.pass hr0_0 hw) rfl (RO.pass hr0_1 hw) rfl (ROD.pass hr0_2 hw) x66 e66) (yA (sv hs 72 rfl)))) ?_
   rintro g _ _ ⟨_, ⟨p67, _, c69, C70, p71, _, c73, C74, p75, _, c77, C78, rfl, rfl, rfl, o70, rfl, o74, rfl, o78⟩, rfl⟩
   exact ⟨⟨[p67, p71, p75], [c69, c73, c77], [C70, C74, C78]⟩, ⟨o70, o74, o78⟩, .inr rfl, rfl⟩
  refine le rfl rfl (fun g hΦ s h hs hh => (stpU_call (fun i => 20 + i) cf15 (fun w hw => c_l_eqSystem fl w x33 x66 rfl (OwnC.pass (id := 9) (hh.get 9 _ rfl) o37 hw) rfl (OwnC.pass (id := 10) (hh.get 10 _ rfl) o41 hw) rfl (OwnD.pass (id := 11) (hh.get 11 _ rfl) o45 hw) rfl (OwnC.pass (id := 17) (hh.get 17 _ rfl) (hΦ 2 rfl).1 hw) rfl (OwnC.pass (id := 18) (hh.get 18 _ rfl) (hΦ 2 rfl).2.1 hw) rfl (OwnD.pass (id := 19) (hh.get 19 _ rfl) (hΦ 2 rfl).2.2 hw) x79 e79) (yB (sv hs 71 rfl) (sv hs 73 rfl)))) ?_
  rintro g _ _ ⟨_, ⟨rfl, rfl⟩, rfl⟩
  exact ⟨⟨[], [], []⟩, trivial, .inr rfl, rfl⟩
 intro g hΦ
 refine kw_gen (ι := Option Addr × Option Addr × Option Addr × Nat × Nat × Nat × Res × Res × Res) (((g 2).A 0), ((g 2).A 1), ((g 2).A 2), ((g 2).C 0), ((g 2).C 1), ((g 2).C 2), ((g 2).R 0), ((g 2).R 1), ((g 2).R 2)) (fun | (p67, p71, p75, c69, c73, c77, C70, C74, C78) => OwnC 3 p67 c69 x66.t.b C70 ∧ OwnC 71 p71 c73 x66.t.f C74 ∧ OwnD 53 55 p75 c77 x66.c C78) (fun | (p67, p71, p75, c69, c73, c77, C70, C74, C78) => [(1, .int .i64 a1), (3, .pointer (some ⟨b1, 0, none⟩)), (5, .pointer (some ⟨b2, 0, none⟩)), (8, .pointer (some ⟨b32, 0, none⟩)), (9, .int .i64 x19.2.1), (10, .int .i64 x19.2.2.1), (11, .bool x19.2.2.2), (12, .pointer (some ⟨b46, 0, none⟩)), (13, .pointer (some ⟨b60, 0, none⟩)), (14, .int .i64 x47.2.1), (15, .int .i64 x47.2.2.1), (16, .bool x47.2.2.2), (75, .bool (!x79))]) (fun | (p67, p71, p75, c69, c73, c77, C70, C74, C78) => [(0, [(b1, .cells #[.slice p0_0 ((a0.t.b).length) c0_0, .slice p0_1 ((a0.t.f).length) c0_1, .slice p0_2 ((a0.c).length) c0_2] 28 (0, 0))]), (1, [(b2, .cells #[.int .i64 a2.s, .int .i64 a2.p] 30 (0, 0))]), (5, C23), (6, C27), (7, C31), (8, [(b32, .cells #[.slice p20 ((x19.1.t.b).length) c22, .slice p24 ((x19.1.t.f).length) c26, .slice p28 ((x19.1.c).length) c30] 37 (0, 0))]), (9, C37), (10, C41), (11, C45), (12, [(b46, .cells #[.slice p34 ((x33.t.b).length) c36, .slice p38 ((x33.t.f).length) c40, .slice p42 ((x33.c).length) c44] 37 (0, 0))]), (13, C51), (14, C55), (15, C59), (16, [(b60, .cells #[.slice p48 ((x47.1.t.b).length) c50, .slice p52 ((x47.1.t.f).length) c54, .slice p56 ((x47.1.c).length) c58] 37 (0, 0))])]) ⟨(hΦ 2 (by decide)).1, (hΦ 2 (by decide)).2.1, (hΦ 2 (by decide)).2.2⟩ ⟨rfl, rfl, rfl, rfl, rfl, rfl, rfl, rfl, rfl, rfl, rfl, rfl, rfl, trivial⟩ ⟨rfl, rfl, rfl, rfl, rfl, rfl, rfl, rfl, rfl, rfl, rfl, rfl, rfl, rfl, trivial⟩ ?_
 rintro ⟨p67, p71, p75, c69, c73, c77, C70, C74, C78⟩ ⟨o70, o74, o78⟩
 dsimp only
 refine kw_nx (cw_cond rfl (fun h80 => ?_) (fun h80 => ?_))
 ·have H0 := cond_t H0 h80
  refine sr (oS rfl (nn (cw_ret (kw_nx_ret ?_))))
  obtain rfl := sI H0
  exact kr Tryd.results3 (rT rfl) [] ⟨rfl, rfl⟩
 have H0 := cond_f H0 h80
 obtain ⟨x81, e81, H0⟩ := bS H0
 refine cw_skip (kw_nx (sr (oS rfl (nn (sr (oB3 12 ts37 rfl (oM rfl (oE (stpU_callM (fun i => bif Nat.beq i 0 then 9 else bif Nat.beq i 1 then 10 else bif Nat.beq i 2 then 11 else 20 + i) cf16 (fun w hw hb => c_l_markSystem fl w x33 1 rfl o37 rfl o41 rfl o45 (hw.pass (js := [9, 10, 11]) ⟨9, [10, 11], rfl, rfl, 10, [11], rfl, rfl, 11, [], rfl, rfl, trivial⟩ (by decide)) x81 e81) (yB rfl rfl) ⟨rfl, (fun _ _ hp => by obtain ⟨_, _, _, _, rfl, _⟩ := hp; exact ⟨_, rfl⟩), rfl, (fun _ _ hp => by obtain ⟨_, _, _, _, rfl, _⟩ := hp; exact ⟨_, rfl⟩), rfl, (fun _ _ hp => by obtain ⟨_, _, _, _, rfl, _⟩ := hp; exact ⟨_, rfl⟩), trivial⟩) rfl ?_))))))))
 rintro _ _ ⟨_, ⟨C82, C83, C84, rfl, rfl, hl82, o82, hl83, o83, hl84, o84⟩, rfl⟩
 obtain ⟨y85, ey85, H0⟩ := bS H0
 refine oS rfl (nn (cw_seq (sr (oM rfl (oW rfl (oM rfl (ow_cutY 5 86 y85 ?_ ?_)))))))
 ·rcases Bool.eq_false_or_eq_true (decide (x81.1 < 0)) with hy85 | hy85
  ·have ey85 := cond_t ey85 hy85
   refine oO rfl hy85 rfl (oO rfl hy85 rfl (oO rfl hy85 rfl (oO rfl hy85 rfl (oD (stp_pick_t rfl hy85 rfl) rfl ?_))))
   obtain rfl := sI ey85
   exact ow_nil (jy 5 0)
  have ey85 := cond_f ey85 hy85
  refine oG rfl hy85 (stp_loadN (us := [_, _, _]) ts37 rfl (Cells.box (id := 16) rfl 3 rfl)) rfl (oG rfl hy85 (stp_loadN (us := [_, _, _]) ts37 rfl (Cells.box (id := 8) rfl 3 rfl)) rfl (ow_eff (.some rfl hy85) (stpU_call (fun i => 23 + i) cf15 (fun w hw => c_l_eqSystem fl w x47.1 x19.1 rfl (OwnC.pass (id := 13) rfl o51 hw) rfl (OwnC.pass (id := 14) rfl o55 hw) rfl (OwnD.pass (id := 15) rfl o59 hw) rfl (OwnC.pass (id := 5) rfl o23 hw) rfl (OwnC.pass (id := 6) rfl o27 hw) rfl (OwnD.pass (id := 7) rfl o31 hw) x61 e61) (yB rfl rfl)) rfl ?_))
  rintro _ _ ⟨_, ⟨rfl, rfl⟩, rfl⟩
  refine oG rfl hy85 (stp_not rfl) rfl (oD (stp_pick_f rfl hy85 rfl) rfl ?_)
  obtain rfl := sI ey85
  exact ow_nil (jy 5 0)
 obtain ⟨y86, ey86, H0⟩ := bS H0
 refine oM rfl (ow_cutY 4 91 y86 ?_ ?_)
 ·rcases Bool.eq_false_or_eq_true y85 with hy86 | hy86
  ·have ey86 := cond_t ey86 hy86
   refine oO rfl hy86 rfl (oO rfl hy86 rfl (oO rfl hy86 rfl (oD (stp_pick_t rfl hy86 rfl) rfl ?_)))
   obtain rfl := sI ey86
   exact ow_nil (jy 4 0)
  have ey86 := cond_f ey86 hy86
  refine oG rfl hy86 (mv rfl) rfl (oG rfl hy86 (mv rfl) rfl (oG rfl hy86 (stp_neq rfl rfl) rfl (oD (stp_pick_f rfl hy86 rfl) rfl ?_)))
  obtain rfl := sI ey86
  exact ow_nil (jy 4 0)
 obtain ⟨y87, ey87, H0⟩ := bS H0
 refine oM rfl (ow_cutY 4 96 y87 ?_ ?_)
 ·rcases Bool.eq_false_or_eq_true y86 with hy87 | hy87
  ·have ey87 := cond_t ey87 hy87
   refine oO rfl hy87 rfl (oO rfl hy87 rfl (oO rfl hy87 rfl (oD (stp_pick_t rfl hy87 rfl) rfl ?_)))
   obtain rfl := sI ey87
   exact ow_nil (jy 4 0)
  have ey87 := cond_f ey87 hy87
  refine oG rfl hy87 (mv rfl) rfl (oG rfl hy87 (mv rfl) rfl (oG rfl hy87 (stp_neq rfl rfl) rfl (oD (stp_pick_f rfl hy87 rfl) rfl ?_)))
  obtain rfl := sI ey87
  exact ow_nil (jy 4 0)
 obtain ⟨y88, ey88, H0⟩ := bS H0
 refine oM rfl (ow_cutY 4 101 y88 ?_ ?_)
 ·rcases Bool.eq_false_or_eq_true y87 with hy88 | hy88
  ·have ey88 := cond_t ey88 hy88
   refine oO rfl hy88 rfl (oO rfl hy88 rfl (oO rfl hy88 rfl (oD (stp_pick_t rfl hy88 rfl) rfl ?_)))
   obtain rfl := sI ey88
   exact ow_nil (jy 4 0)
  have ey88 := cond_f ey88 hy88
  refine oG rfl hy88 (mv rfl) rfl (oG rfl hy88 (mv rfl) rfl (oG rfl hy88 (stp_neqB Tryd.underlying4 rfl rfl) rfl (oD (stp_pick_f rfl hy88 rfl) rfl ?_)))
  obtain rfl := sI ey88
  exact ow_nil (jy 4 0)
 refine ow_nil (kw_nx (cw_cond rfl (fun h89 => ?_) (fun h89 => ?_)))
 ·have H0 := cond_t H0 h89
  refine sr (oS rfl (nn (cw_ret (kw_nx_ret ?_))))
  obtain rfl := sI H0
  exact kr Tryd.results3 (rT rfl) [] ⟨rfl, rfl⟩
 have H0 := cond_f H0 h89
 obtain ⟨x90, e90, H0⟩ := bS H0
 refine cw_skip (kw_nx (sr (oS rfl (nn (sr (oB3 16 ts37 rfl (oM rfl (oE (stpU_callM (fun i => bif Nat.beq i 0 then 13 else bif Nat.beq i 1 then 14 else bif Nat.beq i 2 then 15 else 23 + i) cf16 (fun w hw hb => c_l_markSystem fl w x47.1 1 rfl o51 rfl o55 rfl o59 (hw.pass (js := [13, 14, 15]) ⟨13, [14, 15], rfl, rfl, 14, [15], rfl, rfl, 15, [], rfl, rfl, trivial⟩ (by decide)) x90 e90) (yB rfl rfl) ⟨rfl, (fun _ _ hp => by obtain ⟨_, _, _, _, rfl, _⟩ := hp; exact ⟨_, rfl⟩), rfl, (fun _ _ hp => by obtain ⟨_, _, _, _, rfl, _⟩ := hp; exact ⟨_, rfl⟩), rfl, (fun _ _ hp => by obtain ⟨_, _, _, _, rfl, _⟩ := hp; exact ⟨_, rfl⟩), trivial⟩) rfl ?_))))))))
 rintro _ _ ⟨_, ⟨C91, C92, C93, rfl, rfl, hl91, o91, hl92, o92, hl93, o93⟩, rfl⟩
 obtain ⟨x94, e94, H0⟩ := bS H0
 refine oS rfl (nn (sr (oS rfl (nn (sr (oB3 16 ts37 rfl (oM rfl (oE (stpU_call (fun i => 26 + i) cf17 (fun w hw => c_l_heldSystem fl w (⟨(⟨x90.2.1, x90.2.2.1⟩ : T), x90.2.2.2⟩ : Sy) 1 (by simp [hl91]) (OwnC.pass (id := 13) rfl o91 hw) (by simp [hl92]) (OwnC.pass (id := 14) rfl o92 hw) (by simp [hl93]) (OwnD.pass (id := 15) rfl o93 hw) x94 e94) (yB rfl rfl)) rfl ?_))))))))
 rintro _ _ ⟨_, ⟨rfl, rfl⟩, rfl⟩
 refine oS rfl (nn (cw_seq (sr (oM rfl (oW rfl (nn (cw_cond rfl (fun h95 => ?_) (fun h95 => ?_))))))))
 ·have H0 := cond_t H0 h95
  refine sr (oS rfl (nn (cw_ret (kw_nx_ret ?_))))
  obtain rfl := sI H0
  exact kr Tryd.results3 (rT rfl) [] ⟨rfl, rfl⟩
 have H0 := cond_f H0 h95
 refine cw_skip (kw_nx (cw_seq (sr (oM rfl (oM rfl (oU rfl (nn (cw_cond rfl (fun h96 => ?_) (fun h96 => ?_)))))))))
 ·have H0 := cond_t H0 h96
  refine sr (oS rfl (nn (cw_ret (kw_nx_ret ?_))))
  obtain rfl := sI H0
  exact kr Tryd.results3 (rT rfl) [] ⟨rfl, rfl⟩
 have H0 := cond_f H0 h96
 obtain ⟨x97, e97, H0⟩ := bS H0
 obtain ⟨x110, e110, H0⟩ := bS H0
 refine cw_skip (kw_nx (cw_seq (rdq g_mixed [1, 3, 5] [0, 1] { dst := dS [115, 116, 117, 118, 119, 120, 114, 121, 122, 123, 124, 21, 0, 22, 23, 24], pre := gA [] [[], [0], [], [], [0, 1, 3], rn 0 5, rn 0 6, rn 0 7, rn 0 7, rn 0 7, rn 0 7, [], [0, 1, 2, 3, 4, 5, 6, 7, 11], [0, 1, 2, 3, 4, 5, 6, 7, 8, 11, 12], [0, 1, 2, 3, 4, 5, 6, 7, 8, 9, 11, 12, 13], rn 0 15], ids := gA [] [[], [26, 27, 28], [], [], [], [29, 30, 31], [], [], [], [], [], [32], [32]], rs := rL [[(3, 0)], [(114, 1)], [(1, 0)], [(5, 0)], [(117, 4)], [(115, 2), (116, 3), (118, 5)], [(119, 6)], [(113, 7)], [(113, 7)], [(113, 7)], [(113, 7)], [], [(20, 12), (120, 8)], [(121, 9)], [(122, 10)], [(123, 11)]], rh := rL [[(0, 0)], [], [], [(1, 0)], [], [(26, 2), (27, 2), (28, 2)], [], [], [], [], [], [], [(32, 12)]], V := fun i g => gA undef [.agg #[.slice p0_0 ((a0.t.b).length) c0_0, .slice p0_1 ((a0.t.f).length) c0_1, .slice p0_2 ((a0.c).length) c0_2], .agg #[.slice ((g 1).A 0) ((x97.t.b).length) ((g 1).C 0), .slice ((g 1).A 1) ((x97.t.f).length) ((g 1).C 1), .slice ((g 1).A 2) ((x97.c).length) ((g 1).C 2)], .int .i64 a1, .agg #[.int .i64 a2.s, .int .i64 a2.p], .agg #[.int .i64 x18.s, .int .i64 x18.p], .tuple #[.agg #[.slice ((g 5).A 0) ((x110.1.t.b).length) ((g 5).C 0), .slice ((g 5).A 1) ((x110.1.t.f).length) ((g 5).C 1), .slice ((g 5).A 2) ((x110.1.c).length) ((g 5).C 2)], .int .i64 x110.2.1, .int .i64 x110.2.2.1, .bool x110.2.2.2], .tuple #[.agg #[.slice ((g 5).A 0) ((x110.1.t.b).length) ((g 5).C 0), .slice ((g 5).A 1) ((x110.1.t.f).length) ((g 5).C 1), .slice ((g 5).A 2) ((x110.1.c).length) ((g 5).C 2)], .int .i64 x110.2.1, .int .i64 x110.2.2.1, .bool x110.2.2.2], .agg #[.slice ((g 5).A 0) ((x110.1.t.b).length) ((g 5).C 0), .slice ((g 5).A 1) ((x110.1.t.f).length) ((g 5).C 1), .slice ((g 5).A 2) ((x110.1.c).length) ((g 5).C 2)], .int .i64 x110.2.1, .int .i64 x110.2.2.1, .bool x110.2.2.2, .pointer (some ⟨((g 11).C 0), 0, none⟩), undef, .int .i64 x110.2.1, .int .i64 x110.2.2.1, .bool x110.2.2.2] i, U := fun i g => gA [] [[], [(26, ((g 1).R 0)), (27, ((g 1).R 1)), (28, ((g 1).R 2))], [], [], [], [(29, ((g 5).R 0)), (30, ((g 5).R 1)), (31, ((g 5).R 2))], [], [], [], [], [], [(32, [(((g 11).C 0), .cells #[.slice none 0 0, .slice none 0 0, .slice none 0 0] 37 (0, 0))])], [(32, [(((g 11).C 0), .cells #[.slice ((g 5).A 0) ((x110.1.t.b).length) ((g 5).C 0), .slice ((g 5).A 1) ((x110.1.t.f).length) ((g 5).C 1), .slice ((g 5).A 2) ((x110.1.c).length) ((g 5).C 2)] 37 (0, 0))])]] i, Φ := fun i x => gA True [True, OwnC 3 (x.A 0) (x.C 0) x97.t.b (x.R 0) ∧ OwnC 71 (x.A 1) (x.C 1) x97.t.f (x.R 1) ∧ OwnD 53 55 (x.A 2) (x.C 2) x97.c (x.R 2), True, True, True, OwnC 3 (x.A 0) (x.C 0) x110.1.t.b (x.R 0) ∧ OwnC 71 (x.A 1) (x.C 1) x110.1.t.f (x.R 1) ∧ OwnD 53 55 (x.A 2) (x.C 2) x110.1.c (x.R 2)] i } ?_ ?_)))
 ·refine ⟨lc rfl rfl fun hs hh => stp_loadN (us := [_, _, _]) ts28 (sv hs 3 rfl) (Cells.box (id := 0) (hh.get 0 _ rfl) 3 rfl), ?_, lM, lc rfl rfl fun hs hh => stp_loadN (us := [_, _]) ts30 (sv hs 5 rfl) (Cells.box (id := 1) (hh.get 1 _ rfl) 2 rfl), ?_, ?_, lM, lT, lT, lT, lT, ?_, ?_, lS, lS, lS, trivial⟩
  ·refine le rfl rfl (fun g hΦ s h hs hh => (stpU_call (fun i => 26 + i) cf12 (fun w hw => c_l_toSystem fl w a0 rfl (RO.pass hr0_0 hw) rfl (RO.pass hr0_1 hw) rfl (ROD.pass hr0_2 hw) x97 e97) (yA (sv hs 114 rfl)))) ?_
   rintro g _ _ ⟨_, ⟨p98, _, c100, C101, p102, _, c104, C105, p106, _, c108, C109, rfl, rfl, rfl, o101, rfl, o105, rfl, o109⟩, rfl⟩
   exact ⟨⟨[p98, p102, p106], [c100, c104, c108], [C101, C105, C109]⟩, ⟨o101, o105, o109⟩, .inr rfl, rfl⟩
  ·refine le rfl rfl (fun g hΦ s h hs hh => (stpU_call (fun i => 29 + i) cf13 (fun w hw => c_l_toKey fl w a2 x18 e18) (yA (sv hs 117 rfl)))) ?_
   rintro g _ _ ⟨_, ⟨rfl, rfl⟩, rfl⟩
   exact ⟨⟨[], [], []⟩, trivial, .inr rfl, rfl⟩
  ·refine le rfl rfl (fun g hΦ s h hs hh => (stpU_call (fun i => 29 + i) cf14 (fun w hw => c_i_LookCpu fl w x97 a1 x18 rfl (OwnC.pass (id := 26) (hh.get 26 _ rfl) (hΦ 1 rfl).1 hw) rfl (OwnC.pass (id := 27) (hh.get 27 _ rfl) (hΦ 1 rfl).2.1 hw) rfl (OwnD.pass (id := 28) (hh.get 28 _ rfl) (hΦ 1 rfl).2.2 hw) (RO.pass hg hw) x110 e110) (yC (sv hs 115 rfl) (sv hs 116 rfl) (sv hs 118 rfl)))) ?_
   rintro g _ _ ⟨_, ⟨p111, _, c113, C114, p115, _, c117, C118, p119, _, c121, C122, rfl, rfl, rfl, o114, rfl, o118, rfl, o122⟩, rfl⟩
   exact ⟨⟨[p111, p115, p119], [c113, c117, c121], [C114, C118, C122]⟩, ⟨o114, o118, o122⟩, .inr rfl, rfl⟩
  ·refine le rfl rfl (fun g hΦ s h hs hh => (stpU_alloc 32 tz37 rfl)) ?_
   rintro g _ _ ⟨b123, rfl, rfl⟩
   exact ⟨⟨[], [b123], []⟩, trivial, .inr rfl, rfl⟩
  refine le rfl rfl (fun g hΦ s h hs hh => (stpU_store (id := 32) (cs' := [.slice ((g 5).A 0) ((x110.1.t.b).length) ((g 5).C 0), .slice ((g 5).A 1) ((x110.1.t.f).length) ((g 5).C 1), .slice ((g 5).A 2) ((x110.1.c).length) ((g 5).C 2)]) ts37 (sv hs 20 rfl) (sv hs 120 rfl) (hh.get 32 _ rfl) rfl rfl rfl rfl)) ?_
  rintro g _ _ rfl
  exact ⟨⟨[], [], []⟩, trivial, .inl rfl, rfl⟩
 intro g hΦ
 refine kw_gen (ι := Option Addr × Option Addr × Option Addr × Nat × Nat × Nat × Res × Res × Res × Option Addr × Option Addr × Option Addr × Nat × Nat × Nat × Res × Res × Res × Nat) (((g 1).A 0), ((g 1).A 1), ((g 1).A 2), ((g 1).C 0), ((g 1).C 1), ((g 1).C 2), ((g 1).R 0), ((g 1).R 1), ((g 1).R 2), ((g 5).A 0), ((g 5).A 1), ((g 5).A 2), ((g 5).C 0), ((g 5).C 1), ((g 5).C 2), ((g 5).R 0), ((g 5).R 1), ((g 5).R 2), ((g 11).C 0)) (fun | (p98, p102, p106, c100, c104, c108, C101, C105, C109, p111, p115, p119, c113, c117, c121, C114, C118, C122, b123) => OwnC 3 p98 c100 x97.t.b C101 ∧ OwnC 71 p102 c104 x97.t.f C105 ∧ OwnD 53 55 p106 c108 x97.c C109 ∧ OwnC 3 p111 c113 x110.1.t.b C114 ∧ OwnC 71 p115 c117 x110.1.t.f C118 ∧ OwnD 53 55 p119 c121 x110.1.c C122) (fun | (p98, p102, p106, c100, c104, c108, C101, C105, C109, p111, p115, p119, c113, c117, c121, C114, C118, C122, b123) => [(8, .pointer (some ⟨b32, 0, none⟩)), (9, .int .i64 x19.2.1), (10, .int .i64 x19.2.2.1), (11, .bool x19.2.2.2), (13, .pointer (some ⟨b60, 0, none⟩)), (18, .int .i64 x90.1), (20, .pointer (some ⟨b123, 0, none⟩)), (21, .int .i64 x110.2.1), (22, .int .i64 x110.2.2.1), (23, .bool x110.2.2.2)]) (fun | (p98, p102, p106, c100, c104, c108, C101, C105, C109, p111, p115, p119, c113, c117, c121, C114, C118, C122, b123) => [(5, C23), (6, C27), (7, C31), (8, [(b32, .cells #[.slice p20 ((x19.1.t.b).length) c22, .slice p24 ((x19.1.t.f).length) c26, .slice p28 ((x19.1.c).length) c30] 37 (0, 0))]), (13, C91), (14, C92), (15, C93), (16, [(b60, .cells #[.slice p48 ((x47.1.t.b).length) c50, .slice p52 ((x47.1.t.f).length) c54, .slice p56 ((x47.1.c).length) c58] 37 (0, 0))]), (29, C114), (30, C118), (31, C122), (32, [(b123, .cells #[.slice p111 ((x110.1.t.b).length) c113, .slice p115 ((x110.1.t.f).length) c117, .slice p119 ((x110.1.c).length) c121] 37 (0, 0))])]) ⟨(hΦ 1 (by decide)).1, (hΦ 1 (by decide)).2.1, (hΦ 1 (by decide)).2.2, (hΦ 5 (by decide)).1, (hΦ 5 (by decide)).2.1, (hΦ 5 (by decide)).2.2⟩ ⟨rfl, rfl, rfl, rfl, rfl, rfl, rfl, rfl, rfl, rfl, trivial⟩ ⟨rfl, rfl, rfl, rfl, rfl, rfl, rfl, rfl, rfl, rfl, rfl, rfl, trivial⟩ ?_
 rintro ⟨p98, p102, p106, c100, c104, c108, C101, C105, C109, p111, p115, p119, c113, c117, c121, C114, C118, C122, b123⟩ ⟨o101, o105, o109, o114, o118, o122⟩
 dsimp only
 obtain ⟨x124, e124, H0⟩ := bS H0
 refine kw_nx (cw_seq (sr (oB3 32 ts37 rfl (oB3 8 ts37 rfl (oE (stpU_call (fun i => 33 + i) cf15 (fun w hw => c_l_eqSystem fl w x110.1 x19.1 rfl (OwnC.pass (id := 29) rfl o114 hw) rfl (OwnC.pass (id := 30) rfl o118 hw) rfl (OwnD.pass (id := 31) rfl o122 hw) rfl (OwnC.pass (id := 5) rfl o23 hw) rfl (OwnC.pass (id := 6) rfl o27 hw) rfl (OwnD.pass (id := 7) rfl o31 hw) x124 e124) (yB rfl rfl)) rfl ?_)))))
 rintro _ _ ⟨_, ⟨rfl, rfl⟩, rfl⟩
 obtain ⟨y125, ey125, H0⟩ := bS H0
 refine oK rfl (oM rfl (ow_cutY 4 132 y125 ?_ ?_))
 ·rcases Bool.eq_false_or_eq_true (!x124) with hy125 | hy125
  ·have ey125 := cond_t ey125 hy125
   refine oO rfl hy125 rfl (oO rfl hy125 rfl (oO rfl hy125 rfl (oD (stp_pick_t rfl hy125 rfl) rfl ?_)))
   obtain rfl := sI ey125
   exact ow_nil (jy 4 0)
  have ey125 := cond_f ey125 hy125
  refine oG rfl hy125 (mv rfl) rfl (oG rfl hy125 (mv rfl) rfl (oG rfl hy125 (stp_neq rfl rfl) rfl (oD (stp_pick_f rfl hy125 rfl) rfl ?_)))
  obtain rfl := sI ey125
  exact ow_nil (jy 4 0)
 obtain ⟨y126, ey126, H0⟩ := bS H0
 refine oM rfl (ow_cutY 4 137 y126 ?_ ?_)
 ·rcases Bool.eq_false_or_eq_true y125 with hy126 | hy126
  ·have ey126 := cond_t ey126 hy126
   refine oO rfl hy126 rfl (oO rfl hy126 rfl (oO rfl hy126 rfl (oD (stp_pick_t rfl hy126 rfl) rfl ?_)))
   obtain rfl := sI ey126
   exact ow_nil (jy 4 0)
  have ey126 := cond_f ey126 hy126
  refine oG rfl hy126 (mv rfl) rfl (oG rfl hy126 (mv rfl) rfl (oG rfl hy126 (stp_neq rfl rfl) rfl (oD (stp_pick_f rfl hy126 rfl) rfl ?_)))
  obtain rfl := sI ey126
  exact ow_nil (jy 4 0)
 obtain ⟨y127, ey127, H0⟩ := bS H0
 refine oM rfl (ow_cutY 4 142 y127 ?_ ?_)
 ·rcases Bool.eq_false_or_eq_true y126 with hy127 | hy127
  ·have ey127 := cond_t ey127 hy127
   refine oO rfl hy127 rfl (oO rfl hy127 rfl (oO rfl hy127 rfl (oD (stp_pick_t rfl hy127 rfl) rfl ?_)))
   obtain rfl := sI ey127
   exact ow_nil (jy 4 0)
  have ey127 := cond_f ey127 hy127
  refine oG rfl hy127 (mv rfl) rfl (oG rfl hy127 (mv rfl) rfl (oG rfl hy127 (stp_neqB Tryd.underlying4 rfl rfl) rfl (oD (stp_pick_f rfl hy127 rfl) rfl ?_)))
  obtain rfl := sI ey127
  exact ow_nil (jy 4 0)
 refine ow_nil (kw_nx (cw_cond rfl (fun h128 => ?_) (fun h128 => ?_)))
 ·have H0 := cond_t H0 h128
  refine sr (oS rfl (nn (cw_ret (kw_nx_ret ?_))))
  obtain rfl := sI H0
  exact kr Tryd.results3 (rT rfl) [] ⟨rfl, rfl⟩
 have H0 := cond_f H0 h128
 refine cw_skip (kw_nx (sr (oS rfl (nn (sr (oB3 16 ts37 rfl (oM rfl (oE (stpU_call (fun i => 33 + i) cf17 (fun w hw => c_l_heldSystem fl w (⟨(⟨x90.2.1, x90.2.2.1⟩ : T), x90.2.2.2⟩ : Sy) 1 (by simp [hl91]) (OwnC.pass (id := 13) rfl o91 hw) (by simp [hl92]) (OwnC.pass (id := 14) rfl o92 hw) (by simp [hl93]) (OwnD.pass (id := 15) rfl o93 hw) x94 e94) (yB rfl rfl)) rfl ?_))))))))
 rintro _ _ ⟨_, ⟨rfl, rfl⟩, rfl⟩
 refine oS rfl (nn (cw_seq (sr (oM rfl (oW rfl (nn (cw_cond rfl (fun h129 => ?_) (fun h129 => ?_))))))))
 ·have H0 := cond_t H0 h129
  refine sr (oS rfl (nn (cw_ret (kw_nx_ret ?_))))
  obtain rfl := sI H0
  exact kr Tryd.results3 (rT rfl) [] ⟨rfl, rfl⟩
 have H0 := cond_f H0 h129
 refine cw_skip (kw_nx (cw_seq (sr (oM rfl (oM rfl (oU rfl (nn (cw_cond rfl (fun h130 => ?_) (fun h130 => ?_)))))))))
 ·have H0 := cond_t H0 h130
  refine sr (oS rfl (nn (cw_ret (kw_nx_ret ?_))))
  obtain rfl := sI H0
  exact kr Tryd.results3 (rT rfl) [] ⟨rfl, rfl⟩
 have H0 := cond_f H0 h130
 refine cw_skip (kw_nx (sr (oS rfl (nn (cw_ret ?_)))))
 obtain rfl := sI H0
 exact kr Tryd.results3 (rT rfl) [] ⟨rfl, rfl⟩
end Go.Proofs.YtfnliecmagnkdabDoor
