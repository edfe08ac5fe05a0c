/- The walks: functions of the program return what their pure functions say. Printed by a program (gen.py). -/
import Derived.Test.YtfnliecmagnkdabDoorBp
import Derived.Test.YtfnliecmagnkdabDoorBt
import Derived.Test.YtfnliecmagnkdabDoorMan
import Derived.Test.YtfnliecmagnkdabDoorMap
import Derived.Test.YtfnliecmagnkdabDoorCpy
import Derived.Test.YtfnliecmagnkdabDoorClr
import Derived.Test.YtfnliecmagnkdabDoorDp
import Derived.Test.YtfnliecmagnkdabDoorSrt
import Derived.Test.YtfnliecmagnkdabDoorE8
import Derived.Test.YtfnliecmagnkdabDoorBwab
import Derived.Test.YtfnliecmagnkdabDoorBwac
set_option linter.unusedSimpArgs false
set_option linter.unusedVariables false
set_option linter.unusedSectionVars false
namespace Go.Proofs.YtfnliecmagnkdabDoor
open Go.RowKit
set_option maxHeartbeats 4000000
set_option maxRecDepth 20000
variable {p0_0 p0_1 p0_2 : Option Addr} {n0_0 n0_1 n0_2 : Nat} {c0_0 c0_1 c0_2 : Nat}
theorem c_s_LookCpu (fl : Nat) (w : World) (a0 : Sy) (a1 : Int) (a2 : K) (hn0_0 : n0_0 = (a0.t.b).length) (hr0_0 : RO w (hkeys []) (RdL p0_0 c0_0 a0.t.b)) (hn0_1 : n0_1 = (a0.t.f).length) (hr0_1 : RO w (hkeys []) (RdL p0_1 c0_1 a0.t.f)) (hn0_2 : n0_2 = (a0.c).length) (hr0_2 : ROD w (hkeys []) p0_2 c0_2 a0.c) (r : Sy × Int × Int × Bool) (H0 : s_LookCpu fl a0 a1 a2 = some r) :
  Ct Tryd.prog 11 [.agg #[.slice p0_0 n0_0 c0_0, .slice p0_1 n0_1 c0_1, .slice p0_2 n0_2 c0_2], .int .i64 a1, .agg #[.int .i64 a2.s, .int .i64 a2.p]] w [] (fun rv h' => ∃ (x0 : Option Addr) (y0 z0 : Nat) (C0 : Res) (x1 : Option Addr) (y1 z1 : Nat) (C1 : Res) (x2 : Option Addr) (y2 z2 : Nat) (C2 : Res), rv = .tuple #[.agg #[.slice x0 y0 z0, .slice x1 y1 z1, .slice x2 y2 z2], .int .i64 r.2.1, .int .i64 r.2.2.1, .bool r.2.2.2] ∧ h' = [(0, C0), (1, C1), (2, C2)] ∧ y0 = (r.1.t.b).length ∧ OwnC 3 x0 z0 r.1.t.b C0 ∧ y1 = (r.1.t.f).length ∧ OwnC 71 x1 z1 r.1.t.f C1 ∧ y2 = (r.1.c).length ∧ OwnD 53 55 x2 z2 r.1.c C2) := by
 subst hn0_0 hn0_1 hn0_2
 unfold s_LookCpu at H0
 refine ct_of_cw Tryd.func11 rfl Tryd.ntmps11 rfl (Sat.refl _ _) ?_
 refine sr (oE (stpU_box 0 rfl rfl) rfl ?_)
 rintro _ _ ⟨b1, rfl, rfl⟩
 refine oE (stpU_box 1 rfl rfl) rfl ?_
 rintro _ _ ⟨b2, rfl, rfl⟩
 refine oE (stpU_alloc 2 tz37 rfl) rfl ?_
 rintro _ _ ⟨b3, rfl, rfl⟩
 obtain ⟨x4, e4, H0⟩ := bS H0
 refine oS rfl (oS rfl (oS rfl (nn (cw_seq (sr (oB3 0 ts37 rfl (oM rfl (oE (stpU_call (fun i => 3 + i) cf37 (fun w hw => c_s_l8Right fl w a0 a1 rfl (RO.pass hr0_0 hw) rfl (RO.pass hr0_1 hw) rfl (ROD.pass hr0_2 hw) x4 e4) (yB rfl rfl)) rfl ?_))))))))
 rintro _ _ ⟨_, ⟨rfl, rfl⟩, rfl⟩
 obtain ⟨y5, ey5, H0⟩ := bS H0
 refine oK rfl (oM rfl (ow_cutY 4 24 y5 ?_ ?_))
 ·rcases Bool.eq_false_or_eq_true (!x4) with hy5 | hy5
  ·have ey5 := cond_t ey5 hy5
   refine oO rfl hy5 rfl (oO rfl hy5 rfl (oO rfl hy5 rfl (oD (stp_pick_t rfl hy5 rfl) rfl ?_)))
   obtain rfl := sI ey5
   exact ow_nil (jy 4 0)
  have ey5 := cond_f ey5 hy5
  obtain ⟨x6, e6, ey5⟩ := bS ey5
  refine oG rfl hy5 (stp_loadN (us := [_, _]) ts41 rfl (Cells.box (id := 1) rfl 2 rfl)) rfl (ow_eff (.some rfl hy5) (stpU_call (fun i => 3 + i) cf38 (fun w hw => c_s_KeyValid fl w a2 x6 e6) (yA rfl)) rfl ?_)
  rintro _ _ ⟨_, ⟨rfl, rfl⟩, rfl⟩
  refine oG rfl hy5 (stp_not rfl) rfl (oD (stp_pick_f rfl hy5 rfl) rfl ?_)
  obtain rfl := sI ey5
  exact ow_nil (jy 4 0)
 refine ow_nil (kw_nx (cw_cond rfl (fun h7 => ?_) (fun h7 => ?_)))
 ·have H0 := cond_t H0 h7
  refine sr (oD (stp_build (cs := #[.slice none 0 0, .slice none 0 0, .slice none 0 0]) sevp_nil bt37_0) rfl (oC3 2 ts37 rfl rfl (oS rfl (oS rfl (oS rfl (nn (cw_ret (kw_nx_ret (kw_addNil 3 (kw_addNil 4 (kw_addNil 5 ?_)))))))))))
  obtain rfl := sI H0
  exact kr Tryd.results11 (.cons (.cellN (us := [_, _, _]) ts37 rfl (Cells.box (id := 2) rfl 3 rfl)) (.cons (.tmp rfl) (.cons (.tmp rfl) (rT rfl)))) [3, 4, 5] ⟨_, _, _, _, _, _, _, _, _, _, _, _, rfl, rfl, rfl, (OwnC.nil _ _), rfl, (OwnC.nil _ _), rfl, (OwnD.nil _ _ _)⟩
 have H0 := cond_f H0 h7
 obtain ⟨x8, e8, H0⟩ := bS H0
 refine cw_skip (kw_nx (sr (oB3 0 ts37 rfl (oE (stpU_call (fun i => 6 + i) cf39 (fun w hw => c_s_l8Copy fl w a0 rfl (RO.pass hr0_0 hw) rfl (RO.pass hr0_1 hw) rfl (ROD.pass hr0_2 hw) x8 e8) (yA rfl)) rfl ?_))))
 rintro _ _ ⟨_, ⟨p9, _, c11, C12, p13, _, c15, C16, p17, _, c19, C20, rfl, rfl, rfl, o12, rfl, o16, rfl, o20⟩, rfl⟩
 refine oE (stpU_alloc 9 tz37 rfl) rfl ?_
 rintro _ _ ⟨b21, rfl, rfl⟩
 obtain ⟨x22, e22, H0⟩ := bS H0
 refine oC3 9 ts37 rfl rfl (nn (cw_seq ?_))
 obtain ⟨u23, p24, n25, c26, p27, n28, c29, hw23, hl23, hx23, rfl, hr23, rfl, hs23⟩ := ROD.get hr0_2 e22
 obtain ⟨x30, e30, H0⟩ := bS H0
 refine rdq g_mixed [1, 3, 5] [0, 1] { dst := dS [29, 30, 31, 32, 33, 34, 35, 36, 12], pre := gA [] [[], [0], [], [0, 1, 2], rn 0 4, rn 0 5, [], rn 0 7, rn 0 8], ids := fun _ => [], rs := rL [[(3, 0)], [(28, 1)], [(1, 0)], [(29, 2), (30, 3)], [(31, 4)], [(32, 5)], [(5, 0)], [(33, 6), (34, 7)], [(35, 8)]], rh := rL [[], [(0, 0)], [], [], [], [], [(1, 0)]], V := fun i g => gA undef [.pointer (some ⟨b1, 2, none⟩), .slice p0_2 ((a0.c).length) c0_2, .int .i64 a1, .pointer (some ⟨eB p0_2, eO p0_2 + Int.toNat a1 * Enc.sz CpS + 0, none⟩), .pointer (some ⟨eB p0_2, eO p0_2 + Int.toNat a1 * Enc.sz CpS + 0, none⟩), .slice p24 ((x22.n).length) c26, .agg #[.int .i64 a2.s, .int .i64 a2.p], .int .i64 x30, .int .i64 x30] i, U := fun _ _ => [], Φ := fun _ _ => True } ?_ ?_
 ·refine ⟨lc rfl rfl fun hs hh => stp_fieldAddr (j := 2) Tryd.underlying37 rfl ts35 rfl (sv hs 3 rfl) rfl, lc rfl rfl fun hs hh => stp_load1 ts35 (sv hs 28 rfl) (Cells.box (id := 0) (hh.get 0 _ rfl) 1 rfl), lM, lc rfl rfl fun hs hh => stp_indexAddr Tryd.underlying35 ts53 (by decide) (sv hs 29 rfl) hl23 (sv hs 30 rfl) (Rdb.ro hw23) hx23, lc rfl rfl fun hs hh => stp_fieldAddr (j := 0) Tryd.underlying53 rfl ts51 rfl (sv hs 31 rfl) rfl, lc rfl rfl fun hs hh => stp_load1 ts51 (sv hs 32 rfl) (Cells.el (Rdb.ro hw23) (by decide) hx23 0 1 rfl), lc rfl rfl fun hs hh => stp_loadN (us := [_, _]) ts41 (sv hs 5 rfl) (Cells.box (id := 1) (hh.get 1 _ rfl) 2 rfl), ?_, lS, trivial⟩
  refine le rfl rfl (fun g hΦ s h hs hh => (stpU_call (fun i => 10 + i) cf40 (fun w hw => c_s_l8Find fl w x22.n a2 rfl (RO.pass hr23 hw) x30 e30) (yB (sv hs 33 rfl) (sv hs 34 rfl)))) ?_
  rintro g _ _ ⟨_, ⟨rfl, rfl⟩, rfl⟩
  exact ⟨⟨[], [], []⟩, trivial, .inr rfl, rfl⟩
 intro g hΦ
 refine KW.sub (s' := [(1, .int .i64 a1), (3, .pointer (some ⟨b1, 0, none⟩)), (5, .pointer (some ⟨b2, 0, none⟩)), (6, .pointer (some ⟨b3, 0, none⟩)), (10, .pointer (some ⟨b21, 0, none⟩)), (11, .int .i64 x30)]) (h' := [(0, [(b1, .cells #[.slice p0_0 ((a0.t.b).length) c0_0, .slice p0_1 ((a0.t.f).length) c0_1, .slice p0_2 ((a0.c).length) c0_2] 37 (0, 0))]), (1, [(b2, .cells #[.int .i64 a2.s, .int .i64 a2.p] 41 (0, 0))]), (2, [(b3, .cells #[.slice none 0 0, .slice none 0 0, .slice none 0 0] 37 (0, 0))]), (6, C12), (7, C16), (8, C20), (9, [(b21, .cells #[.slice p9 ((x8.t.b).length) c11, .slice p13 ((x8.t.f).length) c15, .slice p17 ((x8.c).length) c19] 37 (0, 0))])]) ?_ ⟨rfl, rfl, rfl, rfl, rfl, rfl, trivial⟩ ⟨rfl, rfl, rfl, rfl, rfl, rfl, rfl, trivial⟩
 refine kw_nx (cw_seq (sr (oM rfl (oI rfl (nn (cw_cond rfl (fun h31 => ?_) (fun h31 => ?_)))))))
 ·have H0 := cond_t H0 h31
  obtain ⟨x32, e32, H0⟩ := bS H0
  refine cw_seq (rdq g_mixed [1, 3, 6, 10, 11] [0, 2, 9] { dst := dS [39, 40, 41, 42, 43, 44, 45, 46, 47, 48, 49, 0, 8, 9, 10], pre := gA [] [[], [], [1], [], [1, 2, 3], rn 1 4, rn 1 5, [], rn 1 7, rn 1 8, rn 1 9, [0], rn 0 12, rn 0 13, rn 0 14], ids := fun i => match i with | 11 => [2] | _ => [], rs := rL [[(10, 0)], [(3, 0)], [(39, 2)], [(1, 0)], [(40, 3), (41, 4)], [(42, 5)], [(43, 6)], [(11, 0)], [(44, 7), (45, 8)], [(46, 9)], [(47, 10)], [(6, 0), (38, 1)], [(48, 11)], [], []], rh := rL [[(9, 0)], [], [(0, 0)], [], [], [], [], [], [], [], [], [(2, 0)]], V := fun i g => gA undef [.agg #[.slice p9 ((x8.t.b).length) c11, .slice p13 ((x8.t.f).length) c15, .slice p17 ((x8.c).length) c19], .pointer (some ⟨b1, 2, none⟩), .slice p0_2 ((a0.c).length) c0_2, .int .i64 a1, .pointer (some ⟨eB p0_2, eO p0_2 + Int.toNat a1 * Enc.sz CpS + 0, none⟩), .pointer (some ⟨eB p0_2, eO p0_2 + Int.toNat a1 * Enc.sz CpS + 0, none⟩), .slice p24 ((x22.n).length) c26, .int .i64 x30, .pointer (some ⟨eB p24, eO p24 + Int.toNat x30 * Enc.sz Nt + 0, none⟩), .pointer (some ⟨eB p24, eO p24 + Int.toNat x30 * Enc.sz Nt + 2, none⟩), .int .i64 x32.fr, undef, .int .i64 x32.fr, .int .i64 1, .bool true] i, U := fun i g => match i with | 11 => [(2, [(b3, .cells #[.slice p9 ((x8.t.b).length) c11, .slice p13 ((x8.t.f).length) c15, .slice p17 ((x8.c).length) c19] 37 (0, 0))])] | _ => [], Φ := fun _ _ => True } ?_ ?_)
  ·refine ⟨lc rfl rfl fun hs hh => stp_loadN (us := [_, _, _]) ts37 (sv hs 10 rfl) (Cells.box (id := 9) (hh.get 9 _ rfl) 3 rfl), lc rfl rfl fun hs hh => stp_fieldAddr (j := 2) Tryd.underlying37 rfl ts35 rfl (sv hs 3 rfl) rfl, lc rfl rfl fun hs hh => stp_load1 ts35 (sv hs 39 rfl) (Cells.box (id := 0) (hh.get 0 _ rfl) 1 rfl), lM, lc rfl rfl fun hs hh => stp_indexAddr Tryd.underlying35 ts53 (by decide) (sv hs 40 rfl) hl23 (sv hs 41 rfl) (Rdb.ro hw23) hx23, lc rfl rfl fun hs hh => stp_fieldAddr (j := 0) Tryd.underlying53 rfl ts51 rfl (sv hs 42 rfl) rfl, lc rfl rfl fun hs hh => stp_load1 ts51 (sv hs 43 rfl) (Cells.el (Rdb.ro hw23) (by decide) hx23 0 1 rfl), lM, lc rfl rfl fun hs hh => stp_indexAddr Tryd.underlying51 ts55 (by decide) (sv hs 44 rfl) rfl (sv hs 45 rfl) (Rdb.ro hr23) e32, lc rfl rfl fun hs hh => stp_fieldAddr (j := 2) Tryd.underlying55 rfl ts3 rfl (sv hs 46 rfl) rfl, lc rfl rfl fun hs hh => stp_load1 ts3 (sv hs 47 rfl) (Cells.el (Rdb.ro hr23) (by decide) e32 2 1 rfl), ?_, lS, lc rfl rfl fun hs hh => stp_assign rfl, lc rfl rfl fun hs hh => stp_assign rfl, trivial⟩
   refine le rfl rfl (fun g hΦ s h hs hh => (stpU_store (id := 2) (cs' := [.slice p9 ((x8.t.b).length) c11, .slice p13 ((x8.t.f).length) c15, .slice p17 ((x8.c).length) c19]) ts37 (sv hs 6 rfl) (sv hs 38 rfl) (hh.get 2 _ rfl) rfl rfl rfl rfl)) ?_
   rintro g _ _ rfl
   exact ⟨⟨[], [], []⟩, trivial, .inl rfl, rfl⟩
  intro g hΦ
  refine KW.sub (s' := [(6, .pointer (some ⟨b3, 0, none⟩)), (7, .int .i64 x32.fr), (8, .int .i64 1), (9, .bool true)]) (h' := [(2, [(b3, .cells #[.slice p9 ((x8.t.b).length) c11, .slice p13 ((x8.t.f).length) c15, .slice p17 ((x8.c).length) c19] 37 (0, 0))]), (6, C12), (7, C16), (8, C20)]) ?_ ⟨rfl, rfl, rfl, rfl, trivial⟩ ⟨rfl, rfl, rfl, rfl, trivial⟩
  refine kw_nx (cw_ret (kw_nx_ret ?_))
  obtain rfl := sI H0
  exact kr Tryd.results11 (.cons (.cellN (us := [_, _, _]) ts37 rfl (Cells.box (id := 2) rfl 3 rfl)) (.cons (.tmp rfl) (.cons (.tmp rfl) (rT rfl)))) [6, 7, 8] ⟨_, _, _, _, _, _, _, _, _, _, _, _, rfl, rfl, rfl, o12, rfl, o16, rfl, o20⟩
 have H0 := cond_f H0 h31
 obtain ⟨x33, e33, H0⟩ := bS H0
 refine cw_skip (kw_nx (sr (oA 0 Tryd.underlying37 rfl ts34 rfl (oB2 0 ts34 rfl (oB2 1 ts41 rfl (oE (stpU_call (fun i => 10 + i) cf41 (fun w hw => c_s_l3Find fl w a0.t a2 rfl (RO.pass hr0_0 hw) rfl (RO.pass hr0_1 hw) x33 e33) (yB rfl rfl)) rfl ?_))))))
 rintro _ _ ⟨_, ⟨rfl, rfl⟩, rfl⟩
 refine oM rfl (oT rfl (oT rfl (oS rfl (oS rfl (nn (cw_seq (sr (oM rfl (oW rfl (nn (cw_cond rfl (fun h34 => ?_) (fun h34 => ?_))))))))))))
 ·have H0 := cond_t H0 h34
  refine sr (oB3 9 ts37 rfl (oC3 2 ts37 rfl rfl (oS rfl (oS rfl (oS rfl (nn (cw_ret (kw_nx_ret ?_))))))))
  obtain rfl := sI H0
  exact kr Tryd.results11 (.cons (.cellN (us := [_, _, _]) ts37 rfl (Cells.box (id := 2) rfl 3 rfl)) (.cons (.tmp rfl) (.cons (.tmp rfl) (rT rfl)))) [6, 7, 8] ⟨_, _, _, _, _, _, _, _, _, _, _, _, rfl, rfl, rfl, o12, rfl, o16, rfl, o20⟩
 have H0 := cond_f H0 h34
 obtain ⟨x35, e35, H0⟩ := bS H0
 refine cw_skip (kw_nx (sr (oA 2 Tryd.underlying37 rfl ts35 rfl (oL 9 ts35 rfl (oM rfl (ow_open 8 10 11 12 rfl o20 e35 ?_))))))
 rintro u36 p37 n38 c39 p40 n41 c42 C43 C44 C45 C46 o43 hb44 hx36 rfl o45 rfl o46
 refine oD (stp_indexAddr Tryd.underlying35 ts53 (by decide) rfl (Bun.len hb44) rfl (Rdb.own (id := 8) rfl o43) hx36) rfl (oD (stp_loadN (us := [_, _]) ts53 rfl (Cells.el (Rdb.own (id := 8) rfl o43) (by decide) hx36 0 2 rfl)) rfl (oE (stpU_alloc 13 tz53 rfl) rfl ?_))
 rintro _ _ ⟨b47, rfl, rfl⟩
 refine oC2 13 ts53 rfl rfl (nn (cw_seq (sr (oA 0 Tryd.underlying53 rfl ts51 rfl (oL 13 ts51 rfl (oD (stp_len Tryd.underlying51 rfl) rfl (oQ rfl (nn (cw_cond rfl (fun h48 => ?_) (fun h48 => ?_))))))))))
 ·have H0 := cond_t H0 h48
  obtain ⟨x49, e49, H0⟩ := bS H0
  refine sr (oA 0 Tryd.underlying53 rfl ts51 rfl (oL 13 ts51 rfl (oD (stp_indexAddr Tryd.underlying51 ts55 (by decide) rfl rfl rfl (Rdb.own (id := 11) rfl o45) e49) rfl (oA 0 Tryd.underlying55 rfl ts41 rfl (oD (stp_loadN (us := [_, _]) ts41 rfl (Cells.el (Rdb.own (id := 11) rfl o45) (by decide) e49 0 2 rfl)) rfl (oE (stpU_alloc 14 tz41 rfl) rfl ?_))))))
  rintro _ _ ⟨b50, rfl, rfl⟩
  obtain ⟨x51, e51, H0⟩ := bS H0
  refine oC2 14 ts41 rfl rfl (nn (sr (oA 0 Tryd.underlying53 rfl ts51 rfl (oL 13 ts51 rfl (oB2 14 ts41 rfl (oE (stpU_call (fun i => 15 + i) cf42 (fun w hw => c_s_l8Without fl w x35.n x49.k rfl (OwnC.pass (id := 11) rfl o45 hw) x51 e51) (yB rfl rfl)) rfl ?_))))))
  rintro _ _ ⟨_, ⟨p52, _, c54, C55, rfl, rfl, rfl, o55⟩, rfl⟩
  obtain ⟨x56, e56, H0⟩ := bS H0
  refine oA 0 Tryd.underlying53 rfl ts51 rfl (oC2 13 ts51 rfl rfl (nn (cw_region (oA 1 Tryd.underlying53 rfl ts51 rfl (oL 13 ts51 rfl (oB2 14 ts41 rfl (oE (stpU_call (fun i => 16 + i) cf42 (fun w hw => c_s_l8Without fl w x35.w x49.k rfl (OwnC.pass (id := 12) rfl o46 hw) x56 e56) (yB rfl rfl)) rfl ?_)))))))
  rintro _ _ ⟨_, ⟨p57, _, c59, C60, rfl, rfl, rfl, o60⟩, rfl⟩
  refine oA 1 Tryd.underlying53 rfl ts51 rfl (oC2 13 ts51 rfl rfl (nn (sr (oA 0 Tryd.underlying53 rfl ts51 rfl (oL 13 ts51 rfl (oB2 1 ts41 rfl (oM rfl (oD (stp_build (cs := #[.int .i64 a2.s, .int .i64 a2.p, .int .i64 x33.1]) (sevp_cons rfl (sevp_cons rfl sevp_nil)) bt55_4) rfl (oE (stpU_lit (sz := 3) (l := [(⟨a2, x33.1⟩ : Nt)]) [.agg #[.int .i64 a2.s, .int .i64 a2.p, .int .i64 x33.1]] sl51 17 (sevp_cons rfl sevp_nil) rfl rfl rfl rfl rfl rfl rfl rfl rfl) rfl ?_)))))))))
  rintro _ _ ⟨p61, C62, rfl, rfl, o62⟩
  obtain ⟨x63, e63, H0⟩ := bS H0
  refine oE (stpU_append sl51 rfl (id := 15) rfl rfl rfl (by simp) rfl o55 (Rdb.own (id := 17) rfl o62) e63) rfl ?_
  rintro _ _ ⟨p64, c65, C66, rfl, rfl, o66⟩
  refine oA 0 Tryd.underlying53 rfl ts51 rfl (oC2 13 ts51 rfl rfl (nn (sr (oA 2 Tryd.underlying37 rfl ts35 rfl (oL 9 ts35 rfl (oM rfl (oB2 13 ts53 rfl (oD (stp_indexAddr Tryd.underlying35 ts53 (by decide) rfl (Bun.len hb44) rfl (Rdb.own (id := 8) rfl o43) hx36) rfl (oF (stpU_storeEl (id := 8) (i := 0) (⟨p64, (x63).length, c65, p57, (x56).length, c59⟩ : CpS) (by decide) ts53 rfl rfl rfl o43 hx36 rfl rfl rfl rfl) ?_)))))))))
  rintro _ _ ⟨C67, rfl, o67⟩
  refine nn (sr (oB3 9 ts37 rfl (oM rfl (oC3 2 ts37 rfl rfl (oS rfl (oS rfl (oS rfl (nn (cw_ret (kw_shut 8 10 15 16 o67 (Bun.setL (Bun.set hb44 _) _) (idx_some (idx_set hx36)).2.2 (idx_setD e35 (⟨x63, x56⟩ : Cp)) rfl o66 rfl o60 ?_))))))))))
  rintro C68 o68
  obtain rfl := sI H0
  exact kr Tryd.results11 (.cons (.cellN (us := [_, _, _]) ts37 rfl (Cells.box (id := 2) rfl 3 rfl)) (.cons (.tmp rfl) (.cons (.tmp rfl) (rT rfl)))) [6, 7, 8] ⟨_, _, _, _, _, _, _, _, _, _, _, _, rfl, rfl, rfl, o12, rfl, o16, (by simp), o68⟩
 have H0 := cond_f H0 h48
 refine cw_skip (kw_nx (sr (oA 0 Tryd.underlying53 rfl ts51 rfl (oL 13 ts51 rfl (oB2 1 ts41 rfl (oM rfl (oD (stp_build (cs := #[.int .i64 a2.s, .int .i64 a2.p, .int .i64 x33.1]) (sevp_cons rfl (sevp_cons rfl sevp_nil)) bt55_4) rfl (oE (stpU_lit (sz := 3) (l := [(⟨a2, x33.1⟩ : Nt)]) [.agg #[.int .i64 a2.s, .int .i64 a2.p, .int .i64 x33.1]] sl51 18 (sevp_cons rfl sevp_nil) rfl rfl rfl rfl rfl rfl rfl rfl rfl) rfl ?_))))))))
 rintro _ _ ⟨p69, C70, rfl, rfl, o70⟩
 obtain ⟨x71, e71, H0⟩ := bS H0
 refine oE (stpU_append sl51 rfl (id := 11) rfl rfl rfl (by simp) rfl o45 (Rdb.own (id := 18) rfl o70) e71) rfl ?_
 rintro _ _ ⟨p72, c73, C74, rfl, rfl, o74⟩
 refine oA 0 Tryd.underlying53 rfl ts51 rfl (oC2 13 ts51 rfl rfl (nn (sr (oA 2 Tryd.underlying37 rfl ts35 rfl (oL 9 ts35 rfl (oM rfl (oB2 13 ts53 rfl (oD (stp_indexAddr Tryd.underlying35 ts53 (by decide) rfl (Bun.len hb44) rfl (Rdb.own (id := 8) rfl o43) hx36) rfl (oF (stpU_storeEl (id := 8) (i := 0) (⟨p72, (x71).length, c73, p40, (x35.w).length, c42⟩ : CpS) (by decide) ts53 rfl rfl rfl o43 hx36 rfl rfl rfl rfl) ?_)))))))))
 rintro _ _ ⟨C75, rfl, o75⟩
 refine nn (sr (oB3 9 ts37 rfl (oM rfl (oC3 2 ts37 rfl rfl (oS rfl (oS rfl (oS rfl (nn (cw_ret (kw_shut 8 10 11 12 o75 (Bun.setL (Bun.set hb44 _) _) (idx_some (idx_set hx36)).2.2 (idx_setD e35 (⟨x71, x35.w⟩ : Cp)) rfl o74 rfl o46 ?_))))))))))
 rintro C76 o76
 obtain rfl := sI H0
 exact kr Tryd.results11 (.cons (.cellN (us := [_, _, _]) ts37 rfl (Cells.box (id := 2) rfl 3 rfl)) (.cons (.tmp rfl) (.cons (.tmp rfl) (rT rfl)))) [6, 7, 8] ⟨_, _, _, _, _, _, _, _, _, _, _, _, rfl, rfl, rfl, o12, rfl, o16, (by simp), o76⟩
end Go.Proofs.YtfnliecmagnkdabDoor
