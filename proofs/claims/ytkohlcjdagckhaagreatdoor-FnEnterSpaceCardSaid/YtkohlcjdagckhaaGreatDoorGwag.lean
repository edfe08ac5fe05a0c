/- The walks: functions of the program return what their pure functions say. Printed by a program (gen.py). -/
import Derived.Test.YtkohlcjdagckhaaGreatDoorGp
import Derived.Test.YtkohlcjdagckhaaGreatDoorGt
import Derived.Test.YtkohlcjdagckhaaGreatDoorMan
import Derived.Test.YtkohlcjdagckhaaGreatDoorMap
import Derived.Test.YtkohlcjdagckhaaGreatDoorCpy
import Derived.Test.YtkohlcjdagckhaaGreatDoorE8
import Derived.Test.YtkohlcjdagckhaaGreatDoorGwac
import Derived.Test.YtkohlcjdagckhaaGreatDoorGws
set_option linter.unusedSimpArgs false
set_option linter.unusedVariables false
set_option linter.unusedSectionVars false
namespace Go.Proofs.YtkohlcjdagckhaaGreatDoor
open Go.RowKit
set_option maxHeartbeats 4000000
set_option maxRecDepth 20000
variable {p0_0 p0_1 p0_2 p0_3 : Option Addr} {n0_0 n0_1 n0_2 n0_3 : Nat} {c0_0 c0_1 c0_2 c0_3 : Nat}
theorem c_i_TakeTag (fl : Nat) (w : World) (a0 : Tg) (a1 : Int) (hn0_0 : n0_0 = (a0.o).length) (hr0_0 : RO w (hkeys []) (RdL p0_0 c0_0 a0.o)) (r : Tg × Int × Bool × Bool) (H0 : i_TakeTag fl a0 a1 = some r) :
  Ct Tryz.prog 48 [.agg #[.int .i64 a0.c, .int .i64 a0.n, .int .i64 a0.r, .slice p0_0 n0_0 c0_0], .int .i64 a1] w [] (fun rv h' => ∃ (x0 : Option Addr) (y0 z0 : Nat) (C0 : Res), rv = .tuple #[.agg #[.int .i64 r.1.c, .int .i64 r.1.n, .int .i64 r.1.r, .slice x0 y0 z0], .int .i64 r.2.1, .bool r.2.2.1, .bool r.2.2.2] ∧ h' = [(0, C0)] ∧ y0 = (r.1.o).length ∧ OwnC 118 x0 z0 r.1.o C0) := by
 subst hn0_0
 unfold i_TakeTag at H0
 refine ct_of_cw Tryz.func48 rfl Tryz.ntmps48 rfl (Sat.refl _ _) ?_
 refine sr (oE (stpU_box 0 rfl rfl) rfl ?_)
 rintro _ _ ⟨b1, rfl, rfl⟩
 refine oE (stpU_alloc 1 tz32 rfl) rfl ?_
 rintro _ _ ⟨b2, rfl, rfl⟩
 obtain ⟨x3, e3, H0⟩ := bS H0
 refine oS rfl (oS rfl (oS rfl (nn (cw_seq (sr (oB4 0 ts32 rfl (oE (stpU_call (fun i => 2 + i) cf56 (fun w hw => c_i_TagsValid fl w a0 rfl (RO.pass hr0_0 hw) x3 e3) (yA rfl)) rfl ?_)))))))
 rintro _ _ ⟨_, ⟨rfl, rfl⟩, rfl⟩
 obtain ⟨y4, ey4, H0⟩ := bS H0
 refine oK rfl (oM rfl (ow_cutY 4 19 y4 ?_ ?_))
 ·rcases Bool.eq_false_or_eq_true (!x3) with hy4 | hy4
  ·have ey4 := cond_t ey4 hy4
   refine oO rfl hy4 rfl (oO rfl hy4 rfl (oO rfl hy4 rfl (oD (stp_pick_t rfl hy4 rfl) rfl ?_)))
   obtain rfl := sI ey4
   exact ow_nil (jy 4 0)
  have ey4 := cond_f ey4 hy4
  obtain ⟨x5, e5, ey4⟩ := bS ey4
  refine oG rfl hy4 (mv rfl) rfl (ow_eff (.some rfl hy4) (stpU_call (fun i => 2 + i) cf79 (fun w hw => c_i_within fl w a1 16 x5 e5) (yB rfl rfl)) rfl ?_)
  rintro _ _ ⟨_, ⟨rfl, rfl⟩, rfl⟩
  refine oG rfl hy4 (stp_not rfl) rfl (oD (stp_pick_f rfl hy4 rfl) rfl ?_)
  obtain rfl := sI ey4
  exact ow_nil (jy 4 0)
 refine ow_nil (kw_nx (cw_cond rfl (fun h6 => ?_) (fun h6 => ?_)))
 ·have H0 := cond_t H0 h6
  refine sr (oD (stp_build (cs := #[.int .i64 0, .int .i64 0, .int .i64 0, .slice none 0 0]) sevp_nil bt32_4) rfl (oC4 1 ts32 rfl rfl (oS rfl (oS rfl (oS rfl (nn (cw_ret (kw_nx_ret (kw_addNil 2 ?_)))))))))
  obtain rfl := sI H0
  exact kr Tryz.results48 (.cons (.cellN (us := [_, _, _, _]) ts32 rfl (Cells.box (id := 1) rfl 4 rfl)) (.cons (.tmp rfl) (.cons (.tmp rfl) (rT rfl)))) [2] ⟨_, _, _, _, rfl, rfl, rfl, (OwnC.nil _ _)⟩
 have H0 := cond_f H0 h6
 refine cw_skip (kw_nx (sr (oB4 0 ts32 rfl (oE (stpU_alloc 3 tz32 rfl) rfl ?_))))
 rintro _ _ ⟨b7, rfl, rfl⟩
 obtain ⟨x8, e8, H0⟩ := bS H0
 refine oC4 3 ts32 rfl rfl (nn (sr (oA 3 Tryz.underlying32 rfl ts30 rfl (oL 0 ts30 rfl (oE (stpU_call (fun i => 4 + i) cf97 (fun w hw => c_slices_Clone_Own fl w a0.o rfl (RO.pass hr0_0 hw) x8 e8) (yA rfl)) rfl ?_)))))
 rintro _ _ ⟨_, ⟨p9, _, c11, C12, rfl, rfl, rfl, o12⟩, rfl⟩
 refine oE (stpU_call (fun i => i) cf96 (fun w hw => c_clip96 w p9 ((x8).length) c11 (OwnC.len o12).1) (yA rfl)) rfl ?_
 rintro _ _ ⟨_, ⟨rfl, rfl⟩, rfl⟩
 obtain ⟨x13, e13, H0⟩ := bS H0
 refine oA 3 Tryz.underlying32 rfl ts30 rfl (oC4 3 ts30 rfl rfl (nn (cw_seq (sr (oB4 0 ts32 rfl (oM rfl (oE (stpU_call (fun i => 5 + i) cf57 (fun w hw => c_i_Tags_own fl w a0 a1 rfl (RO.pass hr0_0 hw) x13 e13) (yB rfl rfl)) rfl ?_)))))))
 rintro _ _ ⟨_, ⟨rfl, rfl⟩, rfl⟩
 refine oS rfl (nn (sr (oM rfl (oI rfl (nn (cw_cond rfl (fun h14 => ?_) (fun h14 => ?_)))))))
 ·have H0 := cond_t H0 h14
  obtain ⟨x15, e15, H0⟩ := bS H0
  refine cw_seq (rdq g_mixed [2, 4, 8, 9] [0, 1, 3] { dst := dS [33, 34, 35, 36, 37, 38, 39, 0, 6, 7, 8], pre := gA [] [[], [], [1], [], [1, 2, 3], rn 1 4, rn 1 5, [0], rn 0 8, rn 0 9, rn 0 10], ids := gA [] [[], [], [], [], [], [], [], [1]], rs := rL [[(8, 0)], [(2, 0)], [(33, 2)], [(9, 0)], [(34, 3), (35, 4)], [(36, 5)], [(37, 6)], [(4, 0), (32, 1)], [(38, 7)], [], []], rh := rL [[(3, 0)], [], [(0, 0)], [], [], [], [], [(1, 0)]], V := fun i g => gA undef [.agg #[.int .i64 a0.c, .int .i64 a0.n, .int .i64 a0.r, .slice p9 ((x8).length) ((x8).length)], .pointer (some ⟨b1, 3, none⟩), .slice p0_0 ((a0.o).length) c0_0, .int .i64 x13, .pointer (some ⟨eB p0_0, eO p0_0 + Int.toNat x13 * Enc.sz Ow + 0, none⟩), .pointer (some ⟨eB p0_0, eO p0_0 + Int.toNat x13 * Enc.sz Ow + 1, none⟩), .int .i64 x15.tg, undef, .int .i64 x15.tg, .bool false, .bool true] i, U := fun i g => match i with | 7 => [(1, [(b2, .cells #[.int .i64 a0.c, .int .i64 a0.n, .int .i64 a0.r, .slice p9 ((x8).length) ((x8).length)] 32 (0, 0))])] | _ => [], Φ := fun _ _ => True } ?_ ?_)
  ·refine ⟨lc rfl rfl fun hs hh => stp_loadN (us := [_, _, _, _]) ts32 (sv hs 8 rfl) (Cells.box (id := 3) (hh.get 3 _ rfl) 4 rfl), lc rfl rfl fun hs hh => stp_fieldAddr (j := 3) Tryz.underlying32 rfl ts30 rfl (sv hs 2 rfl) rfl, lc rfl rfl fun hs hh => stp_load1 ts30 (sv hs 33 rfl) (Cells.box (id := 0) (hh.get 0 _ rfl) 1 rfl), lM, lc rfl rfl fun hs hh => stp_indexAddr Tryz.underlying30 ts118 (by decide) (sv hs 34 rfl) rfl (sv hs 35 rfl) (Rdb.ro hr0_0) e15, lc rfl rfl fun hs hh => stp_fieldAddr (j := 1) Tryz.underlying118 rfl ts3 rfl (sv hs 36 rfl) rfl, lc rfl rfl fun hs hh => stp_load1 ts3 (sv hs 37 rfl) (Cells.el (Rdb.ro hr0_0) (by decide) e15 1 1 rfl), ?_, lS, lc rfl rfl fun hs hh => stp_assign rfl, lc rfl rfl fun hs hh => stp_assign rfl, trivial⟩
   refine le rfl rfl (fun g hΦ s h hs hh => (stpU_store (id := 1) (cs' := [.int .i64 a0.c, .int .i64 a0.n, .int .i64 a0.r, .slice p9 ((x8).length) ((x8).length)]) ts32 (sv hs 4 rfl) (sv hs 32 rfl) (hh.get 1 _ rfl) rfl rfl rfl rfl)) ?_
   rintro g _ _ rfl
   exact ⟨⟨[], [], []⟩, trivial, .inl rfl, rfl⟩
  intro g hΦ
  refine KW.sub (s' := [(4, .pointer (some ⟨b2, 0, none⟩)), (5, .int .i64 x15.tg), (6, .bool false), (7, .bool true)]) (h' := [(1, [(b2, .cells #[.int .i64 a0.c, .int .i64 a0.n, .int .i64 a0.r, .slice p9 ((x8).length) ((x8).length)] 32 (0, 0))]), (4, C12)]) ?_ ⟨rfl, rfl, rfl, rfl, trivial⟩ ⟨rfl, rfl, trivial⟩
  refine kw_nx (cw_ret (kw_nx_ret ?_))
  obtain rfl := sI H0
  exact kr Tryz.results48 (.cons (.cellN (us := [_, _, _, _]) ts32 rfl (Cells.box (id := 1) rfl 4 rfl)) (.cons (.tmp rfl) (.cons (.tmp rfl) (rT rfl)))) [4] ⟨_, _, _, _, rfl, rfl, rfl, (OwnC.clip o12)⟩
 have H0 := cond_f H0 h14
 refine cw_skip (kw_nx (sr (oA 1 Tryz.underlying32 rfl ts3 rfl (oL 0 ts3 rfl (oA 0 Tryz.underlying32 rfl ts3 rfl (oL 0 ts3 rfl (oQ rfl (oS rfl (nn (cw_seq (sr (oM rfl (nn ?_)))))))))))))
 refine cw_cond rfl (fun h16 => ?_) (fun h16 => ?_)
 ·have H0 := cond_t H0 h16
  refine cw_seq (sr (oA 2 Tryz.underlying32 rfl ts3 rfl (oL 0 ts3 rfl (oQ rfl (nn (cw_cond rfl (fun h17 => ?_) (fun h17 => ?_)))))))
  ·have H0 := cond_t H0 h17
   refine sr (oD (stp_build (cs := #[.int .i64 0, .int .i64 0, .int .i64 0, .slice none 0 0]) sevp_nil bt32_4) rfl (oC4 1 ts32 rfl rfl (oS rfl (oS rfl (oS rfl (nn (cw_ret (kw_nx_ret (kw_nx_ret (kw_addNil 5 ?_))))))))))
   obtain rfl := sI H0
   exact kr Tryz.results48 (.cons (.cellN (us := [_, _, _, _]) ts32 rfl (Cells.box (id := 1) rfl 4 rfl)) (.cons (.tmp rfl) (.cons (.tmp rfl) (rT rfl)))) [5] ⟨_, _, _, _, rfl, rfl, rfl, (OwnC.nil _ _)⟩
  have H0 := cond_f H0 h17
  obtain ⟨x18, e18, H0⟩ := bS H0
  refine cw_skip (kw_nx (cw_region (oA 0 Tryz.underlying32 rfl ts3 rfl (oL 0 ts3 rfl (oA 2 Tryz.underlying32 rfl ts3 rfl (oL 0 ts3 rfl (oP e18 rfl (oD (stp_build (cs := #[.int .i64 a0.c, .int .i64 0, .int .i64 x18, .slice none 0 0]) (sevp_cons rfl (sevp_cons rfl sevp_nil)) bt32_19) rfl (oC4 3 ts32 rfl rfl (nn (sr (oA 1 Tryz.underlying32 rfl ts3 rfl (oL 3 ts3 rfl ?_)))))))))))))
  refine oS rfl (nn (sr (oA 3 Tryz.underlying32 rfl ts30 rfl (oL 3 ts30 rfl (oM rfl (oM rfl (oD (stp_build (cs := #[.int .i64 a1, .int .i64 0]) (sevp_cons rfl (sevp_cons rfl sevp_nil)) bt118_9) rfl (oE (stpU_lit (sz := 2) (l := [(⟨a1, 0⟩ : Ow)]) [.agg #[.int .i64 a1, .int .i64 0]] sl30 6 (sevp_cons rfl sevp_nil) rfl rfl rfl rfl rfl rfl rfl rfl rfl) rfl ?_))))))))
  rintro _ _ ⟨p19, C20, rfl, rfl, o20⟩
  obtain ⟨x21, e21, H0⟩ := bS H0
  refine ow_addNil 7 (oE (stpU_append sl30 rfl (id := 7) rfl rfl rfl (by simp) rfl (OwnC.nil 118 none) (Rdb.own (id := 6) rfl o20) e21) rfl ?_)
  rintro _ _ ⟨p22, c23, C24, rfl, rfl, o24⟩
  refine oE (stpU_call (fun i => i) cf96 (fun w hw => c_clip96 w p22 ((x21).length) c23 (OwnC.len o24).1) (yA rfl)) rfl ?_
  rintro _ _ ⟨_, ⟨rfl, rfl⟩, rfl⟩
  obtain ⟨x25, e25, H0⟩ := bS H0
  refine oA 3 Tryz.underlying32 rfl ts30 rfl (oC4 3 ts30 rfl rfl (nn (sr (oA 1 Tryz.underlying32 rfl ts3 rfl (oL 3 ts3 rfl (oP e25 rfl (oA 1 Tryz.underlying32 rfl ts3 rfl (oC4 3 ts3 rfl rfl (nn (sr (oB4 3 ts32 rfl (oM rfl (oM rfl ?_)))))))))))))
  refine oC4 1 ts32 rfl rfl (oS rfl (oS rfl (oS rfl (nn (cw_ret ?_)))))
  obtain rfl := sI H0
  exact kr Tryz.results48 (.cons (.cellN (us := [_, _, _, _]) ts32 rfl (Cells.box (id := 1) rfl 4 rfl)) (.cons (.tmp rfl) (.cons (.tmp rfl) (rT rfl)))) [7] ⟨_, _, _, _, rfl, rfl, rfl, (OwnC.clip o24)⟩
 have H0 := cond_f H0 h16
 refine cw_skip (kw_nx (sr (oA 1 Tryz.underlying32 rfl ts3 rfl (oL 3 ts3 rfl (oS rfl (nn (sr (oA 3 Tryz.underlying32 rfl ts30 rfl (oL 3 ts30 rfl (oM rfl (oM rfl (oD (stp_build (cs := #[.int .i64 a1, .int .i64 a0.n]) (sevp_cons rfl (sevp_cons rfl sevp_nil)) bt118_9) rfl (oE (stpU_lit (sz := 2) (l := [(⟨a1, a0.n⟩ : Ow)]) [.agg #[.int .i64 a1, .int .i64 a0.n]] sl30 8 (sevp_cons rfl sevp_nil) rfl rfl rfl rfl rfl rfl rfl rfl rfl) rfl ?_)))))))))))))
 rintro _ _ ⟨p26, C27, rfl, rfl, o27⟩
 obtain ⟨x28, e28, H0⟩ := bS H0
 refine oE (stpU_append sl30 rfl (id := 4) rfl rfl rfl (by simp) rfl (OwnC.clip o12) (Rdb.own (id := 8) rfl o27) e28) rfl ?_
 rintro _ _ ⟨p29, c30, C31, rfl, rfl, o31⟩
 refine oE (stpU_call (fun i => i) cf96 (fun w hw => c_clip96 w p29 ((x28).length) c30 (OwnC.len o31).1) (yA rfl)) rfl ?_
 rintro _ _ ⟨_, ⟨rfl, rfl⟩, rfl⟩
 obtain ⟨x32, e32, H0⟩ := bS H0
 refine oA 3 Tryz.underlying32 rfl ts30 rfl (oC4 3 ts30 rfl rfl (nn (sr (oA 1 Tryz.underlying32 rfl ts3 rfl (oL 3 ts3 rfl (oP e32 rfl (oA 1 Tryz.underlying32 rfl ts3 rfl (oC4 3 ts3 rfl rfl (nn (sr (oB4 3 ts32 rfl (oM rfl (oM rfl ?_)))))))))))))
 refine oC4 1 ts32 rfl rfl (oS rfl (oS rfl (oS rfl (nn (cw_ret ?_)))))
 obtain rfl := sI H0
 exact kr Tryz.results48 (.cons (.cellN (us := [_, _, _, _]) ts32 rfl (Cells.box (id := 1) rfl 4 rfl)) (.cons (.tmp rfl) (.cons (.tmp rfl) (rT rfl)))) [4] ⟨_, _, _, _, rfl, rfl, rfl, (OwnC.clip o31)⟩

theorem c_i_EnterSpace (fl : Nat) (w : World) (a0 : Mc) (a1 : Int) (hn0_0 : n0_0 = (a0.t.b).length) (hr0_0 : RO w (hkeys []) (RdL p0_0 c0_0 a0.t.b)) (hn0_1 : n0_1 = (a0.t.f).length) (hr0_1 : RO w (hkeys []) (RdL p0_1 c0_1 a0.t.f)) (hn0_2 : n0_2 = (a0.c.l).length) (hr0_2 : RO w (hkeys []) (RdL p0_2 c0_2 a0.c.l)) (hn0_3 : n0_3 = (a0.g.o).length) (hr0_3 : RO w (hkeys []) (RdL p0_3 c0_3 a0.g.o)) (hg : RO w (hkeys []) (fun w' => w'.rangeAt 0 0 [.bool false, .int .i64 0, .int .i64 0, .int .i64 0, .int .i64 (-1)])) (r : Mc × Bool) (H0 : i_EnterSpace fl a0 a1 = some r) :
  Ct Tryz.prog 16 [.agg #[.slice p0_0 n0_0 c0_0, .slice p0_1 n0_1 c0_1, .slice p0_2 n0_2 c0_2, .int .i64 a0.c.h, .int .i64 a0.g.c, .int .i64 a0.g.n, .int .i64 a0.g.r, .slice p0_3 n0_3 c0_3, .int .i64 a0.s], .int .i64 a1] w [] (fun rv h' => ∃ (x0 : Option Addr) (y0 z0 : Nat) (C0 : Res) (x1 : Option Addr) (y1 z1 : Nat) (C1 : Res) (x2 : Option Addr) (y2 z2 : Nat) (C2 : Res) (x3 : Option Addr) (y3 z3 : Nat) (C3 : Res), rv = .tuple #[.agg #[.slice x0 y0 z0, .slice x1 y1 z1, .slice x2 y2 z2, .int .i64 r.1.c.h, .int .i64 r.1.g.c, .int .i64 r.1.g.n, .int .i64 r.1.g.r, .slice x3 y3 z3, .int .i64 r.1.s], .bool r.2] ∧ h' = [(0, C0), (1, C1), (2, C2), (3, C3)] ∧ y0 = (r.1.t.b).length ∧ OwnC 3 x0 z0 r.1.t.b C0 ∧ y1 = (r.1.t.f).length ∧ OwnC 58 x1 z1 r.1.t.f C1 ∧ y2 = (r.1.c.l).length ∧ OwnC 41 x2 z2 r.1.c.l C2 ∧ y3 = (r.1.g.o).length ∧ OwnC 118 x3 z3 r.1.g.o C3) := by
 subst hn0_0 hn0_1 hn0_2 hn0_3
 unfold i_EnterSpace at H0
 refine ct_of_cw Tryz.func16 rfl Tryz.ntmps16 rfl (Sat.refl _ _) ?_
 refine sr (oE (stpU_box 0 rfl rfl) rfl ?_)
 rintro _ _ ⟨b1, rfl, rfl⟩
 refine oE (stpU_alloc 1 tz34 rfl) rfl ?_
 rintro _ _ ⟨b2, rfl, rfl⟩
 obtain ⟨x3, e3, H0⟩ := bS H0
 refine oS rfl (nn (cw_seq (sr (oB9 0 ts34 rfl (oE (stpU_call (fun i => 2 + i) cf19 (fun w hw => c_i_MachineValid fl w a0 rfl (RO.pass hr0_0 hw) rfl (RO.pass hr0_1 hw) rfl (RO.pass hr0_2 hw) rfl (RO.pass hr0_3 hw) (RO.pass hg hw) x3 e3) (yA rfl)) rfl ?_)))))
 rintro _ _ ⟨_, ⟨rfl, rfl⟩, rfl⟩
 refine oK rfl (nn (cw_cond rfl (fun h4 => ?_) (fun h4 => ?_)))
 ·have H0 := cond_t H0 h4
  refine sr (oD (stp_build (cs := #[.slice none 0 0, .slice none 0 0, .slice none 0 0, .int .i64 0, .int .i64 0, .int .i64 0, .int .i64 0, .slice none 0 0, .int .i64 0]) sevp_nil bt34_6) rfl (oC9 1 ts34 rfl rfl (oS rfl (nn (cw_ret (kw_nx_ret (kw_addNil 2 (kw_addNil 3 (kw_addNil 4 (kw_addNil 5 ?_))))))))))
  obtain rfl := sI H0
  exact kr Tryz.results16 (.cons (.cellN (us := [_, _, _, _, _, _, _, _, _]) ts34 rfl (Cells.box (id := 1) rfl 9 rfl)) (rT rfl)) [2, 3, 4, 5] ⟨_, _, _, _, _, _, _, _, _, _, _, _, _, _, _, _, rfl, rfl, rfl, (OwnC.nil _ _), rfl, (OwnC.nil _ _), rfl, (OwnC.nil _ _), rfl, (OwnC.nil _ _)⟩
 have H0 := cond_f H0 h4
 obtain ⟨x5, e5, H0⟩ := bS H0
 refine cw_skip (kw_nx (sr (oA 4 Tryz.underlying34 rfl ts32 rfl (oB4 0 ts32 rfl (oM rfl (oE (stpU_call (fun i => 6 + i) cf48 (fun w hw => c_i_TakeTag fl w a0.g a1 rfl (RO.pass hr0_3 hw) x5 e5) (yB rfl rfl)) rfl ?_))))))
 rintro _ _ ⟨_, ⟨p6, _, c8, C9, rfl, rfl, rfl, o9⟩, rfl⟩
 refine oM rfl (oT rfl (oT rfl (oT rfl (oT rfl (oE (stpU_alloc 7 tz32 rfl) rfl ?_)))))
 rintro _ _ ⟨b10, rfl, rfl⟩
 refine oC4 7 ts32 rfl rfl (oS rfl (oS rfl (oS rfl (nn (cw_seq (sr (oM rfl (oK rfl (nn (cw_cond rfl (fun h11 => ?_) (fun h11 => ?_)))))))))))
 ·have H0 := cond_t H0 h11
  refine sr (oD (stp_build (cs := #[.slice none 0 0, .slice none 0 0, .slice none 0 0, .int .i64 0, .int .i64 0, .int .i64 0, .int .i64 0, .slice none 0 0, .int .i64 0]) sevp_nil bt34_6) rfl (oC9 1 ts34 rfl rfl (oS rfl (nn (cw_ret (kw_nx_ret (kw_addNil 8 (kw_addNil 9 (kw_addNil 10 (kw_addNil 11 ?_))))))))))
  obtain rfl := sI H0
  exact kr Tryz.results16 (.cons (.cellN (us := [_, _, _, _, _, _, _, _, _]) ts34 rfl (Cells.box (id := 1) rfl 9 rfl)) (rT rfl)) [8, 9, 10, 11] ⟨_, _, _, _, _, _, _, _, _, _, _, _, _, _, _, _, rfl, rfl, rfl, (OwnC.nil _ _), rfl, (OwnC.nil _ _), rfl, (OwnC.nil _ _), rfl, (OwnC.nil _ _)⟩
 have H0 := cond_f H0 h11
 obtain ⟨x12, e12, H0⟩ := bS H0
 refine cw_skip (kw_nx (sr (oB9 0 ts34 rfl (oE (stpU_call (fun i => 12 + i) cf49 (fun w hw => c_i_Machine_clone fl w a0 rfl (RO.pass hr0_0 hw) rfl (RO.pass hr0_1 hw) rfl (RO.pass hr0_2 hw) rfl (RO.pass hr0_3 hw) x12 e12) (yA rfl)) rfl ?_))))
 rintro _ _ ⟨_, ⟨p13, _, c15, C16, p17, _, c19, C20, p21, _, c23, C24, p25, _, c27, C28, rfl, rfl, rfl, o16, rfl, o20, rfl, o24, rfl, o28⟩, rfl⟩
 refine oE (stpU_alloc 16 tz34 rfl) rfl ?_
 rintro _ _ ⟨b29, rfl, rfl⟩
 refine oC9 16 ts34 rfl rfl (nn (sr (oB4 7 ts32 rfl (oM rfl (oA 4 Tryz.underlying34 rfl ts32 rfl (oC9 16 ts32 rfl rfl (oA 8 Tryz.underlying34 rfl ts3 rfl (oC9 16 ts3 rfl rfl (nn (cw_seq (sr (oA 2 Tryz.underlying34 rfl ts29 rfl (oA 0 Tryz.underlying29 rfl ts27 rfl ?_)))))))))))))
 obtain ⟨o0_0, eo0_0, H0⟩ := bS H0
 refine oL 16 ts27 rfl (oD (stp_len Tryz.underlying27 rfl) rfl (oM rfl (nn (cw_join (ι := (List Ln) × Int × Res) (fun | (v30, v32, C31) => o0_0 = .out (v30, v32) ∧ (x12.c.l).length = (v30).length ∧ OwnC 41 p21 c23 v30 C31) (fun | (v30, v32, C31) => [(4, .pointer (some ⟨b2, 0, none⟩)), (8, .bool x5.2.2.1), (10, .pointer (some ⟨b29, 0, none⟩)), (37, .slice p21 ((x12.c.l).length) c23), (38, .int .i64 ((x12.c.l).length : Int)), (39, .int .i64 v32)]) (fun | (v30, v32, C31) => [(1, [(b2, .cells #[.slice none 0 0, .slice none 0 0, .slice none 0 0, .int .i64 0, .int .i64 0, .int .i64 0, .int .i64 0, .slice none 0 0, .int .i64 0] 34 (0, 0))]), (6, C9), (12, C16), (13, C20), (14, C31), (16, [(b29, .cells #[.slice p13 ((x12.t.b).length) c15, .slice p17 ((x12.t.f).length) c19, .slice p21 ((x12.c.l).length) c23, .int .i64 x12.c.h, .int .i64 x5.1.c, .int .i64 x5.1.n, .int .i64 x5.1.r, .slice p6 ((x5.1.o).length) c8, .int .i64 a1] 34 (0, 0))])]) ?_ ?_))))
 ·refine cw_block (cw_loopS (ι := Nat × (List Ln) × Int × Res) (js := [1, 6, 12, 13, 14, 16]) (fun x => x.1) (fun | (fuel, v30, v32, C31) => i_EnterSpace_L0 fl x5 x12 fuel v30 v32 = some o0_0 ∧ (x12.c.l).length = (v30).length ∧ OwnC 41 p21 c23 v30 C31) (fun | (_, v30, v32, C31) => [(4, .pointer (some ⟨b2, 0, none⟩)), (8, .bool x5.2.2.1), (10, .pointer (some ⟨b29, 0, none⟩)), (37, .slice p21 ((x12.c.l).length) c23), (38, .int .i64 ((x12.c.l).length : Int)), (39, .int .i64 v32)]) (fun | (_, v30, v32, C31) => [(1, [(b2, .cells #[.slice none 0 0, .slice none 0 0, .slice none 0 0, .int .i64 0, .int .i64 0, .int .i64 0, .int .i64 0, .slice none 0 0, .int .i64 0] 34 (0, 0))]), (6, C9), (12, C16), (13, C20), (14, C31), (16, [(b29, .cells #[.slice p13 ((x12.t.b).length) c15, .slice p17 ((x12.t.f).length) c19, .slice p21 ((x12.c.l).length) c23, .int .i64 x12.c.h, .int .i64 x5.1.c, .int .i64 x5.1.n, .int .i64 x5.1.r, .slice p6 ((x5.1.o).length) c8, .int .i64 a1] 34 (0, 0))])]) (fl, x12.c.l, 0, C24) ⟨eo0_0, rfl, o24⟩ ⟨rfl, rfl, rfl, rfl, rfl, rfl, trivial⟩ ⟨1, [6, 12, 13, 14, 16], rfl, rfl, 6, [12, 13, 14, 16], rfl, rfl, 12, [13, 14, 16], rfl, rfl, 13, [14, 16], rfl, rfl, 14, [16], rfl, rfl, 16, [], rfl, rfl, trivial⟩ (by decide) ?_)
  rintro ⟨fuel, v30, v32, C31⟩ ⟨H1, hl31, o31⟩
  have H1 : i_EnterSpace_L0 fl x5 x12 fuel v30 v32 = some o0_0 := H1
  rcases fuel with _ | fuel
  ·rw [i_EnterSpace_L0.eq_1] at H1; cases H1
  rw [i_EnterSpace_L0.eq_2] at H1
  dsimp only
  refine sr (oW rfl (nn (cw_seq (cw_cond rfl (fun h33 => ?_) (fun h33 => ?_)))))
  ·have H1 := cond_t H1 h33
   obtain ⟨x34, e34, H1⟩ := bS H1
   refine cw_skip (kw_nx (cw_seq (cw_block (sr (oM rfl (oD (stp_indexAddr Tryz.underlying27 ts41 (by decide) rfl (by simp [hl31]) rfl (Rdb.own (id := 14) rfl o31) e34) rfl (oD (stp_loadN (us := [_, _, _, _, _, _]) ts41 rfl (Cells.el (Rdb.own (id := 14) rfl o31) (by decide) e34 0 6 rfl)) rfl (oE (stpU_alloc 17 tz41 rfl) rfl ?_))))))))
   rintro _ _ ⟨b35, rfl, rfl⟩
   obtain ⟨y36, ey36, H1⟩ := bS H1
   refine oS rfl (oC6 17 ts41 rfl rfl (nn (sr (oM rfl (oM rfl (ow_cutY 4 49 y36 ?_ ?_))))))
   ·rcases Bool.eq_false_or_eq_true x5.2.2.1 with hy36 | hy36
    ·have ey36 := cond_t ey36 hy36
     refine oG rfl hy36 (fA 1 Tryz.underlying41 rfl ts3 rfl rfl rfl) rfl (oG rfl hy36 (lB 17 ts3 rfl rfl rfl) rfl (oG rfl hy36 (stp_neq rfl rfl) rfl (oD (stp_pick_t rfl hy36 rfl) rfl ?_)))
     obtain rfl := sI ey36
     exact ow_nil (jy 4 0)
    have ey36 := cond_f ey36 hy36
    refine oO rfl hy36 rfl (oO rfl hy36 rfl (oO rfl hy36 rfl (oD (stp_pick_f rfl hy36 rfl) rfl ?_)))
    obtain rfl := sI ey36
    exact ow_nil (jy 4 0)
   refine ow_nil (kw_nx (cw_cond rfl (fun h37 => ?_) (fun h37 => ?_)))
   ·have H1 := cond_t H1 h37
    refine cw_region (oA 2 Tryz.underlying34 rfl ts29 rfl (oA 0 Tryz.underlying29 rfl ts27 rfl (oL 16 ts27 rfl (oM rfl (oD (stp_build (cs := #[.bool false, .int .i64 0, .int .i64 0, .int .i64 0, .int .i64 0, .bool false]) sevp_nil bt41_11) rfl (oD (stp_indexAddr Tryz.underlying27 ts41 (by decide) rfl (by simp [hl31]) rfl (Rdb.own (id := 14) rfl o31) e34) rfl (oF (stpU_storeEl (id := 14) (i := 0) (⟨false, 0, 0, 0, 0, false⟩ : Ln) (by decide) ts41 rfl rfl rfl o31 e34 rfl rfl rfl rfl) ?_)))))))
    rintro _ _ ⟨C38, rfl, o38⟩
    obtain ⟨x39, e39, H1⟩ := bS H1
    exact ow_nil (kw_bl_normal (kw_nx (cw_region (oP e39 rfl (oM rfl (ow_nil (kw_lqS (js := [1, 6, 12, 13, 14, 16]) (fuel, (v30.set (Int.toNat v32) (⟨false, 0, 0, 0, 0, false⟩ : Ln)), x39, C38) ⟨H1, (by simp [hl31]), o38⟩ (Nat.lt_succ_self _) ⟨rfl, rfl, rfl, rfl, rfl, rfl, trivial⟩ ⟨1, [6, 12, 13, 14, 16], rfl, rfl, 6, [12, 13, 14, 16], rfl, rfl, 12, [13, 14, 16], rfl, rfl, 13, [14, 16], rfl, rfl, 14, [16], rfl, rfl, 16, [], rfl, rfl, trivial⟩ (by decide))))))))
   have H1 := cond_f H1 h37
   obtain ⟨x40, e40, H1⟩ := bS H1
   exact cw_skip (kw_bl_normal (kw_nx (cw_region (oP e40 rfl (oM rfl (ow_nil (kw_lqS (js := [1, 6, 12, 13, 14, 16]) (fuel, v30, x40, C31) ⟨H1, (by simp [hl31]), o31⟩ (Nat.lt_succ_self _) ⟨rfl, rfl, rfl, rfl, rfl, rfl, trivial⟩ ⟨1, [6, 12, 13, 14, 16], rfl, rfl, 6, [12, 13, 14, 16], rfl, rfl, 12, [13, 14, 16], rfl, rfl, 13, [14, 16], rfl, rfl, 14, [16], rfl, rfl, 16, [], rfl, rfl, trivial⟩ (by decide))))))))
  have H1 := cond_f H1 h33
  refine cw_exit (kw_nx_exit (kw_lq_exit (kw_bl ?_)))
  obtain rfl := sI H1
  exact kw_joinS (js := [1, 6, 12, 13, 14, 16]) (v30, v32, C31) ⟨rfl, (by simp [hl31]), o31⟩ ⟨rfl, rfl, rfl, rfl, rfl, rfl, trivial⟩ ⟨1, [6, 12, 13, 14, 16], rfl, rfl, 6, [12, 13, 14, 16], rfl, rfl, 12, [13, 14, 16], rfl, rfl, 13, [14, 16], rfl, rfl, 14, [16], rfl, rfl, 16, [], rfl, rfl, trivial⟩ (by decide)
 rintro ⟨v30, v32, C31⟩ ⟨rfl, hl31, o31⟩
 dsimp only
 refine kw_nx (sr (oB9 16 ts34 rfl (oC9 1 ts34 rfl rfl (oS rfl (nn (cw_ret ?_))))))
 obtain rfl := sI H0
 exact kr Tryz.results16 (.cons (.cellN (us := [_, _, _, _, _, _, _, _, _]) ts34 rfl (Cells.box (id := 1) rfl 9 rfl)) (rT rfl)) [12, 13, 14, 6] ⟨_, _, _, _, _, _, _, _, _, _, _, _, _, _, _, _, rfl, rfl, rfl, o16, rfl, o20, (by simp [hl31]), o31, rfl, o9⟩
end Go.Proofs.YtkohlcjdagckhaaGreatDoor
