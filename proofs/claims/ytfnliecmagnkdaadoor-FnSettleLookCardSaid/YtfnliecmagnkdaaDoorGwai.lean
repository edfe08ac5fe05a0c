/- The walks: functions of the program return what their pure functions say. Printed by a program (gen.py). -/
import Derived.Test.YtfnliecmagnkdaaDoorGp
import Derived.Test.YtfnliecmagnkdaaDoorGt
import Derived.Test.YtfnliecmagnkdaaDoorMan
import Derived.Test.YtfnliecmagnkdaaDoorMap
import Derived.Test.YtfnliecmagnkdaaDoorCpy
import Derived.Test.YtfnliecmagnkdaaDoorClr
import Derived.Test.YtfnliecmagnkdaaDoorDp
import Derived.Test.YtfnliecmagnkdaaDoorSrt
import Derived.Test.YtfnliecmagnkdaaDoorE8
import Derived.Test.YtfnliecmagnkdaaDoorGwab
import Derived.Test.YtfnliecmagnkdaaDoorGwah
import Derived.Test.YtfnliecmagnkdaaDoorGwaj
set_option linter.unusedSimpArgs false
set_option linter.unusedVariables false
set_option linter.unusedSectionVars false
namespace Go.Proofs.YtfnliecmagnkdaaDoor
open Go.RowKit
set_option maxHeartbeats 4000000
set_option maxRecDepth 20000
variable {p0_0 p0_1 p0_2 : Option Addr} {n0_0 n0_1 n0_2 : Nat} {c0_0 c0_1 c0_2 : Nat}
theorem c_s_l8Right (fl : Nat) (w : World) (a0 : Sy) (a1 : Int) (hn0_0 : n0_0 = (a0.t.b).length) (hr0_0 : RO w (hkeys []) (RdL p0_0 c0_0 a0.t.b)) (hn0_1 : n0_1 = (a0.t.f).length) (hr0_1 : RO w (hkeys []) (RdL p0_1 c0_1 a0.t.f)) (hn0_2 : n0_2 = (a0.c).length) (hr0_2 : ROD w (hkeys []) p0_2 c0_2 a0.c) (r : Bool) (H0 : s_l8Right fl a0 a1 = some r) :
  Ct Tryd.prog 75 [.agg #[.slice p0_0 n0_0 c0_0, .slice p0_1 n0_1 c0_1, .slice p0_2 n0_2 c0_2], .int .i64 a1] w [] (fun rv h' => rv = .bool r ∧ h' = []) := by
 subst hn0_0 hn0_1 hn0_2
 unfold s_l8Right at H0
 refine ct_of_cw Tryd.func75 rfl Tryd.ntmps75 rfl (Sat.refl _ _) ?_
 refine sr (oE (stpU_box 0 rfl rfl) rfl ?_)
 rintro _ _ ⟨b1, rfl, rfl⟩
 obtain ⟨x2, e2, H0⟩ := bS H0
 refine oS rfl (nn (sr (oB3 0 ts36 rfl (oE (stpU_call (fun i => 1 + i) cf16 (fun w hw => c_s_SystemValid fl w a0 rfl (RO.pass hr0_0 hw) rfl (RO.pass hr0_1 hw) rfl (ROD.pass hr0_2 hw) x2 e2) (yA rfl)) rfl ?_))))
 rintro _ _ ⟨_, ⟨rfl, rfl⟩, rfl⟩
 obtain ⟨y3, ey3, H0⟩ := bS H0
 refine oM rfl (ow_cutY 3 10 y3 ?_ ?_)
 ·rcases Bool.eq_false_or_eq_true x2 with hy3 | hy3
  ·have ey3 := cond_t ey3 hy3
   refine oG rfl hy3 (mv rfl) rfl (oG rfl hy3 (stp_geq rfl rfl) rfl (oD (stp_pick_t rfl hy3 rfl) rfl ?_))
   obtain rfl := sI ey3
   exact ow_nil (jy 3 0)
  have ey3 := cond_f ey3 hy3
  refine oO rfl hy3 rfl (oO rfl hy3 rfl (oD (stp_pick_f rfl hy3 rfl) rfl ?_))
  obtain rfl := sI ey3
  exact ow_nil (jy 3 0)
 obtain ⟨y4, ey4, H0⟩ := bS H0
 refine oM rfl (ow_cutY 6 17 y4 ?_ ?_)
 ·rcases Bool.eq_false_or_eq_true y3 with hy4 | hy4
  ·have ey4 := cond_t ey4 hy4
   refine oG rfl hy4 (mv rfl) rfl (oG rfl hy4 (fA 2 Tryd.underlying36 rfl ts34 rfl rfl rfl) rfl (oG rfl hy4 (lB 0 ts34 rfl rfl rfl) rfl (oG rfl hy4 (stp_len Tryd.underlying34 rfl) rfl (oG rfl hy4 (stp_lss rfl rfl) rfl (oD (stp_pick_t rfl hy4 rfl) rfl ?_)))))
   obtain rfl := sI ey4
   exact ow_nil (jy 6 0)
  have ey4 := cond_f ey4 hy4
  refine oO rfl hy4 rfl (oO rfl hy4 rfl (oO rfl hy4 rfl (oO rfl hy4 rfl (oO rfl hy4 rfl (oD (stp_pick_f rfl hy4 rfl) rfl ?_)))))
  obtain rfl := sI ey4
  exact ow_nil (jy 6 0)
 refine oS rfl (nn (cw_ret ?_))
 obtain rfl := sI H0
 exact kr Tryd.results75 (rT rfl) [] ⟨rfl, rfl⟩

theorem c_s_AckCpu (fl : Nat) (w : World) (a0 : Sy) (a1 : Int) (hn0_0 : n0_0 = (a0.t.b).length) (hr0_0 : RO w (hkeys []) (RdL p0_0 c0_0 a0.t.b)) (hn0_1 : n0_1 = (a0.t.f).length) (hr0_1 : RO w (hkeys []) (RdL p0_1 c0_1 a0.t.f)) (hn0_2 : n0_2 = (a0.c).length) (hr0_2 : ROD w (hkeys []) p0_2 c0_2 a0.c) (r : Sy × Bool) (H0 : s_AckCpu fl a0 a1 = some r) :
  Ct Tryd.prog 30 [.agg #[.slice p0_0 n0_0 c0_0, .slice p0_1 n0_1 c0_1, .slice p0_2 n0_2 c0_2], .int .i64 a1] w [] (fun rv h' => ∃ (x0 : Option Addr) (y0 z0 : Nat) (C0 : Res) (x1 : Option Addr) (y1 z1 : Nat) (C1 : Res) (x2 : Option Addr) (y2 z2 : Nat) (C2 : Res), rv = .tuple #[.agg #[.slice x0 y0 z0, .slice x1 y1 z1, .slice x2 y2 z2], .bool r.2] ∧ h' = [(0, C0), (1, C1), (2, C2)] ∧ y0 = (r.1.t.b).length ∧ OwnC 3 x0 z0 r.1.t.b C0 ∧ y1 = (r.1.t.f).length ∧ OwnC 84 x1 z1 r.1.t.f C1 ∧ y2 = (r.1.c).length ∧ OwnD 44 48 x2 z2 r.1.c C2) := by
 subst hn0_0 hn0_1 hn0_2
 unfold s_AckCpu at H0
 refine ct_of_cw Tryd.func30 rfl Tryd.ntmps30 rfl (Sat.refl _ _) ?_
 refine sr (oE (stpU_box 0 rfl rfl) rfl ?_)
 rintro _ _ ⟨b1, rfl, rfl⟩
 refine oE (stpU_alloc 1 tz36 rfl) rfl ?_
 rintro _ _ ⟨b2, rfl, rfl⟩
 obtain ⟨x3, e3, H0⟩ := bS H0
 refine oS rfl (nn (cw_seq (sr (oB3 0 ts36 rfl (oM rfl (oE (stpU_call (fun i => 2 + i) cf75 (fun w hw => c_s_l8Right fl w a0 a1 rfl (RO.pass hr0_0 hw) rfl (RO.pass hr0_1 hw) rfl (ROD.pass hr0_2 hw) x3 e3) (yB rfl rfl)) rfl ?_))))))
 rintro _ _ ⟨_, ⟨rfl, rfl⟩, rfl⟩
 refine oK rfl (nn (cw_cond rfl (fun h4 => ?_) (fun h4 => ?_)))
 ·have H0 := cond_t H0 h4
  refine sr (oD (stp_build (cs := #[.slice none 0 0, .slice none 0 0, .slice none 0 0]) sevp_nil bt36_2) rfl (oC3 1 ts36 rfl rfl (oS rfl (nn (cw_ret (kw_nx_ret (kw_addNil 2 (kw_addNil 3 (kw_addNil 4 ?_)))))))))
  obtain rfl := sI H0
  exact kr Tryd.results30 (.cons (.cellN (us := [_, _, _]) ts36 rfl (Cells.box (id := 1) rfl 3 rfl)) (rT rfl)) [2, 3, 4] ⟨_, _, _, _, _, _, _, _, _, _, _, _, rfl, rfl, rfl, (OwnC.nil _ _), rfl, (OwnC.nil _ _), rfl, (OwnD.nil _ _ _)⟩
 have H0 := cond_f H0 h4
 obtain ⟨x5, e5, H0⟩ := bS H0
 refine cw_skip (kw_nx (sr (oB3 0 ts36 rfl (oE (stpU_call (fun i => 5 + i) cf77 (fun w hw => c_s_l8Copy fl w a0 rfl (RO.pass hr0_0 hw) rfl (RO.pass hr0_1 hw) rfl (ROD.pass hr0_2 hw) x5 e5) (yA rfl)) rfl ?_))))
 rintro _ _ ⟨_, ⟨p6, _, c8, C9, p10, _, c12, C13, p14, _, c16, C17, rfl, rfl, rfl, o9, rfl, o13, rfl, o17⟩, rfl⟩
 refine oE (stpU_alloc 8 tz36 rfl) rfl ?_
 rintro _ _ ⟨b18, rfl, rfl⟩
 obtain ⟨x19, e19, H0⟩ := bS H0
 refine oC3 8 ts36 rfl rfl (nn (cw_seq (cw_open 7 9 10 11 rfl o17 e19 ?_)))
 rintro u20 p21 n22 c23 p24 n25 c26 C27 C28 C29 C30 o27 hb28 hx20 rfl o29 rfl o30
 obtain ⟨x31, e31, H0⟩ := bS H0
 refine rdq g_mixed [1, 6] [7, 8, 10, 11] { dst := dS [15, 16, 17, 18, 19, 20, 21, 22, 23, 24, 0], pre := gA [] [[], [0], [], [], [3], [], [3, 4, 5], rn 3 4, rn 3 5, rn 0 9, rn 0 10], ids := gA [] [[], [], [], [], [], [], [], [], [12, 13], [], [7, 12, 13]], rs := rL [[(6, 0)], [(14, 1)], [(1, 0)], [(6, 0)], [(17, 4)], [(1, 0)], [(18, 5), (19, 6)], [(20, 7)], [(21, 8)], [(15, 2), (16, 3)], [(23, 10), (22, 9)]], rh := rL [[], [(8, 0)], [], [], [(8, 0)], [], [(7, 0)], [(7, 0)], [(10, 0), (11, 0)], [(7, 0)], [(7, 0), (12, 9), (13, 9)]], V := fun i g => gA undef [.pointer (some ⟨b18, 2, none⟩), .slice p14 ((x5.c).length) c16, .int .i64 a1, .pointer (some ⟨b18, 2, none⟩), .slice p14 ((x5.c).length) c16, .int .i64 a1, .pointer (some ⟨eB p14, eO p14 + Int.toNat a1 * Enc.sz CpS + 0, none⟩), .agg #[.slice p21 ((x19.n).length) c23, .slice p24 ((x19.w).length) c26], .agg #[.slice ((g 8).A 0) ((x31.n).length) ((g 8).C 0), .slice ((g 8).A 1) ((x31.w).length) ((g 8).C 1)], .pointer (some ⟨eB p14, eO p14 + Int.toNat a1 * Enc.sz CpS + 0, none⟩)] i, U := fun i g => match i with | 8 => [(12, ((g 8).R 0)), (13, ((g 8).R 1))] | 10 => [(7, ((g 10).R 0)), (12, ((g 10).R 1)), (13, ((g 10).R 2))] | _ => [], Φ := fun i x => match i with | 8 => OwnC 48 (x.A 0) (x.C 0) x31.n (x.R 0) ∧ OwnC 48 (x.A 1) (x.C 1) x31.w (x.R 1) | 10 => OwnC (α := CpS) 44 p14 c16 (u20.set (Int.toNat a1) (⟨(x.A 0), (x31.n).length, (x.C 0), (x.A 1), (x31.w).length, (x.C 1)⟩ : CpS)) (x.R 0) ∧ OwnC 48 (x.A 0) (x.C 0) x31.n (x.R 1) ∧ OwnC 48 (x.A 1) (x.C 1) x31.w (x.R 2) | _ => True } ?_ ?_
 ·refine ⟨lc rfl rfl fun hs hh => stp_fieldAddr (j := 2) Tryd.underlying36 rfl ts34 rfl (sv hs 6 rfl) rfl, lc rfl rfl fun hs hh => stp_load1 ts34 (sv hs 14 rfl) (Cells.box (id := 8) (hh.get 8 _ rfl) 1 rfl), lM, lc rfl rfl fun hs hh => stp_fieldAddr (j := 2) Tryd.underlying36 rfl ts34 rfl (sv hs 6 rfl) rfl, lc rfl rfl fun hs hh => stp_load1 ts34 (sv hs 17 rfl) (Cells.box (id := 8) (hh.get 8 _ rfl) 1 rfl), lM, lc rfl rfl fun hs hh => stp_indexAddr Tryd.underlying34 ts44 (by decide) (sv hs 18 rfl) (Bun.len hb28) (sv hs 19 rfl) (Rdb.own (id := 7) (hh.get 7 _ rfl) o27) hx20, lc rfl rfl fun hs hh => stp_loadN (us := [_, _]) ts44 (sv hs 20 rfl) (Cells.el (Rdb.own (id := 7) (hh.get 7 _ rfl) o27) (by decide) hx20 0 2 rfl), ?_, lc rfl rfl fun hs hh => stp_indexAddr Tryd.underlying34 ts44 (by decide) (sv hs 15 rfl) (Bun.len hb28) (sv hs 16 rfl) (Rdb.own (id := 7) (hh.get 7 _ rfl) o27) hx20, ?_, trivial⟩
  ·refine le rfl rfl (fun g hΦ s h hs hh => (stpU_call (fun i => 12 + i) cf82 (fun w hw => c_s_l8Ack fl w x19 rfl (OwnC.pass (id := 10) (hh.get 10 _ rfl) o29 hw) rfl (OwnC.pass (id := 11) (hh.get 11 _ rfl) o30 hw) x31 e31) (yA (sv hs 21 rfl)))) ?_
   rintro g _ _ ⟨_, ⟨p32, _, c34, C35, p36, _, c38, C39, rfl, rfl, rfl, o35, rfl, o39⟩, rfl⟩
   exact ⟨⟨[p32, p36], [c34, c38], [C35, C39]⟩, ⟨o35, o39⟩, .inr rfl, rfl⟩
  refine le rfl rfl (fun g hΦ s h hs hh => (stpU_keep (hh.get 13 _ rfl) (stpU_keep (hh.get 12 _ rfl) (stpU_storeEl (id := 7) (i := 0) (⟨((g 8).A 0), (x31.n).length, ((g 8).C 0), ((g 8).A 1), (x31.w).length, ((g 8).C 1)⟩ : CpS) (by decide) ts44 (sv hs 23 rfl) (sv hs 22 rfl) (hh.get 7 _ rfl) o27 hx20 rfl rfl rfl rfl) (by rintro _ _ ⟨_, rfl, _⟩; rfl) (hΦ 8 rfl).1) (by rintro _ _ ⟨_, ⟨_, rfl, _⟩, rfl, _⟩; rfl) (hΦ 8 rfl).2)) ?_
  rintro g _ _ ⟨_, ⟨_, ⟨C40, rfl, o40⟩, rfl, o43⟩, rfl, o46⟩
  exact ⟨⟨[((g 8).A 0), ((g 8).A 1)], [((g 8).C 0), ((g 8).C 1)], [C40, ((g 8).R 0), ((g 8).R 1)]⟩, ⟨o40, o43, o46⟩, .inl rfl, rfl⟩
 intro g hΦ
 refine kw_gen (ι := Option Addr × Option Addr × Nat × Nat × Res × Res × Option Addr × Option Addr × Nat × Nat × Res × Res × Res) (((g 8).A 0), ((g 8).A 1), ((g 8).C 0), ((g 8).C 1), ((g 8).R 0), ((g 8).R 1), ((g 10).A 0), ((g 10).A 1), ((g 10).C 0), ((g 10).C 1), ((g 10).R 0), ((g 10).R 1), ((g 10).R 2)) (fun | (p32, p36, c34, c38, C35, C39, p41, p44, c42, c45, C40, C43, C46) => OwnC 48 p32 c34 x31.n C35 ∧ OwnC 48 p36 c38 x31.w C39 ∧ OwnC (α := CpS) 44 p14 c16 (u20.set (Int.toNat a1) (⟨p41, (x31.n).length, c42, p44, (x31.w).length, c45⟩ : CpS)) C40 ∧ OwnC 48 p41 c42 x31.n C43 ∧ OwnC 48 p44 c45 x31.w C46) (fun | (p32, p36, c34, c38, C35, C39, p41, p44, c42, c45, C40, C43, C46) => [(4, .pointer (some ⟨b2, 0, none⟩)), (6, .pointer (some ⟨b18, 0, none⟩))]) (fun | (p32, p36, c34, c38, C35, C39, p41, p44, c42, c45, C40, C43, C46) => [(1, [(b2, .cells #[.slice none 0 0, .slice none 0 0, .slice none 0 0] 36 (0, 0))]), (5, C9), (6, C13), (7, C40), (8, [(b18, .cells #[.slice p6 ((x5.t.b).length) c8, .slice p10 ((x5.t.f).length) c12, .slice p14 ((x5.c).length) c16] 36 (0, 0))]), (9, C28), (12, C43), (13, C46)]) ⟨(hΦ 8 (by decide)).1, (hΦ 8 (by decide)).2, (hΦ 10 (by decide)).1, (hΦ 10 (by decide)).2.1, (hΦ 10 (by decide)).2.2⟩ ⟨rfl, rfl, trivial⟩ ⟨rfl, rfl, rfl, rfl, rfl, rfl, rfl, rfl, trivial⟩ ?_
 rintro ⟨p32, p36, c34, c38, C35, C39, p41, p44, c42, c45, C40, C43, C46⟩ ⟨o35, o39, o40, o43, o46⟩
 dsimp only
 refine kw_nx (sr (oB3 8 ts36 rfl (oC3 1 ts36 rfl rfl (oS rfl (nn (cw_ret (kw_shut 7 9 12 13 o40 (Bun.setL (Bun.set hb28 _) _) (idx_some (idx_set hx20)).2.2 (idx_setD e19 (⟨x31.n, x31.w⟩ : Cp)) rfl o43 rfl o46 ?_)))))))
 rintro C47 o47
 obtain rfl := sI H0
 exact kr Tryd.results30 (.cons (.cellN (us := [_, _, _]) ts36 rfl (Cells.box (id := 1) rfl 3 rfl)) (rT rfl)) [5, 6, 7] ⟨_, _, _, _, _, _, _, _, _, _, _, _, rfl, rfl, rfl, o9, rfl, o13, (by simp), o47⟩
end Go.Proofs.YtfnliecmagnkdaaDoor
