/- The walks: functions of the program return what their pure functions say. Printed by a program (gen.py). -/
import Derived.Test.YtfnliecmagnkdaaDoorGp
import Derived.Test.YtfnliecmagnkdaaDoorGt
import Derived.Test.YtfnliecmagnkdaaDoorMan
import Derived.Test.YtfnliecmagnkdaaDoorMap
import Derived.Test.YtfnliecmagnkdaaDoorCpy
import Derived.Test.YtfnliecmagnkdaaDoorClr
import Derived.Test.YtfnliecmagnkdaaDoorDp
import Derived.Test.YtfnliecmagnkdaaDoorSrt
import Derived.Test.YtfnliecmagnkdaaDoorE8
import Derived.Test.YtfnliecmagnkdaaDoorGwab
import Derived.Test.YtfnliecmagnkdaaDoorGwac
import Derived.Test.YtfnliecmagnkdaaDoorGwah
import Derived.Test.YtfnliecmagnkdaaDoorGwaj
import Derived.Test.YtfnliecmagnkdaaDoorGwaq
import Derived.Test.YtfnliecmagnkdaaDoorGwaw
set_option linter.unusedSimpArgs false
set_option linter.unusedVariables false
set_option linter.unusedSectionVars false
namespace Go.Proofs.YtfnliecmagnkdaaDoor
open Go.RowKit
set_option maxHeartbeats 4000000
set_option maxRecDepth 20000
variable {p0_0 p0_1 p0_2 : Option Addr} {n0_0 n0_1 n0_2 : Nat} {c0_0 c0_1 c0_2 : Nat}
theorem c_s_SettleSystem (fl : Nat) (w : World) (a0 : Sy) (hn0_0 : n0_0 = (a0.t.b).length) (hr0_0 : RO w (hkeys []) (RdL p0_0 c0_0 a0.t.b)) (hn0_1 : n0_1 = (a0.t.f).length) (hr0_1 : RO w (hkeys []) (RdL p0_1 c0_1 a0.t.f)) (hn0_2 : n0_2 = (a0.c).length) (hr0_2 : ROD w (hkeys []) p0_2 c0_2 a0.c) (r : Sy × Bool) (H0 : s_SettleSystem fl a0 = some r) :
  Ct Tryd.prog 35 [.agg #[.slice p0_0 n0_0 c0_0, .slice p0_1 n0_1 c0_1, .slice p0_2 n0_2 c0_2]] w [] (fun rv h' => ∃ (x0 : Option Addr) (y0 z0 : Nat) (C0 : Res) (x1 : Option Addr) (y1 z1 : Nat) (C1 : Res) (x2 : Option Addr) (y2 z2 : Nat) (C2 : Res), rv = .tuple #[.agg #[.slice x0 y0 z0, .slice x1 y1 z1, .slice x2 y2 z2], .bool r.2] ∧ h' = [(0, C0), (1, C1), (2, C2)] ∧ y0 = (r.1.t.b).length ∧ OwnC 3 x0 z0 r.1.t.b C0 ∧ y1 = (r.1.t.f).length ∧ OwnC 84 x1 z1 r.1.t.f C1 ∧ y2 = (r.1.c).length ∧ OwnD 44 48 x2 z2 r.1.c C2) := by
 subst hn0_0 hn0_1 hn0_2
 unfold s_SettleSystem at H0
 refine ct_of_cw Tryd.func35 rfl Tryd.ntmps35 rfl (Sat.refl _ _) ?_
 refine sr (oE (stpU_box 0 rfl rfl) rfl ?_)
 rintro _ _ ⟨b1, rfl, rfl⟩
 refine oE (stpU_alloc 1 tz36 rfl) rfl ?_
 rintro _ _ ⟨b2, rfl, rfl⟩
 obtain ⟨x3, e3, H0⟩ := bS H0
 refine oS rfl (nn (cw_seq (sr (oB3 0 ts36 rfl (oE (stpU_call (fun i => 2 + i) cf16 (fun w hw => c_s_SystemValid fl w a0 rfl (RO.pass hr0_0 hw) rfl (RO.pass hr0_1 hw) rfl (ROD.pass hr0_2 hw) x3 e3) (yA rfl)) rfl ?_)))))
 rintro _ _ ⟨_, ⟨rfl, rfl⟩, rfl⟩
 refine oK rfl (nn (cw_cond rfl (fun h4 => ?_) (fun h4 => ?_)))
 ·have H0 := cond_t H0 h4
  refine sr (oD (stp_build (cs := #[.slice none 0 0, .slice none 0 0, .slice none 0 0]) sevp_nil bt36_2) rfl (oC3 1 ts36 rfl rfl (oS rfl (nn (cw_ret (kw_nx_ret (kw_addNil 2 (kw_addNil 3 (kw_addNil 4 ?_)))))))))
  obtain rfl := sI H0
  exact kr Tryd.results35 (.cons (.cellN (us := [_, _, _]) ts36 rfl (Cells.box (id := 1) rfl 3 rfl)) (rT rfl)) [2, 3, 4] ⟨_, _, _, _, _, _, _, _, _, _, _, _, rfl, rfl, rfl, (OwnC.nil _ _), rfl, (OwnC.nil _ _), rfl, (OwnD.nil _ _ _)⟩
 have H0 := cond_f H0 h4
 obtain ⟨x5, e5, H0⟩ := bS H0
 refine cw_skip (kw_nx (sr (oB3 0 ts36 rfl (oE (stpU_call (fun i => 5 + i) cf77 (fun w hw => c_s_l8Copy fl w a0 rfl (RO.pass hr0_0 hw) rfl (RO.pass hr0_1 hw) rfl (ROD.pass hr0_2 hw) x5 e5) (yA rfl)) rfl ?_))))
 rintro _ _ ⟨_, ⟨p6, _, c8, C9, p10, _, c12, C13, p14, _, c16, C17, rfl, rfl, rfl, o9, rfl, o13, rfl, o17⟩, rfl⟩
 refine oE (stpU_alloc 8 tz36 rfl) rfl ?_
 rintro _ _ ⟨b18, rfl, rfl⟩
 obtain ⟨o0_0, eo0_0, H0⟩ := bS H0
 refine oC3 8 ts36 rfl rfl (nn (cw_seq (sr (oS rfl (nn (cw_join (ι := (List Cp) × Int × Res) (fun | (v19, v21, C20) => o0_0 = .out (v19, v21) ∧ (x5.c).length = (v19).length ∧ OwnD 44 48 p14 c16 v19 C20) (fun | (v19, v21, C20) => [(2, .pointer (some ⟨b2, 0, none⟩)), (4, .pointer (some ⟨b18, 0, none⟩)), (5, .int .i64 v21)]) (fun | (v19, v21, C20) => [(1, [(b2, .cells #[.slice none 0 0, .slice none 0 0, .slice none 0 0] 36 (0, 0))]), (5, C9), (6, C13), (7, C20), (8, [(b18, .cells #[.slice p6 ((x5.t.b).length) c8, .slice p10 ((x5.t.f).length) c12, .slice p14 ((x5.c).length) c16] 36 (0, 0))])]) ?_ ?_))))))
 ·refine cw_block (cw_loopS (ι := Nat × (List Cp) × Int × Res) (js := [1, 5, 6, 7, 8]) (fun x => x.1) (fun | (fuel, v19, v21, C20) => s_SettleSystem_L0 fl x5 fuel v19 v21 = some o0_0 ∧ (x5.c).length = (v19).length ∧ OwnD 44 48 p14 c16 v19 C20) (fun | (_, v19, v21, C20) => [(2, .pointer (some ⟨b2, 0, none⟩)), (4, .pointer (some ⟨b18, 0, none⟩)), (5, .int .i64 v21)]) (fun | (_, v19, v21, C20) => [(1, [(b2, .cells #[.slice none 0 0, .slice none 0 0, .slice none 0 0] 36 (0, 0))]), (5, C9), (6, C13), (7, C20), (8, [(b18, .cells #[.slice p6 ((x5.t.b).length) c8, .slice p10 ((x5.t.f).length) c12, .slice p14 ((x5.c).length) c16] 36 (0, 0))])]) (fl, x5.c, 0, C17) ⟨eo0_0, rfl, o17⟩ ⟨rfl, rfl, rfl, trivial⟩ ⟨1, [5, 6, 7, 8], rfl, rfl, 5, [6, 7, 8], rfl, rfl, 6, [7, 8], rfl, rfl, 7, [8], rfl, rfl, 8, [], rfl, rfl, trivial⟩ (by decide) ?_)
  rintro ⟨fuel, v19, v21, C20⟩ ⟨H1, hl20, o20⟩
  have H1 : s_SettleSystem_L0 fl x5 fuel v19 v21 = some o0_0 := H1
  rcases fuel with _ | fuel
  ·rw [s_SettleSystem_L0.eq_1] at H1; cases H1
  rw [s_SettleSystem_L0.eq_2] at H1
  dsimp only
  refine cw_seq (sr (oM rfl (oA 2 Tryd.underlying36 rfl ts34 rfl (oL 8 ts34 rfl (oD (stp_len Tryd.underlying34 rfl) rfl (oW rfl (nn (cw_cond rfl (fun h22 => ?_) (fun h22 => ?_)))))))))
  ·have H1 := cond_t H1 h22
   obtain ⟨x23, e23, H1⟩ := bS H1
   refine cw_skip (kw_nx (cw_seq (cw_block (cw_open 7 9 10 11 rfl o20 e23 ?_))))
   rintro u24 p25 n26 c27 p28 n29 c30 C31 C32 C33 C34 o31 hb32 hx24 rfl o33 rfl o34
   obtain ⟨x35, e35, H1⟩ := bS H1
   refine rdq g_mixed [4, 5] [7, 8, 10, 11] { dst := dS [20, 21, 22, 23, 24, 25, 26, 27, 28, 29, 0], pre := gA [] [[], [0], [], [], [3], [], [3, 4, 5], rn 3 4, rn 3 5, rn 0 9, rn 0 10], ids := gA [] [[], [], [], [], [], [], [], [], [12, 13], [], [7, 12, 13]], rs := rL [[(4, 0)], [(19, 1)], [(5, 0)], [(4, 0)], [(22, 4)], [(5, 0)], [(23, 5), (24, 6)], [(25, 7)], [(26, 8)], [(20, 2), (21, 3)], [(28, 10), (27, 9)]], rh := rL [[], [(8, 0)], [], [], [(8, 0)], [], [(7, 0)], [(7, 0)], [(10, 0), (11, 0)], [(7, 0)], [(7, 0), (12, 9), (13, 9)]], V := fun i g => gA undef [.pointer (some ⟨b18, 2, none⟩), .slice p14 ((x5.c).length) c16, .int .i64 v21, .pointer (some ⟨b18, 2, none⟩), .slice p14 ((x5.c).length) c16, .int .i64 v21, .pointer (some ⟨eB p14, eO p14 + Int.toNat v21 * Enc.sz CpS + 0, none⟩), .agg #[.slice p25 ((x23.n).length) c27, .slice p28 ((x23.w).length) c30], .agg #[.slice ((g 8).A 0) ((x35.n).length) ((g 8).C 0), .slice ((g 8).A 1) ((x35.w).length) ((g 8).C 1)], .pointer (some ⟨eB p14, eO p14 + Int.toNat v21 * Enc.sz CpS + 0, none⟩)] i, U := fun i g => match i with | 8 => [(12, ((g 8).R 0)), (13, ((g 8).R 1))] | 10 => [(7, ((g 10).R 0)), (12, ((g 10).R 1)), (13, ((g 10).R 2))] | _ => [], Φ := fun i x => match i with | 8 => OwnC 48 (x.A 0) (x.C 0) x35.n (x.R 0) ∧ OwnC 48 (x.A 1) (x.C 1) x35.w (x.R 1) | 10 => OwnC (α := CpS) 44 p14 c16 (u24.set (Int.toNat v21) (⟨(x.A 0), (x35.n).length, (x.C 0), (x.A 1), (x35.w).length, (x.C 1)⟩ : CpS)) (x.R 0) ∧ OwnC 48 (x.A 0) (x.C 0) x35.n (x.R 1) ∧ OwnC 48 (x.A 1) (x.C 1) x35.w (x.R 2) | _ => True } ?_ ?_
   ·refine ⟨lc rfl rfl fun hs hh => stp_fieldAddr (j := 2) Tryd.underlying36 rfl ts34 rfl (sv hs 4 rfl) rfl, lc rfl rfl fun hs hh => stp_load1 ts34 (sv hs 19 rfl) (Cells.box (id := 8) (hh.get 8 _ rfl) 1 rfl), lM, lc rfl rfl fun hs hh => stp_fieldAddr (j := 2) Tryd.underlying36 rfl ts34 rfl (sv hs 4 rfl) rfl, lc rfl rfl fun hs hh => stp_load1 ts34 (sv hs 22 rfl) (Cells.box (id := 8) (hh.get 8 _ rfl) 1 rfl), lM, lc rfl rfl fun hs hh => stp_indexAddr Tryd.underlying34 ts44 (by decide) (sv hs 23 rfl) (Eq.trans (a := (x5.c).length) (b := (v19).length) (by simp [hl20]) (Bun.len hb32)) (sv hs 24 rfl) (Rdb.own (id := 7) (hh.get 7 _ rfl) o31) hx24, lc rfl rfl fun hs hh => stp_loadN (us := [_, _]) ts44 (sv hs 25 rfl) (Cells.el (Rdb.own (id := 7) (hh.get 7 _ rfl) o31) (by decide) hx24 0 2 rfl), ?_, lc rfl rfl fun hs hh => stp_indexAddr Tryd.underlying34 ts44 (by decide) (sv hs 20 rfl) (Eq.trans (a := (x5.c).length) (b := (v19).length) (by simp [hl20]) (Bun.len hb32)) (sv hs 21 rfl) (Rdb.own (id := 7) (hh.get 7 _ rfl) o31) hx24, ?_, trivial⟩
    ·refine le rfl rfl (fun g hΦ s h hs hh => (stpU_call (fun i => 12 + i) cf82 (fun w hw => c_s_l8Ack fl w x23 rfl (OwnC.pass (id := 10) (hh.get 10 _ rfl) o33 hw) rfl (OwnC.pass (id := 11) (hh.get 11 _ rfl) o34 hw) x35 e35) (yA (sv hs 26 rfl)))) ?_
     rintro g _ _ ⟨_, ⟨p36, _, c38, C39, p40, _, c42, C43, rfl, rfl, rfl, o39, rfl, o43⟩, rfl⟩
     exact ⟨⟨[p36, p40], [c38, c42], [C39, C43]⟩, ⟨o39, o43⟩, .inr rfl, rfl⟩
    refine le rfl rfl (fun g hΦ s h hs hh => (stpU_keep (hh.get 13 _ rfl) (stpU_keep (hh.get 12 _ rfl) (stpU_storeEl (id := 7) (i := 0) (⟨((g 8).A 0), (x35.n).length, ((g 8).C 0), ((g 8).A 1), (x35.w).length, ((g 8).C 1)⟩ : CpS) (by decide) ts44 (sv hs 28 rfl) (sv hs 27 rfl) (hh.get 7 _ rfl) o31 hx24 rfl rfl rfl rfl) (by rintro _ _ ⟨_, rfl, _⟩; rfl) (hΦ 8 rfl).1) (by rintro _ _ ⟨_, ⟨_, rfl, _⟩, rfl, _⟩; rfl) (hΦ 8 rfl).2)) ?_
    rintro g _ _ ⟨_, ⟨_, ⟨C44, rfl, o44⟩, rfl, o47⟩, rfl, o50⟩
    exact ⟨⟨[((g 8).A 0), ((g 8).A 1)], [((g 8).C 0), ((g 8).C 1)], [C44, ((g 8).R 0), ((g 8).R 1)]⟩, ⟨o44, o47, o50⟩, .inl rfl, rfl⟩
   intro g hΦ
   refine kw_gen (ι := Option Addr × Option Addr × Nat × Nat × Res × Res × Option Addr × Option Addr × Nat × Nat × Res × Res × Res) (((g 8).A 0), ((g 8).A 1), ((g 8).C 0), ((g 8).C 1), ((g 8).R 0), ((g 8).R 1), ((g 10).A 0), ((g 10).A 1), ((g 10).C 0), ((g 10).C 1), ((g 10).R 0), ((g 10).R 1), ((g 10).R 2)) (fun | (p36, p40, c38, c42, C39, C43, p45, p48, c46, c49, C44, C47, C50) => OwnC 48 p36 c38 x35.n C39 ∧ OwnC 48 p40 c42 x35.w C43 ∧ OwnC (α := CpS) 44 p14 c16 (u24.set (Int.toNat v21) (⟨p45, (x35.n).length, c46, p48, (x35.w).length, c49⟩ : CpS)) C44 ∧ OwnC 48 p45 c46 x35.n C47 ∧ OwnC 48 p48 c49 x35.w C50) (fun | (p36, p40, c38, c42, C39, C43, p45, p48, c46, c49, C44, C47, C50) => [(2, .pointer (some ⟨b2, 0, none⟩)), (4, .pointer (some ⟨b18, 0, none⟩)), (5, .int .i64 v21)]) (fun | (p36, p40, c38, c42, C39, C43, p45, p48, c46, c49, C44, C47, C50) => [(1, [(b2, .cells #[.slice none 0 0, .slice none 0 0, .slice none 0 0] 36 (0, 0))]), (5, C9), (6, C13), (7, C44), (8, [(b18, .cells #[.slice p6 ((x5.t.b).length) c8, .slice p10 ((x5.t.f).length) c12, .slice p14 ((x5.c).length) c16] 36 (0, 0))]), (9, C32), (12, C47), (13, C50)]) ⟨(hΦ 8 (by decide)).1, (hΦ 8 (by decide)).2, (hΦ 10 (by decide)).1, (hΦ 10 (by decide)).2.1, (hΦ 10 (by decide)).2.2⟩ ⟨rfl, rfl, rfl, trivial⟩ ⟨rfl, rfl, rfl, rfl, rfl, rfl, rfl, rfl, trivial⟩ ?_
   rintro ⟨p36, p40, c38, c42, C39, C43, p45, p48, c46, c49, C44, C47, C50⟩ ⟨o39, o43, o44, o47, o50⟩
   dsimp only
   obtain ⟨x51, e51, H1⟩ := bS H1
   refine kw_bl_normal (kw_nx (cw_region (oM rfl (oP e51 rfl (oS rfl (ow_nil (kw_shut 7 9 12 13 o44 (Bun.setL (Bun.set hb32 _) _) (idx_some (idx_set hx24)).2.2 (idx_setD e23 (⟨x35.n, x35.w⟩ : Cp)) rfl o47 rfl o50 ?_)))))))
   rintro C52 o52
   exact kw_lqS (js := [1, 5, 6, 7, 8]) (fuel, (v19.set (Int.toNat v21) (⟨x35.n, x35.w⟩ : Cp)), x51, C52) ⟨H1, (by simp [hl20]), o52⟩ (Nat.lt_succ_self _) ⟨rfl, rfl, rfl, trivial⟩ ⟨1, [5, 6, 7, 8], rfl, rfl, 5, [6, 7, 8], rfl, rfl, 6, [7, 8], rfl, rfl, 7, [8], rfl, rfl, 8, [], rfl, rfl, trivial⟩ (by decide)
  have H1 := cond_f H1 h22
  refine cw_exit (kw_nx_exit (kw_lq_exit (kw_bl ?_)))
  obtain rfl := sI H1
  exact kw_joinS (js := [1, 5, 6, 7, 8]) (v19, v21, C20) ⟨rfl, (by simp [hl20]), o20⟩ ⟨rfl, rfl, rfl, trivial⟩ ⟨1, [5, 6, 7, 8], rfl, rfl, 5, [6, 7, 8], rfl, rfl, 6, [7, 8], rfl, rfl, 7, [8], rfl, rfl, 8, [], rfl, rfl, trivial⟩ (by decide)
 rintro ⟨v19, v21, C20⟩ ⟨rfl, hl20, o20⟩
 dsimp only
 refine kw_nx (sr (oB3 8 ts36 rfl (oC3 1 ts36 rfl rfl (oS rfl (nn (cw_ret ?_))))))
 obtain rfl := sI H0
 exact kr Tryd.results35 (.cons (.cellN (us := [_, _, _]) ts36 rfl (Cells.box (id := 1) rfl 3 rfl)) (rT rfl)) [5, 6, 7] ⟨_, _, _, _, _, _, _, _, _, _, _, _, rfl, rfl, rfl, o9, rfl, o13, (by simp [hl20]), o20⟩

theorem c_i_SettleSystem (fl : Nat) (w : World) (a0 : Sy) (hn0_0 : n0_0 = (a0.t.b).length) (hr0_0 : RO w (hkeys []) (RdL p0_0 c0_0 a0.t.b)) (hn0_1 : n0_1 = (a0.t.f).length) (hr0_1 : RO w (hkeys []) (RdL p0_1 c0_1 a0.t.f)) (hn0_2 : n0_2 = (a0.c).length) (hr0_2 : ROD w (hkeys []) p0_2 c0_2 a0.c) (hg : RO w (hkeys []) (fun w' => w'.rangeAt 0 0 [.bool false, .int .i64 0, .int .i64 0, .int .i64 0, .int .i64 (-1)])) (r : Sy × Bool) (H0 : i_SettleSystem fl a0 = some r) :
  Ct Tryd.prog 36 [.agg #[.slice p0_0 n0_0 c0_0, .slice p0_1 n0_1 c0_1, .slice p0_2 n0_2 c0_2]] w [] (fun rv h' => ∃ (x0 : Option Addr) (y0 z0 : Nat) (C0 : Res) (x1 : Option Addr) (y1 z1 : Nat) (C1 : Res) (x2 : Option Addr) (y2 z2 : Nat) (C2 : Res), rv = .tuple #[.agg #[.slice x0 y0 z0, .slice x1 y1 z1, .slice x2 y2 z2], .bool r.2] ∧ h' = [(0, C0), (1, C1), (2, C2)] ∧ y0 = (r.1.t.b).length ∧ OwnC 3 x0 z0 r.1.t.b C0 ∧ y1 = (r.1.t.f).length ∧ OwnC 84 x1 z1 r.1.t.f C1 ∧ y2 = (r.1.c).length ∧ OwnD 44 48 x2 z2 r.1.c C2) := by
 subst hn0_0 hn0_1 hn0_2
 unfold i_SettleSystem at H0
 refine ct_of_cw Tryd.func36 rfl Tryd.ntmps36 rfl (Sat.refl _ _) ?_
 refine sr (oE (stpU_box 0 rfl rfl) rfl ?_)
 rintro _ _ ⟨b1, rfl, rfl⟩
 refine oE (stpU_alloc 1 tz36 rfl) rfl ?_
 rintro _ _ ⟨b2, rfl, rfl⟩
 obtain ⟨x3, e3, H0⟩ := bS H0
 refine oS rfl (nn (cw_seq (sr (oB3 0 ts36 rfl (oE (stpU_call (fun i => 2 + i) cf18 (fun w hw => c_i_SystemValid fl w a0 rfl (RO.pass hr0_0 hw) rfl (RO.pass hr0_1 hw) rfl (ROD.pass hr0_2 hw) (RO.pass hg hw) x3 e3) (yA rfl)) rfl ?_)))))
 rintro _ _ ⟨_, ⟨rfl, rfl⟩, rfl⟩
 refine oK rfl (nn (cw_cond rfl (fun h4 => ?_) (fun h4 => ?_)))
 ·have H0 := cond_t H0 h4
  refine sr (oD (stp_build (cs := #[.slice none 0 0, .slice none 0 0, .slice none 0 0]) sevp_nil bt36_2) rfl (oC3 1 ts36 rfl rfl (oS rfl (nn (cw_ret (kw_nx_ret (kw_addNil 2 (kw_addNil 3 (kw_addNil 4 ?_)))))))))
  obtain rfl := sI H0
  exact kr Tryd.results36 (.cons (.cellN (us := [_, _, _]) ts36 rfl (Cells.box (id := 1) rfl 3 rfl)) (rT rfl)) [2, 3, 4] ⟨_, _, _, _, _, _, _, _, _, _, _, _, rfl, rfl, rfl, (OwnC.nil _ _), rfl, (OwnC.nil _ _), rfl, (OwnD.nil _ _ _)⟩
 have H0 := cond_f H0 h4
 obtain ⟨x5, e5, H0⟩ := bS H0
 refine cw_skip (kw_nx (sr (oB3 0 ts36 rfl (oE (stpU_call (fun i => 5 + i) cf72 (fun w hw => c_i_System_clone fl w a0 rfl (RO.pass hr0_0 hw) rfl (RO.pass hr0_1 hw) rfl (ROD.pass hr0_2 hw) x5 e5) (yA rfl)) rfl ?_))))
 rintro _ _ ⟨_, ⟨p6, _, c8, C9, p10, _, c12, C13, p14, _, c16, C17, rfl, rfl, rfl, o9, rfl, o13, rfl, o17⟩, rfl⟩
 refine oE (stpU_alloc 8 tz36 rfl) rfl ?_
 rintro _ _ ⟨b18, rfl, rfl⟩
 obtain ⟨o0_0, eo0_0, H0⟩ := bS H0
 refine oC3 8 ts36 rfl rfl (nn (cw_seq (sr (oA 2 Tryd.underlying36 rfl ts34 rfl (oL 8 ts34 rfl (oD (stp_len Tryd.underlying34 rfl) rfl (oM rfl (nn (cw_join (ι := (List Cp) × Int × Res) (fun | (v19, v21, C20) => o0_0 = .out (v19, v21) ∧ (x5.c).length = (v19).length ∧ OwnD 44 48 p14 c16 v19 C20) (fun | (v19, v21, C20) => [(2, .pointer (some ⟨b2, 0, none⟩)), (4, .pointer (some ⟨b18, 0, none⟩)), (14, .int .i64 ((x5.c).length : Int)), (15, .int .i64 v21)]) (fun | (v19, v21, C20) => [(1, [(b2, .cells #[.slice none 0 0, .slice none 0 0, .slice none 0 0] 36 (0, 0))]), (5, C9), (6, C13), (7, C20), (8, [(b18, .cells #[.slice p6 ((x5.t.b).length) c8, .slice p10 ((x5.t.f).length) c12, .slice p14 ((x5.c).length) c16] 36 (0, 0))])]) ?_ ?_)))))))))
 ·refine cw_block (cw_loopS (ι := Nat × (List Cp) × Int × Res) (js := [1, 5, 6, 7, 8]) (fun x => x.1) (fun | (fuel, v19, v21, C20) => i_SettleSystem_L0 fl x5 fuel v19 v21 = some o0_0 ∧ (x5.c).length = (v19).length ∧ OwnD 44 48 p14 c16 v19 C20) (fun | (_, v19, v21, C20) => [(2, .pointer (some ⟨b2, 0, none⟩)), (4, .pointer (some ⟨b18, 0, none⟩)), (14, .int .i64 ((x5.c).length : Int)), (15, .int .i64 v21)]) (fun | (_, v19, v21, C20) => [(1, [(b2, .cells #[.slice none 0 0, .slice none 0 0, .slice none 0 0] 36 (0, 0))]), (5, C9), (6, C13), (7, C20), (8, [(b18, .cells #[.slice p6 ((x5.t.b).length) c8, .slice p10 ((x5.t.f).length) c12, .slice p14 ((x5.c).length) c16] 36 (0, 0))])]) (fl, x5.c, 0, C17) ⟨eo0_0, rfl, o17⟩ ⟨rfl, rfl, rfl, rfl, trivial⟩ ⟨1, [5, 6, 7, 8], rfl, rfl, 5, [6, 7, 8], rfl, rfl, 6, [7, 8], rfl, rfl, 7, [8], rfl, rfl, 8, [], rfl, rfl, trivial⟩ (by decide) ?_)
  rintro ⟨fuel, v19, v21, C20⟩ ⟨H1, hl20, o20⟩
  have H1 : i_SettleSystem_L0 fl x5 fuel v19 v21 = some o0_0 := H1
  rcases fuel with _ | fuel
  ·rw [i_SettleSystem_L0.eq_1] at H1; cases H1
  rw [i_SettleSystem_L0.eq_2] at H1
  dsimp only
  refine sr (oW rfl (nn (cw_seq (cw_cond rfl (fun h22 => ?_) (fun h22 => ?_)))))
  ·have H1 := cond_t H1 h22
   obtain ⟨x23, e23, H1⟩ := bS H1
   refine cw_skip (kw_nx (cw_seq (cw_block (sr (oM rfl (oS rfl (nn (cw_region (oA 2 Tryd.underlying36 rfl ts34 rfl (oL 8 ts34 rfl (oM rfl (ow_open 7 9 10 11 rfl o20 e23 ?_))))))))))))
   rintro u24 p25 n26 c27 p28 n29 c30 C31 C32 C33 C34 o31 hb32 hx24 rfl o33 rfl o34
   refine oD (stp_indexAddr Tryd.underlying34 ts44 (by decide) rfl (Eq.trans (a := (x5.c).length) (b := (v19).length) (by simp [hl20]) (Bun.len hb32)) rfl (Rdb.own (id := 7) rfl o31) hx24) rfl (ow_shut 7 9 10 11 o31 hb32 (idx_some hx24).2.2 (idx_some e23).2.2 rfl o33 rfl o34 ?_)
   rintro C35 o35
   obtain ⟨x36, e36, H1⟩ := bS H1
   refine oE (stpU_callM (fun i => bif Nat.beq i 0 then 7 else 12 + i) cf81 (fun w hw hb => c_i_Cpu_ack fl w v19 v21 rfl o35 (hw.pass (js := [7]) ⟨7, [], rfl, rfl, trivial⟩ (by decide)) x36 e36) (yA rfl) ⟨rfl, (fun _ _ hp => by obtain ⟨_, _, rfl, _⟩ := hp; exact ⟨_, rfl⟩), trivial⟩) rfl ?_
   rintro _ _ ⟨_, ⟨C37, rfl, rfl, hl37, o37⟩, rfl⟩
   obtain ⟨x38, e38, H1⟩ := bS H1
   exact ow_nil (kw_bl_normal (kw_nx (cw_region (oP e38 rfl (oM rfl (ow_nil (kw_lqS (js := [1, 5, 6, 7, 8]) (fuel, x36, x38, C37) ⟨H1, (by simp [hl37, hl20]), o37⟩ (Nat.lt_succ_self _) ⟨rfl, rfl, rfl, rfl, trivial⟩ ⟨1, [5, 6, 7, 8], rfl, rfl, 5, [6, 7, 8], rfl, rfl, 6, [7, 8], rfl, rfl, 7, [8], rfl, rfl, 8, [], rfl, rfl, trivial⟩ (by decide))))))))
  have H1 := cond_f H1 h22
  refine cw_exit (kw_nx_exit (kw_lq_exit (kw_bl ?_)))
  obtain rfl := sI H1
  exact kw_joinS (js := [1, 5, 6, 7, 8]) (v19, v21, C20) ⟨rfl, (by simp [hl20]), o20⟩ ⟨rfl, rfl, rfl, rfl, trivial⟩ ⟨1, [5, 6, 7, 8], rfl, rfl, 5, [6, 7, 8], rfl, rfl, 6, [7, 8], rfl, rfl, 7, [8], rfl, rfl, 8, [], rfl, rfl, trivial⟩ (by decide)
 rintro ⟨v19, v21, C20⟩ ⟨rfl, hl20, o20⟩
 dsimp only
 refine kw_nx (sr (oB3 8 ts36 rfl (oC3 1 ts36 rfl rfl (oS rfl (nn (cw_ret ?_))))))
 obtain rfl := sI H0
 exact kr Tryd.results36 (.cons (.cellN (us := [_, _, _]) ts36 rfl (Cells.box (id := 1) rfl 3 rfl)) (rT rfl)) [5, 6, 7] ⟨_, _, _, _, _, _, _, _, _, _, _, _, rfl, rfl, rfl, o9, rfl, o13, (by simp [hl20]), o20⟩
end Go.Proofs.YtfnliecmagnkdaaDoor
