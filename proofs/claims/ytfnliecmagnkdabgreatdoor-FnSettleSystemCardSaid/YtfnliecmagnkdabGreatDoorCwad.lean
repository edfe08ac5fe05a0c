/- The walks: functions of the program return what their pure functions say. Printed by a program (gen.py). -/
import Derived.Test.YtfnliecmagnkdabGreatDoorCp
import Derived.Test.YtfnliecmagnkdabGreatDoorCt
import Derived.Test.YtfnliecmagnkdabGreatDoorMan
import Derived.Test.YtfnliecmagnkdabGreatDoorMap
import Derived.Test.YtfnliecmagnkdabGreatDoorCpy
import Derived.Test.YtfnliecmagnkdabGreatDoorClr
import Derived.Test.YtfnliecmagnkdabGreatDoorDp
import Derived.Test.YtfnliecmagnkdabGreatDoorSrt
import Derived.Test.YtfnliecmagnkdabGreatDoorE8
import Derived.Test.YtfnliecmagnkdabGreatDoorCwaa
import Derived.Test.YtfnliecmagnkdabGreatDoorCwab
import Derived.Test.YtfnliecmagnkdabGreatDoorCwac
set_option linter.unusedSimpArgs false
set_option linter.unusedVariables false
set_option linter.unusedSectionVars false
namespace Go.Proofs.YtfnliecmagnkdabGreatDoor
open Go.RowKit
set_option maxHeartbeats 4000000
set_option maxRecDepth 20000
variable {p0_0 p0_1 p0_2 : Option Addr} {n0_0 n0_1 n0_2 : Nat} {c0_0 c0_1 c0_2 : Nat} {C0_0 : Res}
theorem c_s_DrawHeldFrames (fl : Nat) (w : World) (a0 : (List UInt8)) (hn0_0 : n0_0 = (a0).length) (hr0_0 : RO w (hkeys []) (RdL p0_0 c0_0 a0)) (r : Sy) (H0 : s_DrawHeldFrames fl a0 = some r) :
  Ct Tryz.prog 36 [.slice p0_0 n0_0 c0_0] w [] (fun rv h' => ∃ (x0 : Option Addr) (y0 z0 : Nat) (C0 : Res) (x1 : Option Addr) (y1 z1 : Nat) (C1 : Res) (x2 : Option Addr) (y2 z2 : Nat) (C2 : Res), rv = .agg #[.slice x0 y0 z0, .slice x1 y1 z1, .slice x2 y2 z2] ∧ h' = [(0, C0), (1, C1), (2, C2)] ∧ y0 = (r.t.b).length ∧ OwnC 3 x0 z0 r.t.b C0 ∧ y1 = (r.t.f).length ∧ OwnC 72 x1 z1 r.t.f C1 ∧ y2 = (r.c).length ∧ OwnD 37 51 x2 z2 r.c C2) := by
 subst hn0_0
 unfold s_DrawHeldFrames at H0
 refine ct_of_cw Tryz.func36 rfl Tryz.ntmps36 rfl (Sat.refl _ _) ?_
 refine sr (oE (stpU_alloc 0 tz29 rfl) rfl ?_)
 rintro _ _ ⟨b1, rfl, rfl⟩
 obtain ⟨x2, e2, H0⟩ := bS H0
 refine nn (sr (oM rfl (oE (stpU_call (fun i => 1 + i) cf22 (fun w hw => c_s_l8At fl w a0 rfl (RO.pass hr0_0 hw) x2 e2) (yA rfl)) rfl ?_)))
 rintro _ _ ⟨_, ⟨p3, _, c5, C6, p7, _, c9, C10, p11, _, c13, C14, rfl, rfl, rfl, o6, rfl, o10, rfl, o14⟩, rfl⟩
 refine oM rfl (oT rfl (oT rfl (oT rfl (oE (stpU_alloc 4 tz29 rfl) rfl ?_))))
 rintro _ _ ⟨b15, rfl, rfl⟩
 refine oE (stpU_alloc 5 tz44 rfl) rfl ?_
 rintro _ _ ⟨b16, rfl, rfl⟩
 refine oC3 4 ts29 rfl rfl (oS rfl (oC2 5 ts44 rfl rfl (nn (sr (oB3 4 ts29 rfl (oC3 0 ts29 rfl rfl (nn (cw_ret ?_))))))))
 obtain rfl := sI H0
 exact kr Tryz.results36 (rC3 0 ts29 rfl rfl) [1, 2, 3] ⟨_, _, _, _, _, _, _, _, _, _, _, _, rfl, rfl, rfl, o6, rfl, o10, rfl, o14⟩

theorem c_s_DrawSettleSystem (fl : Nat) (w : World) (a0 : (List UInt8)) (hn0_0 : n0_0 = (a0).length) (hr0_0 : RO w (hkeys []) (RdL p0_0 c0_0 a0)) (r : Sy) (H0 : s_DrawSettleSystem fl a0 = some r) :
  Ct Tryz.prog 12 [.slice p0_0 n0_0 c0_0] w [] (fun rv h' => ∃ (x0 : Option Addr) (y0 z0 : Nat) (C0 : Res) (x1 : Option Addr) (y1 z1 : Nat) (C1 : Res) (x2 : Option Addr) (y2 z2 : Nat) (C2 : Res), rv = .agg #[.slice x0 y0 z0, .slice x1 y1 z1, .slice x2 y2 z2] ∧ h' = [(0, C0), (1, C1), (2, C2)] ∧ y0 = (r.t.b).length ∧ OwnC 3 x0 z0 r.t.b C0 ∧ y1 = (r.t.f).length ∧ OwnC 72 x1 z1 r.t.f C1 ∧ y2 = (r.c).length ∧ OwnD 37 51 x2 z2 r.c C2) := by
 subst hn0_0
 unfold s_DrawSettleSystem at H0
 refine ct_of_cw Tryz.func12 rfl Tryz.ntmps12 rfl (Sat.refl _ _) ?_
 refine sr (oE (stpU_alloc 0 tz29 rfl) rfl ?_)
 rintro _ _ ⟨b1, rfl, rfl⟩
 obtain ⟨x2, e2, H0⟩ := bS H0
 refine nn (sr (oM rfl (oE (stpU_call (fun i => 1 + i) cf36 (fun w hw => c_s_DrawHeldFrames fl w a0 rfl (RO.pass hr0_0 hw) x2 e2) (yA rfl)) rfl ?_)))
 rintro _ _ ⟨_, ⟨p3, _, c5, C6, p7, _, c9, C10, p11, _, c13, C14, rfl, rfl, rfl, o6, rfl, o10, rfl, o14⟩, rfl⟩
 refine oC3 0 ts29 rfl rfl (nn (cw_ret ?_))
 obtain rfl := sI H0
 exact kr Tryz.results12 (rC3 0 ts29 rfl rfl) [1, 2, 3] ⟨_, _, _, _, _, _, _, _, _, _, _, _, rfl, rfl, rfl, o6, rfl, o10, rfl, o14⟩

theorem c_i_Cpu_ack (fl : Nat) (w : World) (a0 : List Cp) (k0 : Int) (hn0_0 : n0_0 = (a0).length) (ho0_0 : OwnD 37 51 p0_0 c0_0 a0 C0_0) (hM : Sat w (hkeys [(0, C0_0)]) w [(0, C0_0)]) (r : (List Cp)) (H0 : i_Cpu_ack fl a0 k0 = some r) :
  Ct Tryz.prog 25 [.pointer (some ⟨eB p0_0, eO p0_0 + Int.toNat k0 * Enc.sz CpS + 0, none⟩)] w [(0, C0_0)] (fun rv h' => ∃ (D0 : Res), rv = .tuple #[] ∧ h' = [(0, D0)] ∧ n0_0 = (r).length ∧ OwnD 37 51 p0_0 c0_0 r D0) := by
 subst hn0_0
 unfold i_Cpu_ack at H0
 refine ct_of_cw Tryz.func25 rfl Tryz.ntmps25 rfl hM ?_
 obtain ⟨x1, e1, H0⟩ := bS H0
 refine cw_seq (sr (oM rfl (oZ rfl (oA 1 Tryz.underlying37 rfl ts35 rfl (ow_open 0 1 2 3 rfl ho0_0 e1 ?_)))))
 rintro u2 p3 n4 c5 p6 n7 c8 C9 C10 C11 C12 o9 hb10 hx2 rfl o11 rfl o12
 obtain ⟨o0_0, eo0_0, H0⟩ := bS H0
 refine oD (stp_load1 ts35 rfl (Cells.el (Rdb.own (id := 0) rfl o9) (by decide) hx2 1 1 rfl)) rfl (oD (stp_len Tryz.underlying35 rfl) rfl (oM rfl (nn (cw_join (ι := (List Nt) × Int × Option Addr × Nat × Nat × Res × (List CpS) × Res) (fun | (v13, v18, p14, n15, c16, C17, u19, C20) => o0_0 = .out (v13, v18) ∧ n15 = (v13).length ∧ OwnC 51 p14 c16 v13 C17 ∧ Bun 51 u19 a0 (Int.toNat k0) C10 ∧ idx u19 k0 = some (⟨p14, n15, c16, p6, (x1.w).length, c8⟩ : CpS) ∧ OwnC (α := CpS) 37 p0_0 c0_0 u19 C20) (fun | (v13, v18, p14, n15, c16, C17, u19, C20) => [(0, .pointer (some ⟨eB p0_0, eO p0_0 + Int.toNat k0 * Enc.sz CpS + 0, none⟩)), (7, .slice p6 ((x1.w).length) c8), (8, .int .i64 ((x1.w).length : Int)), (9, .int .i64 v18)]) (fun | (v13, v18, p14, n15, c16, C17, u19, C20) => [(0, C20), (1, C10), (2, C17), (3, C12)]) ?_ ?_))))
 ·refine cw_block (cw_loopS (ι := Nat × (List Nt) × Int × Option Addr × Nat × Nat × Res × (List CpS) × Res) (js := [0, 1, 2, 3]) (fun x => x.1) (fun | (fuel, v13, v18, p14, n15, c16, C17, u19, C20) => i_Cpu_ack_L0 fl x1 fuel v13 v18 = some o0_0 ∧ n15 = (v13).length ∧ OwnC 51 p14 c16 v13 C17 ∧ Bun 51 u19 a0 (Int.toNat k0) C10 ∧ idx u19 k0 = some (⟨p14, n15, c16, p6, (x1.w).length, c8⟩ : CpS) ∧ OwnC (α := CpS) 37 p0_0 c0_0 u19 C20) (fun | (_, v13, v18, p14, n15, c16, C17, u19, C20) => [(0, .pointer (some ⟨eB p0_0, eO p0_0 + Int.toNat k0 * Enc.sz CpS + 0, none⟩)), (7, .slice p6 ((x1.w).length) c8), (8, .int .i64 ((x1.w).length : Int)), (9, .int .i64 v18)]) (fun | (_, v13, v18, p14, n15, c16, C17, u19, C20) => [(0, C20), (1, C10), (2, C17), (3, C12)]) (fl, x1.n, 0, p3, ((x1.n).length), c5, C11, u2, C9) ⟨eo0_0, rfl, o11, hb10, hx2, o9⟩ ⟨rfl, rfl, rfl, rfl, trivial⟩ ⟨0, [1, 2, 3], rfl, rfl, 1, [2, 3], rfl, rfl, 2, [3], rfl, rfl, 3, [], rfl, rfl, trivial⟩ (by decide) ?_)
  rintro ⟨fuel, v13, v18, p14, _, c16, C17, u19, C20⟩ ⟨H1, rfl, o17, hb20, hx20, o20⟩
  have H1 : i_Cpu_ack_L0 fl x1 fuel v13 v18 = some o0_0 := H1
  rcases fuel with _ | fuel
  ·rw [i_Cpu_ack_L0.eq_1] at H1; cases H1
  rw [i_Cpu_ack_L0.eq_2] at H1
  dsimp only
  refine sr (oW rfl (nn (cw_seq (cw_cond rfl (fun h21 => ?_) (fun h21 => ?_)))))
  ·have H1 := cond_t H1 h21
   obtain ⟨x22, e22, H1⟩ := bS H1
   refine cw_skip (kw_nx (cw_seq (cw_block (sr (oD (stp_indexAddr Tryz.underlying35 ts51 (by decide) rfl rfl rfl (Rdb.own (id := 3) rfl o12) e22) rfl (oD (stp_loadN (us := [_, _, _]) ts51 rfl (Cells.el (Rdb.own (id := 3) rfl o12) (by decide) e22 0 3 rfl)) rfl (oE (stpU_alloc 4 tz51 rfl) rfl ?_)))))))
   rintro _ _ ⟨b23, rfl, rfl⟩
   obtain ⟨x24, e24, H1⟩ := bS H1
   refine oC3 4 ts51 rfl rfl (nn (rdq g_mixed [0, 3] [0, 2, 4] { dst := dS [14, 15, 16, 17, 18, 19, 20, 21, 22, 23, 0], pre := gA [] [[], [], [1], [1, 2], [1, 2, 3], [], [5], rn 1 6, rn 0 8, rn 0 9, rn 0 10], ids := gA [] [[], [], [], [], [], [], [], [5], [], [], [0, 5]], rs := rL [[(0, 0)], [(0, 0)], [(14, 2)], [(15, 3)], [(16, 4)], [(3, 0)], [(18, 6)], [(17, 5), (19, 7)], [(13, 1)], [(21, 9)], [(22, 10), (20, 8)]], rh := rL [[], [], [], [], [(0, 0)], [], [(4, 0)], [(2, 0)], [], [], [(0, 0), (5, 8)]], V := fun i g => gA undef [.pointer (some ⟨eB p0_0, eO p0_0 + Int.toNat k0 * Enc.sz CpS + 0, none⟩), .pointer (some ⟨eB p0_0, eO p0_0 + Int.toNat k0 * Enc.sz CpS + 0, none⟩), .pointer (some ⟨eB p0_0, eO p0_0 + Int.toNat k0 * Enc.sz CpS + 0, none⟩), .pointer (some ⟨eB p0_0, eO p0_0 + Int.toNat k0 * Enc.sz CpS + 0, none⟩), .slice p14 ((v13).length) c16, .pointer (some ⟨b23, 0, none⟩), .agg #[.int .i64 x22.k.s, .int .i64 x22.k.p], .slice ((g 7).A 0) ((x24).length) ((g 7).C 0), .pointer (some ⟨eB p0_0, eO p0_0 + Int.toNat k0 * Enc.sz CpS + 0, none⟩), .pointer (some ⟨eB p0_0, eO p0_0 + Int.toNat k0 * Enc.sz CpS + 0, none⟩)] i, U := fun i g => match i with | 7 => [(5, ((g 7).R 0))] | 10 => [(0, ((g 10).R 0)), (5, ((g 10).R 1))] | _ => [], Φ := fun i x => match i with | 7 => OwnC 51 (x.A 0) (x.C 0) x24 (x.R 0) | 10 => OwnC (α := CpS) 37 p0_0 c0_0 (u19.set (Int.toNat k0) (⟨(x.A 0), (x24).length, (x.C 0), p6, (x1.w).length, c8⟩ : CpS)) (x.R 0) ∧ OwnC 51 (x.A 0) (x.C 0) x24 (x.R 1) | _ => True } ?_ ?_))
   ·refine ⟨lM, lM, lc rfl rfl fun hs hh => stp_nilCheck (sv hs 14 rfl), lc rfl rfl fun hs hh => stp_fieldAddr (j := 0) Tryz.underlying37 rfl ts35 rfl (sv hs 15 rfl) rfl, lc rfl rfl fun hs hh => stp_load1 ts35 (sv hs 16 rfl) (Cells.el (Rdb.own (id := 0) (hh.get 0 _ rfl) o20) (by decide) hx20 0 1 rfl), lc rfl rfl fun hs hh => stp_fieldAddr (j := 0) Tryz.underlying51 rfl ts44 rfl (sv hs 3 rfl) rfl, lc rfl rfl fun hs hh => stp_loadN (us := [_, _]) ts44 (sv hs 18 rfl) (Cells.box (id := 4) (hh.get 4 _ rfl) 2 rfl), ?_, lc rfl rfl fun hs hh => stp_nilCheck (sv hs 13 rfl), lc rfl rfl fun hs hh => stp_fieldAddr (j := 0) Tryz.underlying37 rfl ts35 rfl (sv hs 21 rfl) rfl, ?_, trivial⟩
    ·refine le rfl rfl (fun g hΦ s h hs hh => (stpU_call (fun i => 5 + i) cf44 (fun w hw => c_i_drop fl w v13 x22.k rfl (OwnC.pass (id := 2) (hh.get 2 _ rfl) o17 hw) x24 e24) (yB (sv hs 17 rfl) (sv hs 19 rfl)))) ?_
     rintro g _ _ ⟨_, ⟨p25, _, c27, C28, rfl, rfl, rfl, o28⟩, rfl⟩
     exact ⟨⟨[p25], [c27], [C28]⟩, o28, .inr rfl, rfl⟩
    refine le rfl rfl (fun g hΦ s h hs hh => (stpU_keep (hh.get 5 _ rfl) (stpU_storeEl (id := 0) (i := 0) (⟨((g 7).A 0), (x24).length, ((g 7).C 0), p6, (x1.w).length, c8⟩ : CpS) (by decide) ts35 (sv hs 22 rfl) (sv hs 20 rfl) (hh.get 0 _ rfl) o20 hx20 rfl rfl rfl rfl) (by rintro _ _ ⟨_, rfl, _⟩; rfl) (hΦ 7 rfl))) ?_
    rintro g _ _ ⟨_, ⟨C29, rfl, o29⟩, rfl, o32⟩
    exact ⟨⟨[((g 7).A 0)], [((g 7).C 0)], [C29, ((g 7).R 0)]⟩, ⟨o29, o32⟩, .inl rfl, rfl⟩
   intro g hΦ
   refine kw_gen (ι := Option Addr × Nat × Res × Option Addr × Nat × Res × Res) (((g 7).A 0), ((g 7).C 0), ((g 7).R 0), ((g 10).A 0), ((g 10).C 0), ((g 10).R 0), ((g 10).R 1)) (fun | (p25, c27, C28, p30, c31, C29, C32) => OwnC 51 p25 c27 x24 C28 ∧ OwnC (α := CpS) 37 p0_0 c0_0 (u19.set (Int.toNat k0) (⟨p30, (x24).length, c31, p6, (x1.w).length, c8⟩ : CpS)) C29 ∧ OwnC 51 p30 c31 x24 C32) (fun | (p25, c27, C28, p30, c31, C29, C32) => [(0, .pointer (some ⟨eB p0_0, eO p0_0 + Int.toNat k0 * Enc.sz CpS + 0, none⟩)), (7, .slice p6 ((x1.w).length) c8), (8, .int .i64 ((x1.w).length : Int)), (9, .int .i64 v18)]) (fun | (p25, c27, C28, p30, c31, C29, C32) => [(0, C29), (1, C10), (3, C12), (5, C32)]) ⟨(hΦ 7 (by decide)), (hΦ 10 (by decide)).1, (hΦ 10 (by decide)).2⟩ ⟨rfl, rfl, rfl, rfl, trivial⟩ ⟨rfl, rfl, rfl, rfl, trivial⟩ ?_
   rintro ⟨p25, c27, C28, p30, c31, C29, C32⟩ ⟨o28, o29, o32⟩
   dsimp only
   obtain ⟨x33, e33, H1⟩ := bS H1
   exact kw_bl_normal (kw_nx (cw_region (oP e33 rfl (oM rfl (ow_nil (kw_lqS (js := [0, 1, 5, 3]) (fuel, x24, x33, p30, ((x24).length), c31, C32, (u19.set (Int.toNat k0) (⟨p30, (x24).length, c31, p6, (x1.w).length, c8⟩ : CpS)), C29) ⟨H1, rfl, o32, (Bun.set hb20 _), (idx_set hx20), o29⟩ (Nat.lt_succ_self _) ⟨rfl, rfl, rfl, rfl, trivial⟩ ⟨0, [1, 5, 3], rfl, rfl, 1, [5, 3], rfl, rfl, 5, [3], rfl, rfl, 3, [], rfl, rfl, trivial⟩ (by decide)))))))
  have H1 := cond_f H1 h21
  refine cw_exit (kw_nx_exit (kw_lq_exit (kw_bl ?_)))
  obtain rfl := sI H1
  exact kw_joinS (js := [0, 1, 2, 3]) (v13, v18, p14, ((v13).length), c16, C17, u19, C20) ⟨rfl, rfl, o17, hb20, hx20, o20⟩ ⟨rfl, rfl, rfl, rfl, trivial⟩ ⟨0, [1, 2, 3], rfl, rfl, 1, [2, 3], rfl, rfl, 2, [3], rfl, rfl, 3, [], rfl, rfl, trivial⟩ (by decide)
 rintro ⟨v13, v18, p14, _, c16, C17, u19, C20⟩ ⟨rfl, rfl, o17, hb20, hx20, o20⟩
 dsimp only
 refine kw_nx (cw_region (oM rfl (oZ rfl (oA 1 Tryz.underlying37 rfl ts35 rfl (oF (stpU_storeEl (id := 0) (i := 1) (⟨p14, (v13).length, c16, none, 0, 0⟩ : CpS) (by decide) ts35 rfl rfl rfl o20 hx20 rfl rfl rfl rfl) ?_)))))
 rintro _ _ ⟨C34, rfl, o34⟩
 refine ow_nil (kw_addNil 6 (kw_shut 0 1 2 6 o34 (Bun.setL (Bun.set hb20 _) _) (idx_some (idx_set hx20)).2.2 (idx_setD e1 (⟨v13, ([] : List Nt)⟩ : Cp)) rfl o17 rfl (OwnC.nil 51 none) ?_))
 rintro C35 o35
 obtain rfl := sI H0
 exact ke Tryz.results25 .nil [0] ⟨_, rfl, rfl, (by simp), o35⟩

theorem c_i_SettleSystem (fl : Nat) (w : World) (a0 : Sy) (hn0_0 : n0_0 = (a0.t.b).length) (hr0_0 : RO w (hkeys []) (RdL p0_0 c0_0 a0.t.b)) (hn0_1 : n0_1 = (a0.t.f).length) (hr0_1 : RO w (hkeys []) (RdL p0_1 c0_1 a0.t.f)) (hn0_2 : n0_2 = (a0.c).length) (hr0_2 : ROD w (hkeys []) p0_2 c0_2 a0.c) (hg : RO w (hkeys []) (fun w' => w'.rangeAt 0 0 [.bool false, .int .i64 0, .int .i64 0, .int .i64 0, .int .i64 (-1)])) (r : Sy × Bool) (H0 : i_SettleSystem fl a0 = some r) :
  Ct Tryz.prog 13 [.agg #[.slice p0_0 n0_0 c0_0, .slice p0_1 n0_1 c0_1, .slice p0_2 n0_2 c0_2]] w [] (fun rv h' => ∃ (x0 : Option Addr) (y0 z0 : Nat) (C0 : Res) (x1 : Option Addr) (y1 z1 : Nat) (C1 : Res) (x2 : Option Addr) (y2 z2 : Nat) (C2 : Res), rv = .tuple #[.agg #[.slice x0 y0 z0, .slice x1 y1 z1, .slice x2 y2 z2], .bool r.2] ∧ h' = [(0, C0), (1, C1), (2, C2)] ∧ y0 = (r.1.t.b).length ∧ OwnC 3 x0 z0 r.1.t.b C0 ∧ y1 = (r.1.t.f).length ∧ OwnC 72 x1 z1 r.1.t.f C1 ∧ y2 = (r.1.c).length ∧ OwnD 37 51 x2 z2 r.1.c C2) := by
 subst hn0_0 hn0_1 hn0_2
 unfold i_SettleSystem at H0
 refine ct_of_cw Tryz.func13 rfl Tryz.ntmps13 rfl (Sat.refl _ _) ?_
 refine sr (oE (stpU_box 0 rfl rfl) rfl ?_)
 rintro _ _ ⟨b1, rfl, rfl⟩
 refine oE (stpU_alloc 1 tz29 rfl) rfl ?_
 rintro _ _ ⟨b2, rfl, rfl⟩
 obtain ⟨x3, e3, H0⟩ := bS H0
 refine oS rfl (nn (cw_seq (sr (oB3 0 ts29 rfl (oE (stpU_call (fun i => 2 + i) cf15 (fun w hw => c_i_SystemValid fl w a0 rfl (RO.pass hr0_0 hw) rfl (RO.pass hr0_1 hw) rfl (ROD.pass hr0_2 hw) (RO.pass hg hw) x3 e3) (yA rfl)) rfl ?_)))))
 rintro _ _ ⟨_, ⟨rfl, rfl⟩, rfl⟩
 refine oK rfl (nn (cw_cond rfl (fun h4 => ?_) (fun h4 => ?_)))
 ·have H0 := cond_t H0 h4
  refine sr (oD (stp_build (cs := #[.slice none 0 0, .slice none 0 0, .slice none 0 0]) sevp_nil bt29_2) rfl (oC3 1 ts29 rfl rfl (oS rfl (nn (cw_ret (kw_nx_ret (kw_addNil 2 (kw_addNil 3 (kw_addNil 4 ?_)))))))))
  obtain rfl := sI H0
  exact kr Tryz.results13 (.cons (.cellN (us := [_, _, _]) ts29 rfl (Cells.box (id := 1) rfl 3 rfl)) (rT rfl)) [2, 3, 4] ⟨_, _, _, _, _, _, _, _, _, _, _, _, rfl, rfl, rfl, (OwnC.nil _ _), rfl, (OwnC.nil _ _), rfl, (OwnD.nil _ _ _)⟩
 have H0 := cond_f H0 h4
 obtain ⟨x5, e5, H0⟩ := bS H0
 refine cw_skip (kw_nx (sr (oB3 0 ts29 rfl (oE (stpU_call (fun i => 5 + i) cf24 (fun w hw => c_i_System_clone fl w a0 rfl (RO.pass hr0_0 hw) rfl (RO.pass hr0_1 hw) rfl (ROD.pass hr0_2 hw) x5 e5) (yA rfl)) rfl ?_))))
 rintro _ _ ⟨_, ⟨p6, _, c8, C9, p10, _, c12, C13, p14, _, c16, C17, rfl, rfl, rfl, o9, rfl, o13, rfl, o17⟩, rfl⟩
 refine oE (stpU_alloc 8 tz29 rfl) rfl ?_
 rintro _ _ ⟨b18, rfl, rfl⟩
 obtain ⟨o0_0, eo0_0, H0⟩ := bS H0
 refine oC3 8 ts29 rfl rfl (nn (cw_seq (sr (oA 2 Tryz.underlying29 rfl ts27 rfl (oL 8 ts27 rfl (oD (stp_len Tryz.underlying27 rfl) rfl (oM rfl (nn (cw_join (ι := (List Cp) × Int × Res) (fun | (v19, v21, C20) => o0_0 = .out (v19, v21) ∧ (x5.c).length = (v19).length ∧ OwnD 37 51 p14 c16 v19 C20) (fun | (v19, v21, C20) => [(2, .pointer (some ⟨b2, 0, none⟩)), (4, .pointer (some ⟨b18, 0, none⟩)), (14, .int .i64 ((x5.c).length : Int)), (15, .int .i64 v21)]) (fun | (v19, v21, C20) => [(1, [(b2, .cells #[.slice none 0 0, .slice none 0 0, .slice none 0 0] 29 (0, 0))]), (5, C9), (6, C13), (7, C20), (8, [(b18, .cells #[.slice p6 ((x5.t.b).length) c8, .slice p10 ((x5.t.f).length) c12, .slice p14 ((x5.c).length) c16] 29 (0, 0))])]) ?_ ?_)))))))))
 ·refine cw_block (cw_loopS (ι := Nat × (List Cp) × Int × Res) (js := [1, 5, 6, 7, 8]) (fun x => x.1) (fun | (fuel, v19, v21, C20) => i_SettleSystem_L0 fl x5 fuel v19 v21 = some o0_0 ∧ (x5.c).length = (v19).length ∧ OwnD 37 51 p14 c16 v19 C20) (fun | (_, v19, v21, C20) => [(2, .pointer (some ⟨b2, 0, none⟩)), (4, .pointer (some ⟨b18, 0, none⟩)), (14, .int .i64 ((x5.c).length : Int)), (15, .int .i64 v21)]) (fun | (_, v19, v21, C20) => [(1, [(b2, .cells #[.slice none 0 0, .slice none 0 0, .slice none 0 0] 29 (0, 0))]), (5, C9), (6, C13), (7, C20), (8, [(b18, .cells #[.slice p6 ((x5.t.b).length) c8, .slice p10 ((x5.t.f).length) c12, .slice p14 ((x5.c).length) c16] 29 (0, 0))])]) (fl, x5.c, 0, C17) ⟨eo0_0, rfl, o17⟩ ⟨rfl, rfl, rfl, rfl, trivial⟩ ⟨1, [5, 6, 7, 8], rfl, rfl, 5, [6, 7, 8], rfl, rfl, 6, [7, 8], rfl, rfl, 7, [8], rfl, rfl, 8, [], rfl, rfl, trivial⟩ (by decide) ?_)
  rintro ⟨fuel, v19, v21, C20⟩ ⟨H1, hl20, o20⟩
  have H1 : i_SettleSystem_L0 fl x5 fuel v19 v21 = some o0_0 := H1
  rcases fuel with _ | fuel
  ·rw [i_SettleSystem_L0.eq_1] at H1; cases H1
  rw [i_SettleSystem_L0.eq_2] at H1
  dsimp only
  refine sr (oW rfl (nn (cw_seq (cw_cond rfl (fun h22 => ?_) (fun h22 => ?_)))))
  ·have H1 := cond_t H1 h22
   obtain ⟨x23, e23, H1⟩ := bS H1
   refine cw_skip (kw_nx (cw_seq (cw_block (sr (oM rfl (oS rfl (nn (cw_region (oA 2 Tryz.underlying29 rfl ts27 rfl (oL 8 ts27 rfl (oM rfl (ow_open 7 9 10 11 rfl o20 e23 ?_))))))))))))
   rintro u24 p25 n26 c27 p28 n29 c30 C31 C32 C33 C34 o31 hb32 hx24 rfl o33 rfl o34
   refine oD (stp_indexAddr Tryz.underlying27 ts37 (by decide) rfl (Eq.trans (a := (x5.c).length) (b := (v19).length) (by simp [hl20]) (Bun.len hb32)) rfl (Rdb.own (id := 7) rfl o31) hx24) rfl (ow_shut 7 9 10 11 o31 hb32 (idx_some hx24).2.2 (idx_some e23).2.2 rfl o33 rfl o34 ?_)
   rintro C35 o35
   obtain ⟨x36, e36, H1⟩ := bS H1
   refine oE (stpU_callM (fun i => bif Nat.beq i 0 then 7 else 12 + i) cf25 (fun w hw hb => c_i_Cpu_ack fl w v19 v21 rfl o35 (hw.pass (js := [7]) ⟨7, [], rfl, rfl, trivial⟩ (by decide)) x36 e36) (yA rfl) ⟨rfl, (fun _ _ hp => by obtain ⟨_, _, rfl, _⟩ := hp; exact ⟨_, rfl⟩), trivial⟩) rfl ?_
   rintro _ _ ⟨_, ⟨C37, rfl, rfl, hl37, o37⟩, rfl⟩
   obtain ⟨x38, e38, H1⟩ := bS H1
   exact ow_nil (kw_bl_normal (kw_nx (cw_region (oP e38 rfl (oM rfl (ow_nil (kw_lqS (js := [1, 5, 6, 7, 8]) (fuel, x36, x38, C37) ⟨H1, (by simp [hl37, hl20]), o37⟩ (Nat.lt_succ_self _) ⟨rfl, rfl, rfl, rfl, trivial⟩ ⟨1, [5, 6, 7, 8], rfl, rfl, 5, [6, 7, 8], rfl, rfl, 6, [7, 8], rfl, rfl, 7, [8], rfl, rfl, 8, [], rfl, rfl, trivial⟩ (by decide))))))))
  have H1 := cond_f H1 h22
  refine cw_exit (kw_nx_exit (kw_lq_exit (kw_bl ?_)))
  obtain rfl := sI H1
  exact kw_joinS (js := [1, 5, 6, 7, 8]) (v19, v21, C20) ⟨rfl, (by simp [hl20]), o20⟩ ⟨rfl, rfl, rfl, rfl, trivial⟩ ⟨1, [5, 6, 7, 8], rfl, rfl, 5, [6, 7, 8], rfl, rfl, 6, [7, 8], rfl, rfl, 7, [8], rfl, rfl, 8, [], rfl, rfl, trivial⟩ (by decide)
 rintro ⟨v19, v21, C20⟩ ⟨rfl, hl20, o20⟩
 dsimp only
 refine kw_nx (sr (oB3 8 ts29 rfl (oC3 1 ts29 rfl rfl (oS rfl (nn (cw_ret ?_))))))
 obtain rfl := sI H0
 exact kr Tryz.results13 (.cons (.cellN (us := [_, _, _]) ts29 rfl (Cells.box (id := 1) rfl 3 rfl)) (rT rfl)) [5, 6, 7] ⟨_, _, _, _, _, _, _, _, _, _, _, _, rfl, rfl, rfl, o9, rfl, o13, (by simp [hl20]), o20⟩

theorem c_s_SettleSystem (fl : Nat) (w : World) (a0 : Sy) (hn0_0 : n0_0 = (a0.t.b).length) (hr0_0 : RO w (hkeys []) (RdL p0_0 c0_0 a0.t.b)) (hn0_1 : n0_1 = (a0.t.f).length) (hr0_1 : RO w (hkeys []) (RdL p0_1 c0_1 a0.t.f)) (hn0_2 : n0_2 = (a0.c).length) (hr0_2 : ROD w (hkeys []) p0_2 c0_2 a0.c) (r : Sy × Bool) (H0 : s_SettleSystem fl a0 = some r) :
  Ct Tryz.prog 14 [.agg #[.slice p0_0 n0_0 c0_0, .slice p0_1 n0_1 c0_1, .slice p0_2 n0_2 c0_2]] w [] (fun rv h' => ∃ (x0 : Option Addr) (y0 z0 : Nat) (C0 : Res) (x1 : Option Addr) (y1 z1 : Nat) (C1 : Res) (x2 : Option Addr) (y2 z2 : Nat) (C2 : Res), rv = .tuple #[.agg #[.slice x0 y0 z0, .slice x1 y1 z1, .slice x2 y2 z2], .bool r.2] ∧ h' = [(0, C0), (1, C1), (2, C2)] ∧ y0 = (r.1.t.b).length ∧ OwnC 3 x0 z0 r.1.t.b C0 ∧ y1 = (r.1.t.f).length ∧ OwnC 72 x1 z1 r.1.t.f C1 ∧ y2 = (r.1.c).length ∧ OwnD 37 51 x2 z2 r.1.c C2) := by
 subst hn0_0 hn0_1 hn0_2
 unfold s_SettleSystem at H0
 refine ct_of_cw Tryz.func14 rfl Tryz.ntmps14 rfl (Sat.refl _ _) ?_
 refine sr (oE (stpU_box 0 rfl rfl) rfl ?_)
 rintro _ _ ⟨b1, rfl, rfl⟩
 refine oE (stpU_alloc 1 tz29 rfl) rfl ?_
 rintro _ _ ⟨b2, rfl, rfl⟩
 obtain ⟨x3, e3, H0⟩ := bS H0
 refine oS rfl (nn (cw_seq (sr (oB3 0 ts29 rfl (oE (stpU_call (fun i => 2 + i) cf37 (fun w hw => c_s_SystemValid fl w a0 rfl (RO.pass hr0_0 hw) rfl (RO.pass hr0_1 hw) rfl (ROD.pass hr0_2 hw) x3 e3) (yA rfl)) rfl ?_)))))
 rintro _ _ ⟨_, ⟨rfl, rfl⟩, rfl⟩
 refine oK rfl (nn (cw_cond rfl (fun h4 => ?_) (fun h4 => ?_)))
 ·have H0 := cond_t H0 h4
  refine sr (oD (stp_build (cs := #[.slice none 0 0, .slice none 0 0, .slice none 0 0]) sevp_nil bt29_2) rfl (oC3 1 ts29 rfl rfl (oS rfl (nn (cw_ret (kw_nx_ret (kw_addNil 2 (kw_addNil 3 (kw_addNil 4 ?_)))))))))
  obtain rfl := sI H0
  exact kr Tryz.results14 (.cons (.cellN (us := [_, _, _]) ts29 rfl (Cells.box (id := 1) rfl 3 rfl)) (rT rfl)) [2, 3, 4] ⟨_, _, _, _, _, _, _, _, _, _, _, _, rfl, rfl, rfl, (OwnC.nil _ _), rfl, (OwnC.nil _ _), rfl, (OwnD.nil _ _ _)⟩
 have H0 := cond_f H0 h4
 obtain ⟨x5, e5, H0⟩ := bS H0
 refine cw_skip (kw_nx (sr (oB3 0 ts29 rfl (oE (stpU_call (fun i => 5 + i) cf27 (fun w hw => c_s_l8Copy fl w a0 rfl (RO.pass hr0_0 hw) rfl (RO.pass hr0_1 hw) rfl (ROD.pass hr0_2 hw) x5 e5) (yA rfl)) rfl ?_))))
 rintro _ _ ⟨_, ⟨p6, _, c8, C9, p10, _, c12, C13, p14, _, c16, C17, rfl, rfl, rfl, o9, rfl, o13, rfl, o17⟩, rfl⟩
 refine oE (stpU_alloc 8 tz29 rfl) rfl ?_
 rintro _ _ ⟨b18, rfl, rfl⟩
 obtain ⟨o0_0, eo0_0, H0⟩ := bS H0
 refine oC3 8 ts29 rfl rfl (nn (cw_seq (sr (oS rfl (nn (cw_join (ι := (List Cp) × Int × Res) (fun | (v19, v21, C20) => o0_0 = .out (v19, v21) ∧ (x5.c).length = (v19).length ∧ OwnD 37 51 p14 c16 v19 C20) (fun | (v19, v21, C20) => [(2, .pointer (some ⟨b2, 0, none⟩)), (4, .pointer (some ⟨b18, 0, none⟩)), (5, .int .i64 v21)]) (fun | (v19, v21, C20) => [(1, [(b2, .cells #[.slice none 0 0, .slice none 0 0, .slice none 0 0] 29 (0, 0))]), (5, C9), (6, C13), (7, C20), (8, [(b18, .cells #[.slice p6 ((x5.t.b).length) c8, .slice p10 ((x5.t.f).length) c12, .slice p14 ((x5.c).length) c16] 29 (0, 0))])]) ?_ ?_))))))
 ·refine cw_block (cw_loopS (ι := Nat × (List Cp) × Int × Res) (js := [1, 5, 6, 7, 8]) (fun x => x.1) (fun | (fuel, v19, v21, C20) => s_SettleSystem_L0 fl x5 fuel v19 v21 = some o0_0 ∧ (x5.c).length = (v19).length ∧ OwnD 37 51 p14 c16 v19 C20) (fun | (_, v19, v21, C20) => [(2, .pointer (some ⟨b2, 0, none⟩)), (4, .pointer (some ⟨b18, 0, none⟩)), (5, .int .i64 v21)]) (fun | (_, v19, v21, C20) => [(1, [(b2, .cells #[.slice none 0 0, .slice none 0 0, .slice none 0 0] 29 (0, 0))]), (5, C9), (6, C13), (7, C20), (8, [(b18, .cells #[.slice p6 ((x5.t.b).length) c8, .slice p10 ((x5.t.f).length) c12, .slice p14 ((x5.c).length) c16] 29 (0, 0))])]) (fl, x5.c, 0, C17) ⟨eo0_0, rfl, o17⟩ ⟨rfl, rfl, rfl, trivial⟩ ⟨1, [5, 6, 7, 8], rfl, rfl, 5, [6, 7, 8], rfl, rfl, 6, [7, 8], rfl, rfl, 7, [8], rfl, rfl, 8, [], rfl, rfl, trivial⟩ (by decide) ?_)
  rintro ⟨fuel, v19, v21, C20⟩ ⟨H1, hl20, o20⟩
  have H1 : s_SettleSystem_L0 fl x5 fuel v19 v21 = some o0_0 := H1
  rcases fuel with _ | fuel
  ·rw [s_SettleSystem_L0.eq_1] at H1; cases H1
  rw [s_SettleSystem_L0.eq_2] at H1
  dsimp only
  refine cw_seq (sr (oM rfl (oA 2 Tryz.underlying29 rfl ts27 rfl (oL 8 ts27 rfl (oD (stp_len Tryz.underlying27 rfl) rfl (oW rfl (nn (cw_cond rfl (fun h22 => ?_) (fun h22 => ?_)))))))))
  ·have H1 := cond_t H1 h22
   obtain ⟨x23, e23, H1⟩ := bS H1
   refine cw_skip (kw_nx (cw_seq (cw_block (cw_open 7 9 10 11 rfl o20 e23 ?_))))
   rintro u24 p25 n26 c27 p28 n29 c30 C31 C32 C33 C34 o31 hb32 hx24 rfl o33 rfl o34
   obtain ⟨x35, e35, H1⟩ := bS H1
   refine rdq g_mixed [4, 5] [7, 8, 10, 11] { dst := dS [20, 21, 22, 23, 24, 25, 26, 27, 28, 29, 0], pre := gA [] [[], [0], [], [], [3], [], [3, 4, 5], rn 3 4, rn 3 5, rn 0 9, rn 0 10], ids := gA [] [[], [], [], [], [], [], [], [], [12, 13], [], [7, 12, 13]], rs := rL [[(4, 0)], [(19, 1)], [(5, 0)], [(4, 0)], [(22, 4)], [(5, 0)], [(23, 5), (24, 6)], [(25, 7)], [(26, 8)], [(20, 2), (21, 3)], [(28, 10), (27, 9)]], rh := rL [[], [(8, 0)], [], [], [(8, 0)], [], [(7, 0)], [(7, 0)], [(10, 0), (11, 0)], [(7, 0)], [(7, 0), (12, 9), (13, 9)]], V := fun i g => gA undef [.pointer (some ⟨b18, 2, none⟩), .slice p14 ((x5.c).length) c16, .int .i64 v21, .pointer (some ⟨b18, 2, none⟩), .slice p14 ((x5.c).length) c16, .int .i64 v21, .pointer (some ⟨eB p14, eO p14 + Int.toNat v21 * Enc.sz CpS + 0, none⟩), .agg #[.slice p25 ((x23.n).length) c27, .slice p28 ((x23.w).length) c30], .agg #[.slice ((g 8).A 0) ((x35.n).length) ((g 8).C 0), .slice ((g 8).A 1) ((x35.w).length) ((g 8).C 1)], .pointer (some ⟨eB p14, eO p14 + Int.toNat v21 * Enc.sz CpS + 0, none⟩)] i, U := fun i g => match i with | 8 => [(12, ((g 8).R 0)), (13, ((g 8).R 1))] | 10 => [(7, ((g 10).R 0)), (12, ((g 10).R 1)), (13, ((g 10).R 2))] | _ => [], Φ := fun i x => match i with | 8 => OwnC 51 (x.A 0) (x.C 0) x35.n (x.R 0) ∧ OwnC 51 (x.A 1) (x.C 1) x35.w (x.R 1) | 10 => OwnC (α := CpS) 37 p14 c16 (u24.set (Int.toNat v21) (⟨(x.A 0), (x35.n).length, (x.C 0), (x.A 1), (x35.w).length, (x.C 1)⟩ : CpS)) (x.R 0) ∧ OwnC 51 (x.A 0) (x.C 0) x35.n (x.R 1) ∧ OwnC 51 (x.A 1) (x.C 1) x35.w (x.R 2) | _ => True } ?_ ?_
   ·refine ⟨lc rfl rfl fun hs hh => stp_fieldAddr (j := 2) Tryz.underlying29 rfl ts27 rfl (sv hs 4 rfl) rfl, lc rfl rfl fun hs hh => stp_load1 ts27 (sv hs 19 rfl) (Cells.box (id := 8) (hh.get 8 _ rfl) 1 rfl), lM, lc rfl rfl fun hs hh => stp_fieldAddr (j := 2) Tryz.underlying29 rfl ts27 rfl (sv hs 4 rfl) rfl, lc rfl rfl fun hs hh => stp_load1 ts27 (sv hs 22 rfl) (Cells.box (id := 8) (hh.get 8 _ rfl) 1 rfl), lM, lc rfl rfl fun hs hh => stp_indexAddr Tryz.underlying27 ts37 (by decide) (sv hs 23 rfl) (Eq.trans (a := (x5.c).length) (b := (v19).length) (by simp [hl20]) (Bun.len hb32)) (sv hs 24 rfl) (Rdb.own (id := 7) (hh.get 7 _ rfl) o31) hx24, lc rfl rfl fun hs hh => stp_loadN (us := [_, _]) ts37 (sv hs 25 rfl) (Cells.el (Rdb.own (id := 7) (hh.get 7 _ rfl) o31) (by decide) hx24 0 2 rfl), ?_, lc rfl rfl fun hs hh => stp_indexAddr Tryz.underlying27 ts37 (by decide) (sv hs 20 rfl) (Eq.trans (a := (x5.c).length) (b := (v19).length) (by simp [hl20]) (Bun.len hb32)) (sv hs 21 rfl) (Rdb.own (id := 7) (hh.get 7 _ rfl) o31) hx24, ?_, trivial⟩
    ·refine le rfl rfl (fun g hΦ s h hs hh => (stpU_call (fun i => 12 + i) cf28 (fun w hw => c_s_l8Ack fl w x23 rfl (OwnC.pass (id := 10) (hh.get 10 _ rfl) o33 hw) rfl (OwnC.pass (id := 11) (hh.get 11 _ rfl) o34 hw) x35 e35) (yA (sv hs 26 rfl)))) ?_
     rintro g _ _ ⟨_, ⟨p36, _, c38, C39, p40, _, c42, C43, rfl, rfl, rfl, o39, rfl, o43⟩, rfl⟩
     exact ⟨⟨[p36, p40], [c38, c42], [C39, C43]⟩, ⟨o39, o43⟩, .inr rfl, rfl⟩
    refine le rfl rfl (fun g hΦ s h hs hh => (stpU_keep (hh.get 13 _ rfl) (stpU_keep (hh.get 12 _ rfl) (stpU_storeEl (id := 7) (i := 0) (⟨((g 8).A 0), (x35.n).length, ((g 8).C 0), ((g 8).A 1), (x35.w).length, ((g 8).C 1)⟩ : CpS) (by decide) ts37 (sv hs 28 rfl) (sv hs 27 rfl) (hh.get 7 _ rfl) o31 hx24 rfl rfl rfl rfl) (by rintro _ _ ⟨_, rfl, _⟩; rfl) (hΦ 8 rfl).1) (by rintro _ _ ⟨_, ⟨_, rfl, _⟩, rfl, _⟩; rfl) (hΦ 8 rfl).2)) ?_
    rintro g _ _ ⟨_, ⟨_, ⟨C44, rfl, o44⟩, rfl, o47⟩, rfl, o50⟩
    exact ⟨⟨[((g 8).A 0), ((g 8).A 1)], [((g 8).C 0), ((g 8).C 1)], [C44, ((g 8).R 0), ((g 8).R 1)]⟩, ⟨o44, o47, o50⟩, .inl rfl, rfl⟩
   intro g hΦ
   refine kw_gen (ι := Option Addr × Option Addr × Nat × Nat × Res × Res × Option Addr × Option Addr × Nat × Nat × Res × Res × Res) (((g 8).A 0), ((g 8).A 1), ((g 8).C 0), ((g 8).C 1), ((g 8).R 0), ((g 8).R 1), ((g 10).A 0), ((g 10).A 1), ((g 10).C 0), ((g 10).C 1), ((g 10).R 0), ((g 10).R 1), ((g 10).R 2)) (fun | (p36, p40, c38, c42, C39, C43, p45, p48, c46, c49, C44, C47, C50) => OwnC 51 p36 c38 x35.n C39 ∧ OwnC 51 p40 c42 x35.w C43 ∧ OwnC (α := CpS) 37 p14 c16 (u24.set (Int.toNat v21) (⟨p45, (x35.n).length, c46, p48, (x35.w).length, c49⟩ : CpS)) C44 ∧ OwnC 51 p45 c46 x35.n C47 ∧ OwnC 51 p48 c49 x35.w C50) (fun | (p36, p40, c38, c42, C39, C43, p45, p48, c46, c49, C44, C47, C50) => [(2, .pointer (some ⟨b2, 0, none⟩)), (4, .pointer (some ⟨b18, 0, none⟩)), (5, .int .i64 v21)]) (fun | (p36, p40, c38, c42, C39, C43, p45, p48, c46, c49, C44, C47, C50) => [(1, [(b2, .cells #[.slice none 0 0, .slice none 0 0, .slice none 0 0] 29 (0, 0))]), (5, C9), (6, C13), (7, C44), (8, [(b18, .cells #[.slice p6 ((x5.t.b).length) c8, .slice p10 ((x5.t.f).length) c12, .slice p14 ((x5.c).length) c16] 29 (0, 0))]), (9, C32), (12, C47), (13, C50)]) ⟨(hΦ 8 (by decide)).1, (hΦ 8 (by decide)).2, (hΦ 10 (by decide)).1, (hΦ 10 (by decide)).2.1, (hΦ 10 (by decide)).2.2⟩ ⟨rfl, rfl, rfl, trivial⟩ ⟨rfl, rfl, rfl, rfl, rfl, rfl, rfl, rfl, trivial⟩ ?_
   rintro ⟨p36, p40, c38, c42, C39, C43, p45, p48, c46, c49, C44, C47, C50⟩ ⟨o39, o43, o44, o47, o50⟩
   dsimp only
   obtain ⟨x51, e51, H1⟩ := bS H1
   refine kw_bl_normal (kw_nx (cw_region (oM rfl (oP e51 rfl (oS rfl (ow_nil (kw_shut 7 9 12 13 o44 (Bun.setL (Bun.set hb32 _) _) (idx_some (idx_set hx24)).2.2 (idx_setD e23 (⟨x35.n, x35.w⟩ : Cp)) rfl o47 rfl o50 ?_)))))))
   rintro C52 o52
   exact kw_lqS (js := [1, 5, 6, 7, 8]) (fuel, (v19.set (Int.toNat v21) (⟨x35.n, x35.w⟩ : Cp)), x51, C52) ⟨H1, (by simp [hl20]), o52⟩ (Nat.lt_succ_self _) ⟨rfl, rfl, rfl, trivial⟩ ⟨1, [5, 6, 7, 8], rfl, rfl, 5, [6, 7, 8], rfl, rfl, 6, [7, 8], rfl, rfl, 7, [8], rfl, rfl, 8, [], rfl, rfl, trivial⟩ (by decide)
  have H1 := cond_f H1 h22
  refine cw_exit (kw_nx_exit (kw_lq_exit (kw_bl ?_)))
  obtain rfl := sI H1
  exact kw_joinS (js := [1, 5, 6, 7, 8]) (v19, v21, C20) ⟨rfl, (by simp [hl20]), o20⟩ ⟨rfl, rfl, rfl, trivial⟩ ⟨1, [5, 6, 7, 8], rfl, rfl, 5, [6, 7, 8], rfl, rfl, 6, [7, 8], rfl, rfl, 7, [8], rfl, rfl, 8, [], rfl, rfl, trivial⟩ (by decide)
 rintro ⟨v19, v21, C20⟩ ⟨rfl, hl20, o20⟩
 dsimp only
 refine kw_nx (sr (oB3 8 ts29 rfl (oC3 1 ts29 rfl rfl (oS rfl (nn (cw_ret ?_))))))
 obtain rfl := sI H0
 exact kr Tryz.results14 (.cons (.cellN (us := [_, _, _]) ts29 rfl (Cells.box (id := 1) rfl 3 rfl)) (rT rfl)) [5, 6, 7] ⟨_, _, _, _, _, _, _, _, _, _, _, _, rfl, rfl, rfl, o9, rfl, o13, (by simp [hl20]), o20⟩

theorem c_i_AckCpu (fl : Nat) (w : World) (a0 : Sy) (a1 : Int) (hn0_0 : n0_0 = (a0.t.b).length) (hr0_0 : RO w (hkeys []) (RdL p0_0 c0_0 a0.t.b)) (hn0_1 : n0_1 = (a0.t.f).length) (hr0_1 : RO w (hkeys []) (RdL p0_1 c0_1 a0.t.f)) (hn0_2 : n0_2 = (a0.c).length) (hr0_2 : ROD w (hkeys []) p0_2 c0_2 a0.c) (hg : RO w (hkeys []) (fun w' => w'.rangeAt 0 0 [.bool false, .int .i64 0, .int .i64 0, .int .i64 0, .int .i64 (-1)])) (r : Sy × Bool) (H0 : i_AckCpu fl a0 a1 = some r) :
  Ct Tryz.prog 8 [.agg #[.slice p0_0 n0_0 c0_0, .slice p0_1 n0_1 c0_1, .slice p0_2 n0_2 c0_2], .int .i64 a1] w [] (fun rv h' => ∃ (x0 : Option Addr) (y0 z0 : Nat) (C0 : Res) (x1 : Option Addr) (y1 z1 : Nat) (C1 : Res) (x2 : Option Addr) (y2 z2 : Nat) (C2 : Res), rv = .tuple #[.agg #[.slice x0 y0 z0, .slice x1 y1 z1, .slice x2 y2 z2], .bool r.2] ∧ h' = [(0, C0), (1, C1), (2, C2)] ∧ y0 = (r.1.t.b).length ∧ OwnC 3 x0 z0 r.1.t.b C0 ∧ y1 = (r.1.t.f).length ∧ OwnC 72 x1 z1 r.1.t.f C1 ∧ y2 = (r.1.c).length ∧ OwnD 37 51 x2 z2 r.1.c C2) := by
 subst hn0_0 hn0_1 hn0_2
 unfold i_AckCpu at H0
 refine ct_of_cw Tryz.func8 rfl Tryz.ntmps8 rfl (Sat.refl _ _) ?_
 refine sr (oE (stpU_box 0 rfl rfl) rfl ?_)
 rintro _ _ ⟨b1, rfl, rfl⟩
 refine oE (stpU_alloc 1 tz29 rfl) rfl ?_
 rintro _ _ ⟨b2, rfl, rfl⟩
 obtain ⟨x3, e3, H0⟩ := bS H0
 refine oS rfl (nn (cw_seq (sr (oB3 0 ts29 rfl (oM rfl (oE (stpU_call (fun i => 2 + i) cf23 (fun w hw => c_i_cpuOf fl w a0 a1 rfl (RO.pass hr0_0 hw) rfl (RO.pass hr0_1 hw) rfl (ROD.pass hr0_2 hw) (RO.pass hg hw) x3 e3) (yB rfl rfl)) rfl ?_))))))
 rintro _ _ ⟨_, ⟨rfl, rfl⟩, rfl⟩
 refine oK rfl (nn (cw_cond rfl (fun h4 => ?_) (fun h4 => ?_)))
 ·have H0 := cond_t H0 h4
  refine sr (oD (stp_build (cs := #[.slice none 0 0, .slice none 0 0, .slice none 0 0]) sevp_nil bt29_2) rfl (oC3 1 ts29 rfl rfl (oS rfl (nn (cw_ret (kw_nx_ret (kw_addNil 2 (kw_addNil 3 (kw_addNil 4 ?_)))))))))
  obtain rfl := sI H0
  exact kr Tryz.results8 (.cons (.cellN (us := [_, _, _]) ts29 rfl (Cells.box (id := 1) rfl 3 rfl)) (rT rfl)) [2, 3, 4] ⟨_, _, _, _, _, _, _, _, _, _, _, _, rfl, rfl, rfl, (OwnC.nil _ _), rfl, (OwnC.nil _ _), rfl, (OwnD.nil _ _ _)⟩
 have H0 := cond_f H0 h4
 obtain ⟨x5, e5, H0⟩ := bS H0
 refine cw_skip (kw_nx (sr (oB3 0 ts29 rfl (oE (stpU_call (fun i => 5 + i) cf24 (fun w hw => c_i_System_clone fl w a0 rfl (RO.pass hr0_0 hw) rfl (RO.pass hr0_1 hw) rfl (ROD.pass hr0_2 hw) x5 e5) (yA rfl)) rfl ?_))))
 rintro _ _ ⟨_, ⟨p6, _, c8, C9, p10, _, c12, C13, p14, _, c16, C17, rfl, rfl, rfl, o9, rfl, o13, rfl, o17⟩, rfl⟩
 refine oE (stpU_alloc 8 tz29 rfl) rfl ?_
 rintro _ _ ⟨b18, rfl, rfl⟩
 obtain ⟨x19, e19, H0⟩ := bS H0
 refine oC3 8 ts29 rfl rfl (nn (sr (oA 2 Tryz.underlying29 rfl ts27 rfl (oL 8 ts27 rfl (oM rfl (ow_open 7 9 10 11 rfl o17 e19 ?_))))))
 rintro u20 p21 n22 c23 p24 n25 c26 C27 C28 C29 C30 o27 hb28 hx20 rfl o29 rfl o30
 refine oD (stp_indexAddr Tryz.underlying27 ts37 (by decide) rfl (Bun.len hb28) rfl (Rdb.own (id := 7) rfl o27) hx20) rfl (ow_shut 7 9 10 11 o27 hb28 (idx_some hx20).2.2 (idx_some e19).2.2 rfl o29 rfl o30 ?_)
 rintro C31 o31
 obtain ⟨x32, e32, H0⟩ := bS H0
 refine oE (stpU_callM (fun i => bif Nat.beq i 0 then 7 else 12 + i) cf25 (fun w hw hb => c_i_Cpu_ack fl w x5.c a1 rfl o31 (hw.pass (js := [7]) ⟨7, [], rfl, rfl, trivial⟩ (by decide)) x32 e32) (yA rfl) ⟨rfl, (fun _ _ hp => by obtain ⟨_, _, rfl, _⟩ := hp; exact ⟨_, rfl⟩), trivial⟩) rfl ?_
 rintro _ _ ⟨_, ⟨C33, rfl, rfl, hl33, o33⟩, rfl⟩
 refine nn (sr (oB3 8 ts29 rfl (oC3 1 ts29 rfl rfl (oS rfl (nn (cw_ret ?_))))))
 obtain rfl := sI H0
 exact kr Tryz.results8 (.cons (.cellN (us := [_, _, _]) ts29 rfl (Cells.box (id := 1) rfl 3 rfl)) (rT rfl)) [5, 6, 7] ⟨_, _, _, _, _, _, _, _, _, _, _, _, rfl, rfl, rfl, o9, rfl, o13, (by simp [hl33]), o33⟩

theorem c_l_FnSettleSystem (fl : Nat) (w : World) (a0 : (List UInt8)) (hn0_0 : n0_0 = (a0).length) (hr0_0 : RO w (hkeys []) (RdL p0_0 c0_0 a0)) (hg : RO w (hkeys []) (fun w' => w'.rangeAt 0 0 [.bool false, .int .i64 0, .int .i64 0, .int .i64 0, .int .i64 (-1)])) (r : Bool) (H0 : l_FnSettleSystem fl a0 = some r) :
  Ct Tryz.prog 4 [.slice p0_0 n0_0 c0_0] w [] (fun rv h' => rv = .bool r ∧ h' = []) := by
 subst hn0_0
 unfold l_FnSettleSystem at H0
 refine ct_of_cw Tryz.func4 rfl Tryz.ntmps4 rfl (Sat.refl _ _) ?_
 refine sr (oS rfl (nn (cw_seq (sr (oM rfl (oD (stp_len Tryz.underlying22 rfl) rfl (oJ rfl (nn (cw_cond rfl (fun h1 => ?_) (fun h1 => ?_))))))))))
 ·have H0 := cond_t H0 h1
  refine sr (oS rfl (nn (cw_ret (kw_nx_ret ?_))))
  obtain rfl := sI H0
  exact kr Tryz.results4 (rT rfl) [] ⟨rfl, rfl⟩
 have H0 := cond_f H0 h1
 obtain ⟨x2, e2, H0⟩ := bS H0
 refine cw_skip (kw_nx (sr (oM rfl (oE (stpU_call (fun i => 0 + i) cf12 (fun w hw => c_s_DrawSettleSystem fl w a0 rfl (RO.pass hr0_0 hw) x2 e2) (yA rfl)) rfl ?_))))
 rintro _ _ ⟨_, ⟨p3, _, c5, C6, p7, _, c9, C10, p11, _, c13, C14, rfl, rfl, rfl, o6, rfl, o10, rfl, o14⟩, rfl⟩
 refine oE (stpU_alloc 3 tz29 rfl) rfl ?_
 rintro _ _ ⟨b15, rfl, rfl⟩
 obtain ⟨x16, e16, H0⟩ := bS H0
 refine oC3 3 ts29 rfl rfl (nn (sr (oB3 3 ts29 rfl (oE (stpU_call (fun i => 4 + i) cf13 (fun w hw => c_i_SettleSystem fl w x2 rfl (OwnC.pass (id := 0) rfl o6 hw) rfl (OwnC.pass (id := 1) rfl o10 hw) rfl (OwnD.pass (id := 2) rfl o14 hw) (RO.pass hg hw) x16 e16) (yA rfl)) rfl ?_))))
 rintro _ _ ⟨_, ⟨p17, _, c19, C20, p21, _, c23, C24, p25, _, c27, C28, rfl, rfl, rfl, o20, rfl, o24, rfl, o28⟩, rfl⟩
 refine oM rfl (oT rfl (oT rfl (oE (stpU_alloc 7 tz29 rfl) rfl ?_)))
 rintro _ _ ⟨b29, rfl, rfl⟩
 obtain ⟨x30, e30, H0⟩ := bS H0
 refine oC3 7 ts29 rfl rfl (oS rfl (nn (sr (oB3 3 ts29 rfl (oE (stpU_call (fun i => 8 + i) cf14 (fun w hw => c_s_SettleSystem fl w x2 rfl (OwnC.pass (id := 0) rfl o6 hw) rfl (OwnC.pass (id := 1) rfl o10 hw) rfl (OwnD.pass (id := 2) rfl o14 hw) x30 e30) (yA rfl)) rfl ?_)))))
 rintro _ _ ⟨_, ⟨p31, _, c33, C34, p35, _, c37, C38, p39, _, c41, C42, rfl, rfl, rfl, o34, rfl, o38, rfl, o42⟩, rfl⟩
 refine oM rfl (oT rfl (oT rfl (oE (stpU_alloc 11 tz29 rfl) rfl ?_)))
 rintro _ _ ⟨b43, rfl, rfl⟩
 obtain ⟨x44, e44, H0⟩ := bS H0
 refine oC3 11 ts29 rfl rfl (oS rfl (nn (cw_seq (sr (oB3 7 ts29 rfl (oB3 11 ts29 rfl (oE (stpU_call (fun i => 12 + i) cf10 (fun w hw => c_i_SystemSame fl w x16.1 x30.1 rfl (OwnC.pass (id := 4) rfl o20 hw) rfl (OwnC.pass (id := 5) rfl o24 hw) rfl (OwnD.pass (id := 6) rfl o28 hw) rfl (OwnC.pass (id := 8) rfl o34 hw) rfl (OwnC.pass (id := 9) rfl o38 hw) rfl (OwnD.pass (id := 10) rfl o42 hw) x44 e44) (yB rfl rfl)) rfl ?_)))))))
 rintro _ _ ⟨_, ⟨rfl, rfl⟩, rfl⟩
 obtain ⟨y45, ey45, H0⟩ := bS H0
 refine oK rfl (oM rfl (ow_cutY 4 35 y45 ?_ ?_))
 ·rcases Bool.eq_false_or_eq_true (!x44) with hy45 | hy45
  ·have ey45 := cond_t ey45 hy45
   refine oO rfl hy45 rfl (oO rfl hy45 rfl (oO rfl hy45 rfl (oD (stp_pick_t rfl hy45 rfl) rfl ?_)))
   obtain rfl := sI ey45
   exact ow_nil (jy 4 0)
  have ey45 := cond_f ey45 hy45
  refine oG rfl hy45 (mv rfl) rfl (oG rfl hy45 (mv rfl) rfl (oG rfl hy45 (stp_neqB Tryz.underlying4 rfl rfl) rfl (oD (stp_pick_f rfl hy45 rfl) rfl ?_)))
  obtain rfl := sI ey45
  exact ow_nil (jy 4 0)
 obtain ⟨y46, ey46, H0⟩ := bS H0
 refine oM rfl (ow_cutY 3 39 y46 ?_ ?_)
 ·rcases Bool.eq_false_or_eq_true y45 with hy46 | hy46
  ·have ey46 := cond_t ey46 hy46
   refine oO rfl hy46 rfl (oO rfl hy46 rfl (oD (stp_pick_t rfl hy46 rfl) rfl ?_))
   obtain rfl := sI ey46
   exact ow_nil (jy 3 0)
  have ey46 := cond_f ey46 hy46
  refine oG rfl hy46 (mv rfl) rfl (oG rfl hy46 (stp_not rfl) rfl (oD (stp_pick_f rfl hy46 rfl) rfl ?_))
  obtain rfl := sI ey46
  exact ow_nil (jy 3 0)
 refine ow_nil (kw_nx (cw_cond rfl (fun h47 => ?_) (fun h47 => ?_)))
 ·have H0 := cond_t H0 h47
  refine sr (oB3 7 ts29 rfl (oB3 11 ts29 rfl (oE (stpU_call (fun i => 12 + i) cf10 (fun w hw => c_i_SystemSame fl w x16.1 x30.1 rfl (OwnC.pass (id := 4) rfl o20 hw) rfl (OwnC.pass (id := 5) rfl o24 hw) rfl (OwnD.pass (id := 6) rfl o28 hw) rfl (OwnC.pass (id := 8) rfl o34 hw) rfl (OwnC.pass (id := 9) rfl o38 hw) rfl (OwnD.pass (id := 10) rfl o42 hw) x44 e44) (yB rfl rfl)) rfl ?_)))
  rintro _ _ ⟨_, ⟨rfl, rfl⟩, rfl⟩
  obtain ⟨y48, ey48, H0⟩ := bS H0
  refine oM rfl (ow_cutY 4 47 y48 ?_ ?_)
  ·rcases Bool.eq_false_or_eq_true x44 with hy48 | hy48
   ·have ey48 := cond_t ey48 hy48
    refine oG rfl hy48 (mv rfl) rfl (oG rfl hy48 (mv rfl) rfl (oG rfl hy48 (stp_eqlB Tryz.underlying4 rfl rfl) rfl (oD (stp_pick_t rfl hy48 rfl) rfl ?_)))
    obtain rfl := sI ey48
    exact ow_nil (jy 4 0)
   have ey48 := cond_f ey48 hy48
   refine oO rfl hy48 rfl (oO rfl hy48 rfl (oO rfl hy48 rfl (oD (stp_pick_f rfl hy48 rfl) rfl ?_)))
   obtain rfl := sI ey48
   exact ow_nil (jy 4 0)
  refine oS rfl (nn (cw_ret (kw_nx_ret ?_)))
  obtain rfl := sI H0
  exact kr Tryz.results4 (rT rfl) [] ⟨rfl, rfl⟩
 have H0 := cond_f H0 h47
 refine cw_skip (kw_nx (sr (oB3 3 ts29 rfl (oE (stpU_alloc 12 tz29 rfl) rfl ?_))))
 rintro _ _ ⟨b49, rfl, rfl⟩
 obtain ⟨x50, e50, H0⟩ := bS H0
 obtain ⟨o0_0, eo0_0, H0⟩ := bS H0
 refine oC3 12 ts29 rfl rfl (nn (cw_seq (sr (oA 2 Tryz.underlying29 rfl ts27 rfl (oL 3 ts27 rfl (oD (stp_len Tryz.underlying27 rfl) rfl (oD (stp_sub rfl rfl e50) rfl (oS rfl (nn (cw_join (ι := (List Int) × (List F) × (List Cp) × Int × Option Addr × Nat × Nat × Res × Option Addr × Nat × Nat × Res × Option Addr × Nat × Nat × Res) (fun | (v51, v56, v61, v66, p52, n53, c54, C55, p57, n58, c59, C60, p62, n63, c64, C65) => o0_0 = .out (v51, v56, v61, v66) ∧ n53 = (v51).length ∧ OwnC 3 p52 c54 v51 C55 ∧ n58 = (v56).length ∧ OwnC 72 p57 c59 v56 C60 ∧ n63 = (v61).length ∧ OwnD 37 51 p62 c64 v61 C65) (fun | (v51, v56, v61, v66, p52, n53, c54, C55, p57, n58, c59, C60, p62, n63, c64, C65) => [(4, .pointer (some ⟨b29, 0, none⟩)), (8, .pointer (some ⟨b49, 0, none⟩)), (9, .int .i64 v66)]) (fun | (v51, v56, v61, v66, p52, n53, c54, C55, p57, n58, c59, C60, p62, n63, c64, C65) => [(0, C55), (1, C60), (2, C65), (4, C20), (5, C24), (6, C28), (7, [(b29, .cells #[.slice p17 ((x16.1.t.b).length) c19, .slice p21 ((x16.1.t.f).length) c23, .slice p25 ((x16.1.c).length) c27] 29 (0, 0))]), (12, [(b49, .cells #[.slice p52 n53 c54, .slice p57 n58 c59, .slice p62 n63 c64] 29 (0, 0))])]) ?_ ?_))))))))))
 ·refine cw_block (cw_loopS (ι := Nat × (List Int) × (List F) × (List Cp) × Int × Option Addr × Nat × Nat × Res × Option Addr × Nat × Nat × Res × Option Addr × Nat × Nat × Res) (js := [0, 1, 2, 4, 5, 6, 7, 12]) (fun x => x.1) (fun | (fuel, v51, v56, v61, v66, p52, n53, c54, C55, p57, n58, c59, C60, p62, n63, c64, C65) => l_FnSettleSystem_L0 fl fuel v51 v56 v61 v66 = some o0_0 ∧ n53 = (v51).length ∧ OwnC 3 p52 c54 v51 C55 ∧ n58 = (v56).length ∧ OwnC 72 p57 c59 v56 C60 ∧ n63 = (v61).length ∧ OwnD 37 51 p62 c64 v61 C65) (fun | (_, v51, v56, v61, v66, p52, n53, c54, C55, p57, n58, c59, C60, p62, n63, c64, C65) => [(4, .pointer (some ⟨b29, 0, none⟩)), (8, .pointer (some ⟨b49, 0, none⟩)), (9, .int .i64 v66)]) (fun | (_, v51, v56, v61, v66, p52, n53, c54, C55, p57, n58, c59, C60, p62, n63, c64, C65) => [(0, C55), (1, C60), (2, C65), (4, C20), (5, C24), (6, C28), (7, [(b29, .cells #[.slice p17 ((x16.1.t.b).length) c19, .slice p21 ((x16.1.t.f).length) c23, .slice p25 ((x16.1.c).length) c27] 29 (0, 0))]), (12, [(b49, .cells #[.slice p52 n53 c54, .slice p57 n58 c59, .slice p62 n63 c64] 29 (0, 0))])]) (fl, x2.t.b, x2.t.f, x2.c, x50, p3, ((x2.t.b).length), c5, C6, p7, ((x2.t.f).length), c9, C10, p11, ((x2.c).length), c13, C14) ⟨eo0_0, rfl, o6, rfl, o10, rfl, o14⟩ ⟨rfl, rfl, rfl, trivial⟩ ⟨0, [1, 2, 4, 5, 6, 7, 12], rfl, rfl, 1, [2, 4, 5, 6, 7, 12], rfl, rfl, 2, [4, 5, 6, 7, 12], rfl, rfl, 4, [5, 6, 7, 12], rfl, rfl, 5, [6, 7, 12], rfl, rfl, 6, [7, 12], rfl, rfl, 7, [12], rfl, rfl, 12, [], rfl, rfl, trivial⟩ (by decide) ?_)
  rintro ⟨fuel, v51, v56, v61, v66, p52, _, c54, C55, p57, _, c59, C60, p62, _, c64, C65⟩ ⟨H1, rfl, o55, rfl, o60, rfl, o65⟩
  have H1 : l_FnSettleSystem_L0 fl fuel v51 v56 v61 v66 = some o0_0 := H1
  rcases fuel with _ | fuel
  ·rw [l_FnSettleSystem_L0.eq_1] at H1; cases H1
  rw [l_FnSettleSystem_L0.eq_2] at H1
  dsimp only
  refine cw_seq (sr (oM rfl (oI rfl (nn (cw_cond rfl (fun h67 => ?_) (fun h67 => ?_))))))
  ·have H1 := cond_t H1 h67
   obtain ⟨x68, e68, H1⟩ := bS H1
   refine cw_skip (kw_nx (cw_seq (cw_block (sr (oB3 12 ts29 rfl (oM rfl (oE (stpU_call (fun i => 13 + i) cf8 (fun w hw => c_i_AckCpu fl w (⟨(⟨v51, v56⟩ : T), v61⟩ : Sy) v66 rfl (OwnC.pass (id := 0) rfl o55 hw) rfl (OwnC.pass (id := 1) rfl o60 hw) rfl (OwnD.pass (id := 2) rfl o65 hw) (RO.pass hg hw) x68 e68) (yB rfl rfl)) rfl ?_)))))))
   rintro _ _ ⟨_, ⟨p69, _, c71, C72, p73, _, c75, C76, p77, _, c79, C80, rfl, rfl, rfl, o72, rfl, o76, rfl, o80⟩, rfl⟩
   refine oM rfl (oT rfl (oT rfl (oE (stpU_alloc 16 tz29 rfl) rfl ?_)))
   rintro _ _ ⟨b81, rfl, rfl⟩
   refine oC3 16 ts29 rfl rfl (oS rfl (nn (cw_seq (sr (oM rfl (oK rfl (nn (cw_cond rfl (fun h82 => ?_) (fun h82 => ?_)))))))))
   ·have H1 := cond_t H1 h82
    refine sr (oS rfl (nn (cw_ret (kw_nx_ret (kw_bl_ret (kw_nx_ret (kw_lq_ret (kw_bl_ret (kw_join_ret (kw_nx_ret ?_))))))))))
    obtain rfl := sI H1
    obtain rfl := sI H0
    exact kr Tryz.results4 (rT rfl) [] ⟨rfl, rfl⟩
   have H1 := cond_f H1 h82
   obtain ⟨x83, e83, H1⟩ := bS H1
   exact cw_skip (kw_nx (cw_region (oB3 16 ts29 rfl (oC3 12 ts29 rfl rfl (ow_nil (kw_bl_normal (kw_nx (cw_region (oM rfl (oD (stp_sub rfl rfl e83) rfl (oS rfl (ow_nil (kw_lqS (js := [13, 14, 15, 4, 5, 6, 7, 12]) (fuel, x68.1.t.b, x68.1.t.f, x68.1.c, x83, p69, ((x68.1.t.b).length), c71, C72, p73, ((x68.1.t.f).length), c75, C76, p77, ((x68.1.c).length), c79, C80) ⟨H1, rfl, o72, rfl, o76, rfl, o80⟩ (Nat.lt_succ_self _) ⟨rfl, rfl, rfl, trivial⟩ ⟨13, [14, 15, 4, 5, 6, 7, 12], rfl, rfl, 14, [15, 4, 5, 6, 7, 12], rfl, rfl, 15, [4, 5, 6, 7, 12], rfl, rfl, 4, [5, 6, 7, 12], rfl, rfl, 5, [6, 7, 12], rfl, rfl, 6, [7, 12], rfl, rfl, 7, [12], rfl, rfl, 12, [], rfl, rfl, trivial⟩ (by decide))))))))))))))
  have H1 := cond_f H1 h67
  refine cw_exit (kw_nx_exit (kw_lq_exit (kw_bl ?_)))
  obtain rfl := sI H1
  exact kw_joinS (js := [0, 1, 2, 4, 5, 6, 7, 12]) (v51, v56, v61, v66, p52, ((v51).length), c54, C55, p57, ((v56).length), c59, C60, p62, ((v61).length), c64, C65) ⟨rfl, rfl, o55, rfl, o60, rfl, o65⟩ ⟨rfl, rfl, rfl, trivial⟩ ⟨0, [1, 2, 4, 5, 6, 7, 12], rfl, rfl, 1, [2, 4, 5, 6, 7, 12], rfl, rfl, 2, [4, 5, 6, 7, 12], rfl, rfl, 4, [5, 6, 7, 12], rfl, rfl, 5, [6, 7, 12], rfl, rfl, 6, [7, 12], rfl, rfl, 7, [12], rfl, rfl, 12, [], rfl, rfl, trivial⟩ (by decide)
 rintro ⟨v51, v56, v61, v66, p52, _, c54, C55, p57, _, c59, C60, p62, _, c64, C65⟩ ⟨rfl, rfl, o55, rfl, o60, rfl, o65⟩
 dsimp only
 obtain ⟨x84, e84, H0⟩ := bS H0
 refine kw_nx (sr (oB3 7 ts29 rfl (oE (stpU_call (fun i => 17 + i) cf15 (fun w hw => c_i_SystemValid fl w x16.1 rfl (OwnC.pass (id := 4) rfl o20 hw) rfl (OwnC.pass (id := 5) rfl o24 hw) rfl (OwnD.pass (id := 6) rfl o28 hw) (RO.pass hg hw) x84 e84) (yA rfl)) rfl ?_)))
 rintro _ _ ⟨_, ⟨rfl, rfl⟩, rfl⟩
 obtain ⟨y85, ey85, H0⟩ := bS H0
 refine oM rfl (ow_cutY 5 73 y85 ?_ ?_)
 ·rcases Bool.eq_false_or_eq_true x84 with hy85 | hy85
  ·have ey85 := cond_t ey85 hy85
   obtain ⟨x86, e86, ey85⟩ := bS ey85
   refine oG rfl hy85 (stp_loadN (us := [_, _, _]) ts29 rfl (Cells.box (id := 7) rfl 3 rfl)) rfl (ow_eff (.some rfl hy85) (stpU_call (fun i => 17 + i) cf11 (fun w hw => c_i_HeldFrames fl w x16.1 rfl (OwnC.pass (id := 4) rfl o20 hw) rfl (OwnC.pass (id := 5) rfl o24 hw) rfl (OwnD.pass (id := 6) rfl o28 hw) (RO.pass hg hw) x86 e86) (yA rfl)) rfl ?_)
   rintro _ _ ⟨_, ⟨p87, _, c89, C90, rfl, rfl, rfl, o90⟩, rfl⟩
   refine oG rfl hy85 (stp_len Tryz.underlying23 rfl) rfl (oG rfl hy85 (stp_eql rfl rfl) rfl (oD (stp_pick_t rfl hy85 rfl) rfl ?_))
   obtain rfl := sI ey85
   exact ow_nil (jy 5 1)
  have ey85 := cond_f ey85 hy85
  refine oO rfl hy85 rfl (oO rfl hy85 rfl (oO rfl hy85 rfl (oO rfl hy85 rfl (oD (stp_pick_f rfl hy85 rfl) rfl ?_))))
  obtain rfl := sI ey85
  exact ow_nil (jy 5 0)
 obtain ⟨y91, ey91, H0⟩ := bS H0
 refine oM rfl (ow_cutY 4 78 y91 ?_ ?_)
 ·rcases Bool.eq_false_or_eq_true y85 with hy91 | hy91
  ·have ey91 := cond_t ey91 hy91
   obtain ⟨x92, e92, ey91⟩ := bS ey91
   refine oG rfl hy91 (stp_loadN (us := [_, _, _]) ts29 rfl (Cells.box (id := 7) rfl 3 rfl)) rfl (oG rfl hy91 (stp_loadN (us := [_, _, _]) ts29 rfl (Cells.box (id := 12) rfl 3 rfl)) rfl (ow_eff (.some rfl hy91) (stpU_call (fun i => 18 + i) cf10 (fun w hw => c_i_SystemSame fl w x16.1 (⟨(⟨v51, v56⟩ : T), v61⟩ : Sy) rfl (OwnC.pass (id := 4) rfl o20 hw) rfl (OwnC.pass (id := 5) rfl o24 hw) rfl (OwnD.pass (id := 6) rfl o28 hw) rfl (OwnC.pass (id := 0) rfl o55 hw) rfl (OwnC.pass (id := 1) rfl o60 hw) rfl (OwnD.pass (id := 2) rfl o65 hw) x92 e92) (yB rfl rfl)) rfl ?_))
   rintro _ _ ⟨_, ⟨rfl, rfl⟩, rfl⟩
   refine oD (stp_pick_t rfl hy91 rfl) rfl ?_
   obtain rfl := sI ey91
   exact ow_nil (jy 4 0)
  have ey91 := cond_f ey91 hy91
  refine oO rfl hy91 rfl (oO rfl hy91 rfl (oO rfl hy91 rfl (oD (stp_pick_f rfl hy91 rfl) rfl ?_)))
  obtain rfl := sI ey91
  exact ow_nil (jy 4 0)
 refine oS rfl (nn (cw_ret ?_))
 obtain rfl := sI H0
 exact kr Tryz.results4 (rT rfl) [] ⟨rfl, rfl⟩
end Go.Proofs.YtfnliecmagnkdabGreatDoor
