/- The walks: functions of the program return what their pure functions say. Printed by a program (gen.py). -/
import Derived.Test.YtfnliecmagnkdaaDoorGp
import Derived.Test.YtfnliecmagnkdaaDoorGt
import Derived.Test.YtfnliecmagnkdaaDoorMan
import Derived.Test.YtfnliecmagnkdaaDoorMap
import Derived.Test.YtfnliecmagnkdaaDoorCpy
import Derived.Test.YtfnliecmagnkdaaDoorClr
import Derived.Test.YtfnliecmagnkdaaDoorDp
import Derived.Test.YtfnliecmagnkdaaDoorSrt
import Derived.Test.YtfnliecmagnkdaaDoorE8
import Derived.Test.YtfnliecmagnkdaaDoorGwar
set_option linter.unusedSimpArgs false
set_option linter.unusedVariables false
set_option linter.unusedSectionVars false
namespace Go.Proofs.YtfnliecmagnkdaaDoor
open Go.RowKit
set_option maxHeartbeats 4000000
set_option maxRecDepth 20000
variable {p0_0 : Option Addr} {n0_0 : Nat} {c0_0 : Nat} {C0_0 : Res}
theorem c_i_Cpu_ack (fl : Nat) (w : World) (a0 : List Cp) (k0 : Int) (hn0_0 : n0_0 = (a0).length) (ho0_0 : OwnD 44 48 p0_0 c0_0 a0 C0_0) (hM : Sat w (hkeys [(0, C0_0)]) w [(0, C0_0)]) (r : (List Cp)) (H0 : i_Cpu_ack fl a0 k0 = some r) :
  Ct Tryd.prog 81 [.pointer (some ⟨eB p0_0, eO p0_0 + Int.toNat k0 * Enc.sz CpS + 0, none⟩)] w [(0, C0_0)] (fun rv h' => ∃ (D0 : Res), rv = .tuple #[] ∧ h' = [(0, D0)] ∧ n0_0 = (r).length ∧ OwnD 44 48 p0_0 c0_0 r D0) := by
 subst hn0_0
 unfold i_Cpu_ack at H0
 refine ct_of_cw Tryd.func81 rfl Tryd.ntmps81 rfl hM ?_
 obtain ⟨x1, e1, H0⟩ := bS H0
 refine cw_seq (sr (oM rfl (oZ rfl (oA 1 Tryd.underlying44 rfl ts42 rfl (ow_open 0 1 2 3 rfl ho0_0 e1 ?_)))))
 rintro u2 p3 n4 c5 p6 n7 c8 C9 C10 C11 C12 o9 hb10 hx2 rfl o11 rfl o12
 obtain ⟨o0_0, eo0_0, H0⟩ := bS H0
 refine oD (stp_load1 ts42 rfl (Cells.el (Rdb.own (id := 0) rfl o9) (by decide) hx2 1 1 rfl)) rfl (oD (stp_len Tryd.underlying42 rfl) rfl (oM rfl (nn (cw_join (ι := (List Nt) × Int × Option Addr × Nat × Nat × Res × (List CpS) × Res) (fun | (v13, v18, p14, n15, c16, C17, u19, C20) => o0_0 = .out (v13, v18) ∧ n15 = (v13).length ∧ OwnC 48 p14 c16 v13 C17 ∧ Bun 48 u19 a0 (Int.toNat k0) C10 ∧ idx u19 k0 = some (⟨p14, n15, c16, p6, (x1.w).length, c8⟩ : CpS) ∧ OwnC (α := CpS) 44 p0_0 c0_0 u19 C20) (fun | (v13, v18, p14, n15, c16, C17, u19, C20) => [(0, .pointer (some ⟨eB p0_0, eO p0_0 + Int.toNat k0 * Enc.sz CpS + 0, none⟩)), (7, .slice p6 ((x1.w).length) c8), (8, .int .i64 ((x1.w).length : Int)), (9, .int .i64 v18)]) (fun | (v13, v18, p14, n15, c16, C17, u19, C20) => [(0, C20), (1, C10), (2, C17), (3, C12)]) ?_ ?_))))
 ·refine cw_block (cw_loopS (ι := Nat × (List Nt) × Int × Option Addr × Nat × Nat × Res × (List CpS) × Res) (js := [0, 1, 2, 3]) (fun x => x.1) (fun | (fuel, v13, v18, p14, n15, c16, C17, u19, C20) => i_Cpu_ack_L0 fl x1 fuel v13 v18 = some o0_0 ∧ n15 = (v13).length ∧ OwnC 48 p14 c16 v13 C17 ∧ Bun 48 u19 a0 (Int.toNat k0) C10 ∧ idx u19 k0 = some (⟨p14, n15, c16, p6, (x1.w).length, c8⟩ : CpS) ∧ OwnC (α := CpS) 44 p0_0 c0_0 u19 C20) (fun | (_, v13, v18, p14, n15, c16, C17, u19, C20) => [(0, .pointer (some ⟨eB p0_0, eO p0_0 + Int.toNat k0 * Enc.sz CpS + 0, none⟩)), (7, .slice p6 ((x1.w).length) c8), (8, .int .i64 ((x1.w).length : Int)), (9, .int .i64 v18)]) (fun | (_, v13, v18, p14, n15, c16, C17, u19, C20) => [(0, C20), (1, C10), (2, C17), (3, C12)]) (fl, x1.n, 0, p3, ((x1.n).length), c5, C11, u2, C9) ⟨eo0_0, rfl, o11, hb10, hx2, o9⟩ ⟨rfl, rfl, rfl, rfl, trivial⟩ ⟨0, [1, 2, 3], rfl, rfl, 1, [2, 3], rfl, rfl, 2, [3], rfl, rfl, 3, [], rfl, rfl, trivial⟩ (by decide) ?_)
  rintro ⟨fuel, v13, v18, p14, _, c16, C17, u19, C20⟩ ⟨H1, rfl, o17, hb20, hx20, o20⟩
  have H1 : i_Cpu_ack_L0 fl x1 fuel v13 v18 = some o0_0 := H1
  rcases fuel with _ | fuel
  ·rw [i_Cpu_ack_L0.eq_1] at H1; cases H1
  rw [i_Cpu_ack_L0.eq_2] at H1
  dsimp only
  refine sr (oW rfl (nn (cw_seq (cw_cond rfl (fun h21 => ?_) (fun h21 => ?_)))))
  ·have H1 := cond_t H1 h21
   obtain ⟨x22, e22, H1⟩ := bS H1
   refine cw_skip (kw_nx (cw_seq (cw_block (sr (oD (stp_indexAddr Tryd.underlying42 ts48 (by decide) rfl rfl rfl (Rdb.own (id := 3) rfl o12) e22) rfl (oD (stp_loadN (us := [_, _, _]) ts48 rfl (Cells.el (Rdb.own (id := 3) rfl o12) (by decide) e22 0 3 rfl)) rfl (oE (stpU_alloc 4 tz48 rfl) rfl ?_)))))))
   rintro _ _ ⟨b23, rfl, rfl⟩
   obtain ⟨x24, e24, H1⟩ := bS H1
   refine oC3 4 ts48 rfl rfl (nn (rdq g_mixed [0, 3] [0, 2, 4] { dst := dS [14, 15, 16, 17, 18, 19, 20, 21, 22, 23, 0], pre := gA [] [[], [], [1], [1, 2], [1, 2, 3], [], [5], rn 1 6, rn 0 8, rn 0 9, rn 0 10], ids := gA [] [[], [], [], [], [], [], [], [5], [], [], [0, 5]], rs := rL [[(0, 0)], [(0, 0)], [(14, 2)], [(15, 3)], [(16, 4)], [(3, 0)], [(18, 6)], [(17, 5), (19, 7)], [(13, 1)], [(21, 9)], [(22, 10), (20, 8)]], rh := rL [[], [], [], [], [(0, 0)], [], [(4, 0)], [(2, 0)], [], [], [(0, 0), (5, 8)]], V := fun i g => gA undef [.pointer (some ⟨eB p0_0, eO p0_0 + Int.toNat k0 * Enc.sz CpS + 0, none⟩), .pointer (some ⟨eB p0_0, eO p0_0 + Int.toNat k0 * Enc.sz CpS + 0, none⟩), .pointer (some ⟨eB p0_0, eO p0_0 + Int.toNat k0 * Enc.sz CpS + 0, none⟩), .pointer (some ⟨eB p0_0, eO p0_0 + Int.toNat k0 * Enc.sz CpS + 0, none⟩), .slice p14 ((v13).length) c16, .pointer (some ⟨b23, 0, none⟩), .agg #[.int .i64 x22.k.s, .int .i64 x22.k.p], .slice ((g 7).A 0) ((x24).length) ((g 7).C 0), .pointer (some ⟨eB p0_0, eO p0_0 + Int.toNat k0 * Enc.sz CpS + 0, none⟩), .pointer (some ⟨eB p0_0, eO p0_0 + Int.toNat k0 * Enc.sz CpS + 0, none⟩)] i, U := fun i g => match i with | 7 => [(5, ((g 7).R 0))] | 10 => [(0, ((g 10).R 0)), (5, ((g 10).R 1))] | _ => [], Φ := fun i x => match i with | 7 => OwnC 48 (x.A 0) (x.C 0) x24 (x.R 0) | 10 => OwnC (α := CpS) 44 p0_0 c0_0 (u19.set (Int.toNat k0) (⟨(x.A 0), (x24).length, (x.C 0), p6, (x1.w).length, c8⟩ : CpS)) (x.R 0) ∧ OwnC 48 (x.A 0) (x.C 0) x24 (x.R 1) | _ => True } ?_ ?_))
   ·refine ⟨lM, lM, lc rfl rfl fun hs hh => stp_nilCheck (sv hs 14 rfl), lc rfl rfl fun hs hh => stp_fieldAddr (j := 0) Tryd.underlying44 rfl ts42 rfl (sv hs 15 rfl) rfl, lc rfl rfl fun hs hh => stp_load1 ts42 (sv hs 16 rfl) (Cells.el (Rdb.own (id := 0) (hh.get 0 _ rfl) o20) (by decide) hx20 0 1 rfl), lc rfl rfl fun hs hh => stp_fieldAddr (j := 0) Tryd.underlying48 rfl ts46 rfl (sv hs 3 rfl) rfl, lc rfl rfl fun hs hh => stp_loadN (us := [_, _]) ts46 (sv hs 18 rfl) (Cells.box (id := 4) (hh.get 4 _ rfl) 2 rfl), ?_, lc rfl rfl fun hs hh => stp_nilCheck (sv hs 13 rfl), lc rfl rfl fun hs hh => stp_fieldAddr (j := 0) Tryd.underlying44 rfl ts42 rfl (sv hs 21 rfl) rfl, ?_, trivial⟩
    ·refine le rfl rfl (fun g hΦ s h hs hh => (stpU_call (fun i => 5 + i) cf73 (fun w hw => c_i_drop fl w v13 x22.k rfl (OwnC.pass (id := 2) (hh.get 2 _ rfl) o17 hw) x24 e24) (yB (sv hs 17 rfl) (sv hs 19 rfl)))) ?_
     rintro g _ _ ⟨_, ⟨p25, _, c27, C28, rfl, rfl, rfl, o28⟩, rfl⟩
     exact ⟨⟨[p25], [c27], [C28]⟩, o28, .inr rfl, rfl⟩
    refine le rfl rfl (fun g hΦ s h hs hh => (stpU_keep (hh.get 5 _ rfl) (stpU_storeEl (id := 0) (i := 0) (⟨((g 7).A 0), (x24).length, ((g 7).C 0), p6, (x1.w).length, c8⟩ : CpS) (by decide) ts42 (sv hs 22 rfl) (sv hs 20 rfl) (hh.get 0 _ rfl) o20 hx20 rfl rfl rfl rfl) (by rintro _ _ ⟨_, rfl, _⟩; rfl) (hΦ 7 rfl))) ?_
    rintro g _ _ ⟨_, ⟨C29, rfl, o29⟩, rfl, o32⟩
    exact ⟨⟨[((g 7).A 0)], [((g 7).C 0)], [C29, ((g 7).R 0)]⟩, ⟨o29, o32⟩, .inl rfl, rfl⟩
   intro g hΦ
   refine kw_gen (ι := Option Addr × Nat × Res × Option Addr × Nat × Res × Res) (((g 7).A 0), ((g 7).C 0), ((g 7).R 0), ((g 10).A 0), ((g 10).C 0), ((g 10).R 0), ((g 10).R 1)) (fun | (p25, c27, C28, p30, c31, C29, C32) => OwnC 48 p25 c27 x24 C28 ∧ OwnC (α := CpS) 44 p0_0 c0_0 (u19.set (Int.toNat k0) (⟨p30, (x24).length, c31, p6, (x1.w).length, c8⟩ : CpS)) C29 ∧ OwnC 48 p30 c31 x24 C32) (fun | (p25, c27, C28, p30, c31, C29, C32) => [(0, .pointer (some ⟨eB p0_0, eO p0_0 + Int.toNat k0 * Enc.sz CpS + 0, none⟩)), (7, .slice p6 ((x1.w).length) c8), (8, .int .i64 ((x1.w).length : Int)), (9, .int .i64 v18)]) (fun | (p25, c27, C28, p30, c31, C29, C32) => [(0, C29), (1, C10), (3, C12), (5, C32)]) ⟨(hΦ 7 (by decide)), (hΦ 10 (by decide)).1, (hΦ 10 (by decide)).2⟩ ⟨rfl, rfl, rfl, rfl, trivial⟩ ⟨rfl, rfl, rfl, rfl, trivial⟩ ?_
   rintro ⟨p25, c27, C28, p30, c31, C29, C32⟩ ⟨o28, o29, o32⟩
   dsimp only
   obtain ⟨x33, e33, H1⟩ := bS H1
   exact kw_bl_normal (kw_nx (cw_region (oP e33 rfl (oM rfl (ow_nil (kw_lqS (js := [0, 1, 5, 3]) (fuel, x24, x33, p30, ((x24).length), c31, C32, (u19.set (Int.toNat k0) (⟨p30, (x24).length, c31, p6, (x1.w).length, c8⟩ : CpS)), C29) ⟨H1, rfl, o32, (Bun.set hb20 _), (idx_set hx20), o29⟩ (Nat.lt_succ_self _) ⟨rfl, rfl, rfl, rfl, trivial⟩ ⟨0, [1, 5, 3], rfl, rfl, 1, [5, 3], rfl, rfl, 5, [3], rfl, rfl, 3, [], rfl, rfl, trivial⟩ (by decide)))))))
  have H1 := cond_f H1 h21
  refine cw_exit (kw_nx_exit (kw_lq_exit (kw_bl ?_)))
  obtain rfl := sI H1
  exact kw_joinS (js := [0, 1, 2, 3]) (v13, v18, p14, ((v13).length), c16, C17, u19, C20) ⟨rfl, rfl, o17, hb20, hx20, o20⟩ ⟨rfl, rfl, rfl, rfl, trivial⟩ ⟨0, [1, 2, 3], rfl, rfl, 1, [2, 3], rfl, rfl, 2, [3], rfl, rfl, 3, [], rfl, rfl, trivial⟩ (by decide)
 rintro ⟨v13, v18, p14, _, c16, C17, u19, C20⟩ ⟨rfl, rfl, o17, hb20, hx20, o20⟩
 dsimp only
 refine kw_nx (cw_region (oM rfl (oZ rfl (oA 1 Tryd.underlying44 rfl ts42 rfl (oF (stpU_storeEl (id := 0) (i := 1) (⟨p14, (v13).length, c16, none, 0, 0⟩ : CpS) (by decide) ts42 rfl rfl rfl o20 hx20 rfl rfl rfl rfl) ?_)))))
 rintro _ _ ⟨C34, rfl, o34⟩
 refine ow_nil (kw_addNil 6 (kw_shut 0 1 2 6 o34 (Bun.setL (Bun.set hb20 _) _) (idx_some (idx_set hx20)).2.2 (idx_setD e1 (⟨v13, ([] : List Nt)⟩ : Cp)) rfl o17 rfl (OwnC.nil 48 none) ?_))
 rintro C35 o35
 obtain rfl := sI H0
 exact ke Tryd.results81 .nil [0] ⟨_, rfl, rfl, (by simp), o35⟩
end Go.Proofs.YtfnliecmagnkdaaDoor
