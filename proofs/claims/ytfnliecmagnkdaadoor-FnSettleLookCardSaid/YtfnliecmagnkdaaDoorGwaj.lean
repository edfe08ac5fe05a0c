/- The walks: functions of the program return what their pure functions say. Printed by a program (gen.py). -/
import Derived.Test.YtfnliecmagnkdaaDoorGp
import Derived.Test.YtfnliecmagnkdaaDoorGt
import Derived.Test.YtfnliecmagnkdaaDoorMan
import Derived.Test.YtfnliecmagnkdaaDoorMap
import Derived.Test.YtfnliecmagnkdaaDoorCpy
import Derived.Test.YtfnliecmagnkdaaDoorClr
import Derived.Test.YtfnliecmagnkdaaDoorDp
import Derived.Test.YtfnliecmagnkdaaDoorSrt
import Derived.Test.YtfnliecmagnkdaaDoorE8
import Derived.Test.YtfnliecmagnkdaaDoorGwab
set_option linter.unusedSimpArgs false
set_option linter.unusedVariables false
set_option linter.unusedSectionVars false
namespace Go.Proofs.YtfnliecmagnkdaaDoor
open Go.RowKit
set_option maxHeartbeats 4000000
set_option maxRecDepth 20000
variable {p0_0 p0_1 : Option Addr} {n0_0 n0_1 : Nat} {c0_0 c0_1 : Nat}
theorem c_s_l8Ack (fl : Nat) (w : World) (a0 : Cp) (hn0_0 : n0_0 = (a0.n).length) (hr0_0 : RO w (hkeys []) (RdL p0_0 c0_0 a0.n)) (hn0_1 : n0_1 = (a0.w).length) (hr0_1 : RO w (hkeys []) (RdL p0_1 c0_1 a0.w)) (r : Cp) (H0 : s_l8Ack fl a0 = some r) :
  Ct Tryd.prog 82 [.agg #[.slice p0_0 n0_0 c0_0, .slice p0_1 n0_1 c0_1]] w [] (fun rv h' => ∃ (x0 : Option Addr) (y0 z0 : Nat) (C0 : Res) (x1 : Option Addr) (y1 z1 : Nat) (C1 : Res), rv = .agg #[.slice x0 y0 z0, .slice x1 y1 z1] ∧ h' = [(0, C0), (1, C1)] ∧ y0 = (r.n).length ∧ OwnC 48 x0 z0 r.n C0 ∧ y1 = (r.w).length ∧ OwnC 48 x1 z1 r.w C1) := by
 subst hn0_0 hn0_1
 unfold s_l8Ack at H0
 refine ct_of_cw Tryd.func82 rfl Tryd.ntmps82 rfl (Sat.refl _ _) ?_
 refine sr (oE (stpU_box 0 rfl rfl) rfl ?_)
 rintro _ _ ⟨b1, rfl, rfl⟩
 refine oE (stpU_alloc 1 tz44 rfl) rfl ?_
 rintro _ _ ⟨b2, rfl, rfl⟩
 refine nn (sr (oD (stp_build (cs := #[.slice none 0 0, .slice none 0 0]) sevp_nil bt44_10) rfl (oE (stpU_alloc 2 tz44 rfl) rfl ?_)))
 rintro _ _ ⟨b3, rfl, rfl⟩
 obtain ⟨o0_0, eo0_0, H0⟩ := bS H0
 refine oC2 2 ts44 rfl rfl (nn (cw_seq (sr (oS rfl (nn (cw_addNil 3 (cw_join (ι := (List Nt) × Int × Option Addr × Nat × Nat × Res) (fun | (v4, v9, p5, n6, c7, C8) => o0_0 = .out (v4, v9) ∧ n6 = (v4).length ∧ OwnC 48 p5 c7 v4 C8) (fun | (v4, v9, p5, n6, c7, C8) => [(1, .pointer (some ⟨b1, 0, none⟩)), (2, .pointer (some ⟨b2, 0, none⟩)), (3, .pointer (some ⟨b3, 0, none⟩)), (4, .int .i64 v9)]) (fun | (v4, v9, p5, n6, c7, C8) => [(0, [(b1, .cells #[.slice p0_0 ((a0.n).length) c0_0, .slice p0_1 ((a0.w).length) c0_1] 44 (0, 0))]), (1, [(b2, .cells #[.slice none 0 0, .slice none 0 0] 44 (0, 0))]), (2, [(b3, .cells #[.slice p5 n6 c7, .slice none 0 0] 44 (0, 0))]), (1001, C8)]) ?_ ?_)))))))
 ·refine cw_block (cw_loopS (ι := Nat × (List Nt) × Int × Option Addr × Nat × Nat × Res) (js := [0, 1, 2, 3]) (fun x => x.1) (fun | (fuel, v4, v9, p5, n6, c7, C8) => s_l8Ack_L0 fl a0 fuel v4 v9 = some o0_0 ∧ n6 = (v4).length ∧ OwnC 48 p5 c7 v4 C8) (fun | (_, v4, v9, p5, n6, c7, C8) => [(1, .pointer (some ⟨b1, 0, none⟩)), (2, .pointer (some ⟨b2, 0, none⟩)), (3, .pointer (some ⟨b3, 0, none⟩)), (4, .int .i64 v9)]) (fun | (_, v4, v9, p5, n6, c7, C8) => [(0, [(b1, .cells #[.slice p0_0 ((a0.n).length) c0_0, .slice p0_1 ((a0.w).length) c0_1] 44 (0, 0))]), (1, [(b2, .cells #[.slice none 0 0, .slice none 0 0] 44 (0, 0))]), (2, [(b3, .cells #[.slice p5 n6 c7, .slice none 0 0] 44 (0, 0))]), (1001, C8)]) (fl, [], 0, none, 0, 0, []) ⟨eo0_0, rfl, (OwnC.nil _ _)⟩ ⟨rfl, rfl, rfl, rfl, trivial⟩ ⟨0, [1, 2, 3], rfl, rfl, 1, [2, 3], rfl, rfl, 2, [3], rfl, rfl, 3, [], rfl, rfl, trivial⟩ (by decide) ?_)
  rintro ⟨fuel, v4, v9, p5, _, c7, C8⟩ ⟨H1, rfl, o8⟩
  have H1 : s_l8Ack_L0 fl a0 fuel v4 v9 = some o0_0 := H1
  rcases fuel with _ | fuel
  ·rw [s_l8Ack_L0.eq_1] at H1; cases H1
  rw [s_l8Ack_L0.eq_2] at H1
  dsimp only
  refine cw_seq (sr (oM rfl (oA 0 Tryd.underlying44 rfl ts42 rfl (oL 0 ts42 rfl (oD (stp_len Tryd.underlying42 rfl) rfl (oW rfl (nn (cw_cond rfl (fun h10 => ?_) (fun h10 => ?_)))))))))
  ·have H1 := cond_t H1 h10
   obtain ⟨x11, e11, H1⟩ := bS H1
   obtain ⟨x12, e12, H1⟩ := bS H1
   refine cw_skip (kw_nx (cw_seq (cw_block (cw_seq (rdq g_mixed [1, 4] [0] { dst := dS [14, 15, 16, 17, 18, 19, 20, 21, 22, 23], pre := gA [] [[], [0], [], [2], [], [2, 3, 4], rn 2 4, rn 2 5, rn 0 8, rn 0 9], ids := fun _ => [], rs := rL [[(1, 0)], [(13, 1)], [(1, 0)], [(15, 3)], [(4, 0)], [(16, 4), (17, 5)], [(18, 6)], [(19, 7)], [(14, 2), (20, 8)], [(21, 9)]], rh := rL [[], [(0, 0)], [], [(0, 0)]], V := fun i g => gA undef [.pointer (some ⟨b1, 1, none⟩), .slice p0_1 ((a0.w).length) c0_1, .pointer (some ⟨b1, 0, none⟩), .slice p0_0 ((a0.n).length) c0_0, .int .i64 v9, .pointer (some ⟨eB p0_0, eO p0_0 + Int.toNat v9 * Enc.sz Nt + 0, none⟩), .pointer (some ⟨eB p0_0, eO p0_0 + Int.toNat v9 * Enc.sz Nt + 0, none⟩), .agg #[.int .i64 x11.k.s, .int .i64 x11.k.p], .int .i64 x12, .bool (decide (x12 < 0))] i, U := fun _ _ => [], Φ := fun _ _ => True } ?_ ?_)))))
   ·refine ⟨lc rfl rfl fun hs hh => stp_fieldAddr (j := 1) Tryd.underlying44 rfl ts42 rfl (sv hs 1 rfl) rfl, lc rfl rfl fun hs hh => stp_load1 ts42 (sv hs 13 rfl) (Cells.box (id := 0) (hh.get 0 _ rfl) 1 rfl), lc rfl rfl fun hs hh => stp_fieldAddr (j := 0) Tryd.underlying44 rfl ts42 rfl (sv hs 1 rfl) rfl, lc rfl rfl fun hs hh => stp_load1 ts42 (sv hs 15 rfl) (Cells.box (id := 0) (hh.get 0 _ rfl) 1 rfl), lM, lc rfl rfl fun hs hh => stp_indexAddr Tryd.underlying42 ts48 (by decide) (sv hs 16 rfl) rfl (sv hs 17 rfl) (Rdb.ro hr0_0) e11, lc rfl rfl fun hs hh => stp_fieldAddr (j := 0) Tryd.underlying48 rfl ts46 rfl (sv hs 18 rfl) rfl, lc rfl rfl fun hs hh => stp_loadN (us := [_, _]) ts46 (sv hs 19 rfl) (Cells.el (Rdb.ro hr0_0) (by decide) e11 0 2 rfl), ?_, lc rfl rfl fun hs hh => stp_lss (sv hs 21 rfl) rfl, trivial⟩
    refine le rfl rfl (fun g hΦ s h hs hh => (stpU_call (fun i => 4 + i) cf78 (fun w hw => c_s_l8Find fl w a0.w x11.k rfl (RO.pass hr0_1 hw) x12 e12) (yB (sv hs 14 rfl) (sv hs 20 rfl)))) ?_
    rintro g _ _ ⟨_, ⟨rfl, rfl⟩, rfl⟩
    exact ⟨⟨[], [], []⟩, trivial, .inr rfl, rfl⟩
   intro g hΦ
   refine KW.sub (s' := [(1, .pointer (some ⟨b1, 0, none⟩)), (2, .pointer (some ⟨b2, 0, none⟩)), (3, .pointer (some ⟨b3, 0, none⟩)), (4, .int .i64 v9), (22, .bool (decide (x12 < 0)))]) (h' := [(0, [(b1, .cells #[.slice p0_0 ((a0.n).length) c0_0, .slice p0_1 ((a0.w).length) c0_1] 44 (0, 0))]), (1, [(b2, .cells #[.slice none 0 0, .slice none 0 0] 44 (0, 0))]), (2, [(b3, .cells #[.slice p5 ((v4).length) c7, .slice none 0 0] 44 (0, 0))]), (1001, C8)]) ?_ ⟨rfl, rfl, rfl, rfl, rfl, trivial⟩ ⟨rfl, rfl, rfl, rfl, trivial⟩
   refine kw_nx (cw_cond rfl (fun h13 => ?_) (fun h13 => ?_))
   ·have H1 := cond_t H1 h13
    obtain ⟨x16, e16, H1⟩ := bS H1
    refine rdq g_mixed [1, 3, 4] [0, 2, 1001] { dst := dS [24, 25, 26, 27, 28, 29, 30, 31, 32, 33, 0], pre := gA [] [[], [0], [], [2], [], [2, 3, 4], rn 2 4, rn 2 5, rn 0 8, rn 0 9, rn 0 10], ids := gA [] [[], [], [], [], [], [], [], [4], [1001], [], [2]], rs := rL [[(3, 0)], [(23, 1)], [(1, 0)], [(25, 3)], [(4, 0)], [(26, 4), (27, 5)], [(28, 6)], [(29, 7)], [(24, 2), (30, 8)], [(3, 0)], [(32, 10), (31, 9)]], rh := rL [[], [(2, 0)], [], [(0, 0)], [], [], [], [], [(4, 8), (1001, 0)], [], [(2, 0)]], V := fun i g => gA undef [.pointer (some ⟨b3, 0, none⟩), .slice p5 ((v4).length) c7, .pointer (some ⟨b1, 0, none⟩), .slice p0_0 ((a0.n).length) c0_0, .int .i64 v9, .pointer (some ⟨eB p0_0, eO p0_0 + Int.toNat v9 * Enc.sz Nt + 0, none⟩), .agg #[.int .i64 x11.k.s, .int .i64 x11.k.p, .int .i64 x11.fr], .slice ((g 7).A 0) 1 1, .slice ((g 8).A 0) ((x16).length) ((g 8).C 0), .pointer (some ⟨b3, 0, none⟩)] i, U := fun i g => gA [] [[], [], [], [], [], [], [], [(4, ((g 7).R 0))], [(1001, ((g 8).R 0))], [], [(2, [(b3, .cells #[.slice ((g 8).A 0) ((x16).length) ((g 8).C 0), .slice none 0 0] 44 (0, 0))])]] i, Φ := fun i x => match i with | 7 => OwnC (α := Nt) 48 (x.A 0) 1 ([x11]) (x.R 0) | 8 => OwnC 48 (x.A 0) (x.C 0) x16 (x.R 0) | _ => True } ?_ ?_
    ·refine ⟨lc rfl rfl fun hs hh => stp_fieldAddr (j := 0) Tryd.underlying44 rfl ts42 rfl (sv hs 3 rfl) rfl, lc rfl rfl fun hs hh => stp_load1 ts42 (sv hs 23 rfl) (Cells.box (id := 2) (hh.get 2 _ rfl) 1 rfl), lc rfl rfl fun hs hh => stp_fieldAddr (j := 0) Tryd.underlying44 rfl ts42 rfl (sv hs 1 rfl) rfl, lc rfl rfl fun hs hh => stp_load1 ts42 (sv hs 25 rfl) (Cells.box (id := 0) (hh.get 0 _ rfl) 1 rfl), lM, lc rfl rfl fun hs hh => stp_indexAddr Tryd.underlying42 ts48 (by decide) (sv hs 26 rfl) rfl (sv hs 27 rfl) (Rdb.ro hr0_0) e11, lc rfl rfl fun hs hh => stp_loadN (us := [_, _, _]) ts48 (sv hs 28 rfl) (Cells.el (Rdb.ro hr0_0) (by decide) e11 0 3 rfl), ?_, ?_, lc rfl rfl fun hs hh => stp_fieldAddr (j := 0) Tryd.underlying44 rfl ts42 rfl (sv hs 3 rfl) rfl, ?_, trivial⟩
     ·refine le rfl rfl (fun g hΦ s h hs hh => (stpU_lit (sz := 3) (l := [x11]) [.agg #[.int .i64 x11.k.s, .int .i64 x11.k.p, .int .i64 x11.fr]] sl42 4 (sevp_cons (sv hs 29 rfl) sevp_nil) rfl rfl rfl rfl rfl rfl rfl rfl rfl)) ?_
      rintro g _ _ ⟨p14, C15, rfl, rfl, o15⟩
      exact ⟨⟨[p14], [], [C15]⟩, o15, .inr rfl, rfl⟩
     ·refine le rfl rfl (fun g hΦ s h hs hh => (stpU_append sl42 rfl (id := 1001) (sv hs 24 rfl) rfl (sv hs 30 rfl) (by simp) (hh.get 1001 _ rfl) o8 (Rdb.own (id := 4) (hh.get 4 _ rfl) (hΦ 7 rfl)) e16)) ?_
      rintro g _ _ ⟨p17, c18, C19, rfl, rfl, o19⟩
      exact ⟨⟨[p17], [c18], [C19]⟩, o19, .inr rfl, rfl⟩
     refine le rfl rfl (fun g hΦ s h hs hh => (stpU_store (id := 2) (cs' := [.slice ((g 8).A 0) ((x16).length) ((g 8).C 0), .slice none 0 0]) ts42 (sv hs 32 rfl) (sv hs 31 rfl) (hh.get 2 _ rfl) rfl rfl rfl rfl)) ?_
     rintro g _ _ rfl
     exact ⟨⟨[], [], []⟩, trivial, .inl rfl, rfl⟩
    intro g hΦ
    refine kw_gen (ι := Option Addr × Res × Option Addr × Nat × Res) (((g 7).A 0), ((g 7).R 0), ((g 8).A 0), ((g 8).C 0), ((g 8).R 0)) (fun | (p14, C15, p17, c18, C19) => OwnC (α := Nt) 48 p14 1 ([x11]) C15 ∧ OwnC 48 p17 c18 x16 C19) (fun | (p14, C15, p17, c18, C19) => [(1, .pointer (some ⟨b1, 0, none⟩)), (2, .pointer (some ⟨b2, 0, none⟩)), (3, .pointer (some ⟨b3, 0, none⟩)), (4, .int .i64 v9)]) (fun | (p14, C15, p17, c18, C19) => [(0, [(b1, .cells #[.slice p0_0 ((a0.n).length) c0_0, .slice p0_1 ((a0.w).length) c0_1] 44 (0, 0))]), (1, [(b2, .cells #[.slice none 0 0, .slice none 0 0] 44 (0, 0))]), (2, [(b3, .cells #[.slice p17 ((x16).length) c18, .slice none 0 0] 44 (0, 0))]), (1001, C19)]) ⟨(hΦ 7 (by decide)), (hΦ 8 (by decide))⟩ ⟨rfl, rfl, rfl, rfl, trivial⟩ ⟨rfl, rfl, rfl, rfl, trivial⟩ ?_
    rintro ⟨p14, C15, p17, c18, C19⟩ ⟨o15, o19⟩
    dsimp only
    obtain ⟨x20, e20, H1⟩ := bS H1
    exact kw_bl_normal (kw_nx (cw_region (oM rfl (oP e20 rfl (oS rfl (ow_nil (kw_lqS (js := [0, 1, 2, 1001]) (fuel, x16, x20, p17, ((x16).length), c18, C19) ⟨H1, rfl, o19⟩ (Nat.lt_succ_self _) ⟨rfl, rfl, rfl, rfl, trivial⟩ ⟨0, [1, 2, 1001], rfl, rfl, 1, [2, 1001], rfl, rfl, 2, [1001], rfl, rfl, 1001, [], rfl, rfl, trivial⟩ (by decide))))))))
   have H1 := cond_f H1 h13
   obtain ⟨x21, e21, H1⟩ := bS H1
   exact cw_skip (kw_bl_normal (kw_nx (cw_region (oM rfl (oP e21 rfl (oS rfl (ow_nil (kw_lqS (js := [0, 1, 2, 1001]) (fuel, v4, x21, p5, ((v4).length), c7, C8) ⟨H1, rfl, o8⟩ (Nat.lt_succ_self _) ⟨rfl, rfl, rfl, rfl, trivial⟩ ⟨0, [1, 2, 1001], rfl, rfl, 1, [2, 1001], rfl, rfl, 2, [1001], rfl, rfl, 1001, [], rfl, rfl, trivial⟩ (by decide)))))))))
  have H1 := cond_f H1 h10
  refine cw_exit (kw_nx_exit (kw_lq_exit (kw_bl ?_)))
  obtain rfl := sI H1
  exact kw_joinS (js := [0, 1, 2, 1001]) (v4, v9, p5, ((v4).length), c7, C8) ⟨rfl, rfl, o8⟩ ⟨rfl, rfl, rfl, rfl, trivial⟩ ⟨0, [1, 2, 1001], rfl, rfl, 1, [2, 1001], rfl, rfl, 2, [1001], rfl, rfl, 1001, [], rfl, rfl, trivial⟩ (by decide)
 rintro ⟨v4, v9, p5, _, c7, C8⟩ ⟨rfl, rfl, o8⟩
 dsimp only
 refine kw_nx (sr (oB2 2 ts44 rfl (oC2 1 ts44 rfl rfl (nn (cw_ret (kw_addNil 5 ?_))))))
 obtain rfl := sI H0
 exact kr Tryd.results82 (rC2 1 ts44 rfl rfl) [1001, 5] ⟨_, _, _, _, _, _, _, _, rfl, rfl, rfl, o8, rfl, (OwnC.nil _ _)⟩
end Go.Proofs.YtfnliecmagnkdaaDoor
