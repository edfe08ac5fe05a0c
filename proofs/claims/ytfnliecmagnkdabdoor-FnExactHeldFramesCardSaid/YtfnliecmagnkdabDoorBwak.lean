/- The walks: functions of the program return what their pure functions say. Printed by a program (gen.py). -/
import Derived.Test.YtfnliecmagnkdabDoorBp
import Derived.Test.YtfnliecmagnkdabDoorBt
import Derived.Test.YtfnliecmagnkdabDoorMan
import Derived.Test.YtfnliecmagnkdabDoorMap
import Derived.Test.YtfnliecmagnkdabDoorCpy
import Derived.Test.YtfnliecmagnkdabDoorClr
import Derived.Test.YtfnliecmagnkdabDoorDp
import Derived.Test.YtfnliecmagnkdabDoorSrt
import Derived.Test.YtfnliecmagnkdabDoorE8
set_option linter.unusedSimpArgs false
set_option linter.unusedVariables false
set_option linter.unusedSectionVars false
namespace Go.Proofs.YtfnliecmagnkdabDoor
open Go.RowKit
set_option maxHeartbeats 4000000
set_option maxRecDepth 20000
variable {p0_0 p0_1 p0_2 : Option Addr} {n0_0 n0_1 n0_2 : Nat} {c0_0 c0_1 c0_2 : Nat}
theorem c_s_l8Held (fl : Nat) (w : World) (a0 : Sy) (a1 : Int) (a2 : K) (hn0_0 : n0_0 = (a0.t.b).length) (hr0_0 : RO w (hkeys []) (RdL p0_0 c0_0 a0.t.b)) (hn0_1 : n0_1 = (a0.t.f).length) (hr0_1 : RO w (hkeys []) (RdL p0_1 c0_1 a0.t.f)) (hn0_2 : n0_2 = (a0.c).length) (hr0_2 : ROD w (hkeys []) p0_2 c0_2 a0.c) (r : Bool) (H0 : s_l8Held fl a0 a1 a2 = some r) :
  Ct Tryd.prog 67 [.agg #[.slice p0_0 n0_0 c0_0, .slice p0_1 n0_1 c0_1, .slice p0_2 n0_2 c0_2], .int .i64 a1, .agg #[.int .i64 a2.s, .int .i64 a2.p]] w [] (fun rv h' => rv = .bool r ∧ h' = []) := by
 subst hn0_0 hn0_1 hn0_2
 unfold s_l8Held at H0
 refine ct_of_cw Tryd.func67 rfl Tryd.ntmps67 rfl (Sat.refl _ _) ?_
 refine sr (oE (stpU_box 0 rfl rfl) rfl ?_)
 rintro _ _ ⟨b1, rfl, rfl⟩
 refine oE (stpU_box 1 rfl rfl) rfl ?_
 rintro _ _ ⟨b2, rfl, rfl⟩
 obtain ⟨o0_0, eo0_0, H0⟩ := bS H0
 refine oS rfl (nn (cw_seq (sr (oS rfl (nn (cw_join (ι := Int) (fun | v3 => o0_0 = .out v3) (fun | v3 => [(1, .int .i64 a1), (3, .pointer (some ⟨b1, 0, none⟩)), (5, .pointer (some ⟨b2, 0, none⟩)), (7, .int .i64 v3)]) (fun | v3 => [(0, [(b1, .cells #[.slice p0_0 ((a0.t.b).length) c0_0, .slice p0_1 ((a0.t.f).length) c0_1, .slice p0_2 ((a0.c).length) c0_2] 37 (0, 0))]), (1, [(b2, .cells #[.int .i64 a2.s, .int .i64 a2.p] 41 (0, 0))])]) ?_ ?_))))))
 ·refine cw_block (cw_loopS (ι := Nat × Int) (js := [0, 1]) (fun x => x.1) (fun | (fuel, v3) => s_l8Held_L0 fl a0 a1 a2 fuel v3 = some o0_0) (fun | (_, v3) => [(1, .int .i64 a1), (3, .pointer (some ⟨b1, 0, none⟩)), (5, .pointer (some ⟨b2, 0, none⟩)), (7, .int .i64 v3)]) (fun | (_, v3) => [(0, [(b1, .cells #[.slice p0_0 ((a0.t.b).length) c0_0, .slice p0_1 ((a0.t.f).length) c0_1, .slice p0_2 ((a0.c).length) c0_2] 37 (0, 0))]), (1, [(b2, .cells #[.int .i64 a2.s, .int .i64 a2.p] 41 (0, 0))])]) (fl, 0) eo0_0 ⟨rfl, rfl, rfl, rfl, trivial⟩ ⟨0, [1], rfl, rfl, 1, [], rfl, rfl, trivial⟩ (by decide) ?_)
  rintro ⟨fuel, v3⟩ H1
  have H1 : s_l8Held_L0 fl a0 a1 a2 fuel v3 = some o0_0 := H1
  rcases fuel with _ | fuel
  ·rw [s_l8Held_L0.eq_1] at H1; cases H1
  rw [s_l8Held_L0.eq_2] at H1
  dsimp only
  refine cw_seq (sr (oM rfl (oA 2 Tryd.underlying37 rfl ts35 rfl (oL 0 ts35 rfl (oD (stp_len Tryd.underlying35 rfl) rfl (oW rfl (nn (cw_cond rfl (fun h4 => ?_) (fun h4 => ?_)))))))))
  ·have H1 := cond_t H1 h4
   obtain ⟨o1_1, eo1_1, H1⟩ := bS H1
   refine cw_skip (kw_nx (cw_seq (cw_block (sr (oS rfl (nn (cw_join (ι := Int) (fun | v5 => o1_1 = .out v5) (fun | v5 => [(1, .int .i64 a1), (3, .pointer (some ⟨b1, 0, none⟩)), (5, .pointer (some ⟨b2, 0, none⟩)), (7, .int .i64 v3), (8, .int .i64 v5)]) (fun | v5 => [(0, [(b1, .cells #[.slice p0_0 ((a0.t.b).length) c0_0, .slice p0_1 ((a0.t.f).length) c0_1, .slice p0_2 ((a0.c).length) c0_2] 37 (0, 0))]), (1, [(b2, .cells #[.int .i64 a2.s, .int .i64 a2.p] 41 (0, 0))])]) ?_ ?_)))))))
   ·refine cw_block (cw_loopS (ι := Nat × Int) (js := [0, 1]) (fun x => x.1) (fun | (fuel, v5) => s_l8Held_L1 fl a0 a1 a2 v3 fuel v5 = some o1_1) (fun | (_, v5) => [(1, .int .i64 a1), (3, .pointer (some ⟨b1, 0, none⟩)), (5, .pointer (some ⟨b2, 0, none⟩)), (7, .int .i64 v3), (8, .int .i64 v5)]) (fun | (_, v5) => [(0, [(b1, .cells #[.slice p0_0 ((a0.t.b).length) c0_0, .slice p0_1 ((a0.t.f).length) c0_1, .slice p0_2 ((a0.c).length) c0_2] 37 (0, 0))]), (1, [(b2, .cells #[.int .i64 a2.s, .int .i64 a2.p] 41 (0, 0))])]) (fl, 0) eo1_1 ⟨rfl, rfl, rfl, rfl, rfl, trivial⟩ ⟨0, [1], rfl, rfl, 1, [], rfl, rfl, trivial⟩ (by decide) ?_)
    rintro ⟨fuel, v5⟩ H2
    have H2 : s_l8Held_L1 fl a0 a1 a2 v3 fuel v5 = some o1_1 := H2
    rcases fuel with _ | fuel
    ·rw [s_l8Held_L1.eq_1] at H2; cases H2
    rw [s_l8Held_L1.eq_2] at H2
    dsimp only
    obtain ⟨x6, e6, H2⟩ := bS H2
    refine cw_seq (sr (oM rfl (oA 2 Tryd.underlying37 rfl ts35 rfl (oL 0 ts35 rfl (oM rfl ?_)))))
    obtain ⟨u7, p8, n9, c10, p11, n12, c13, hw7, hl7, hx7, rfl, hr7, rfl, hs7⟩ := ROD.get hr0_2 e6
    refine oD (stp_indexAddr Tryd.underlying35 ts53 (by decide) rfl hl7 rfl (Rdb.ro hw7) hx7) rfl (oA 1 Tryd.underlying53 rfl ts51 rfl (oD (stp_load1 ts51 rfl (Cells.el (Rdb.ro hw7) (by decide) hx7 1 1 rfl)) rfl (oD (stp_len Tryd.underlying51 rfl) rfl (oW rfl (nn (cw_cond rfl (fun h14 => ?_) (fun h14 => ?_)))))))
    ·have H2 := cond_t H2 h14
     obtain ⟨x15, e15, H2⟩ := bS H2
     obtain ⟨y16, ey16, H2⟩ := bS H2
     refine cw_skip (kw_nx (cw_seq (cw_block (cw_seq (cw_join (ι := Unit) (fun | _ => True) (fun | _ => [(1, .int .i64 a1), (3, .pointer (some ⟨b1, 0, none⟩)), (5, .pointer (some ⟨b2, 0, none⟩)), (7, .int .i64 v3), (8, .int .i64 v5), (52, .bool y16)]) (fun | _ => [(0, [(b1, .cells #[.slice p0_0 ((a0.t.b).length) c0_0, .slice p0_1 ((a0.t.f).length) c0_1, .slice p0_2 ((a0.c).length) c0_2] 37 (0, 0))]), (1, [(b2, .cells #[.int .i64 a2.s, .int .i64 a2.p] 41 (0, 0))])]) ?_ ?_)))))
     ·rcases Bool.eq_false_or_eq_true (x15.fr == a1) with hy16 | hy16
      ·have ey16 := cond_t ey16 hy16
       have qy16 := sI ey16
       refine rdq g_mixed [1, 3, 7, 8] [0] { dst := dS [28, 29, 30, 31, 32, 33, 34, 35, 36, 37, 38, 39, 40, 41, 42, 43, 44, 45, 46, 47, 48, 49, 50, 51, 52, 53], pre := gA [] [[], [0], [], [0, 1, 2], rn 0 4, rn 0 5, [], rn 0 7, rn 0 8, rn 0 9, [], rn 0 11, rn 0 12, rn 0 13, rn 0 14, rn 0 13, rn 0 16, rn 0 17, rn 0 18, rn 0 13, rn 0 20, rn 0 21, rn 0 22, rn 0 13, rn 0 24, rn 0 25], ids := fun _ => [], rs := rL [[(3, 0)], [(27, 1)], [(7, 0)], [(28, 2), (29, 3)], [(30, 4)], [(31, 5)], [(8, 0)], [(32, 6), (33, 7)], [(34, 8)], [(35, 9)], [(1, 0)], [(36, 10), (37, 11)], [(38, 12)], [(39, 13)], [(39, 13)], [(39, 13)], [(39, 13)], [(39, 13)], [(39, 13)], [(39, 13)], [(39, 13)], [(39, 13)], [(39, 13)], [(39, 13)], [(39, 13)], [(39, 13), (51, 25)]], rh := rL [[], [(0, 0)]], V := fun i g => gA undef [.pointer (some ⟨b1, 2, none⟩), .slice p0_2 ((a0.c).length) c0_2, .int .i64 v3, .pointer (some ⟨eB p0_2, eO p0_2 + Int.toNat v3 * Enc.sz CpS + 0, none⟩), .pointer (some ⟨eB p0_2, eO p0_2 + Int.toNat v3 * Enc.sz CpS + 1, none⟩), .slice p11 ((x6.w).length) c13, .int .i64 v5, .pointer (some ⟨eB p11, eO p11 + Int.toNat v5 * Enc.sz Nt + 0, none⟩), .pointer (some ⟨eB p11, eO p11 + Int.toNat v5 * Enc.sz Nt + 2, none⟩), .int .i64 x15.fr, .int .i64 a1, .bool (x15.fr == a1), .bool (x15.fr == a1), undef, undef, undef, undef, undef, undef, undef, undef, undef, undef, undef, undef, .bool y16] i, U := fun _ _ => [], Φ := fun _ _ => True } ?_ ?_
       ·exact ⟨lc rfl rfl fun hs hh => stp_fieldAddr (j := 2) Tryd.underlying37 rfl ts35 rfl (sv hs 3 rfl) rfl, lc rfl rfl fun hs hh => stp_load1 ts35 (sv hs 27 rfl) (Cells.box (id := 0) (hh.get 0 _ rfl) 1 rfl), lM, lc rfl rfl fun hs hh => stp_indexAddr Tryd.underlying35 ts53 (by decide) (sv hs 28 rfl) hl7 (sv hs 29 rfl) (Rdb.ro hw7) hx7, lc rfl rfl fun hs hh => stp_fieldAddr (j := 1) Tryd.underlying53 rfl ts51 rfl (sv hs 30 rfl) rfl, lc rfl rfl fun hs hh => stp_load1 ts51 (sv hs 31 rfl) (Cells.el (Rdb.ro hw7) (by decide) hx7 1 1 rfl), lM, lc rfl rfl fun hs hh => stp_indexAddr Tryd.underlying51 ts55 (by decide) (sv hs 32 rfl) rfl (sv hs 33 rfl) (Rdb.ro hs7) e15, lc rfl rfl fun hs hh => stp_fieldAddr (j := 2) Tryd.underlying55 rfl ts3 rfl (sv hs 34 rfl) rfl, lc rfl rfl fun hs hh => stp_load1 ts3 (sv hs 35 rfl) (Cells.el (Rdb.ro hs7) (by decide) e15 2 1 rfl), lM, lc rfl rfl fun hs hh => stp_eql (sv hs 36 rfl) (sv hs 37 rfl), lM, lo rfl rfl 39 hy16, lo rfl rfl 39 hy16, lo rfl rfl 39 hy16, lo rfl rfl 39 hy16, lo rfl rfl 39 hy16, lo rfl rfl 39 hy16, lo rfl rfl 39 hy16, lo rfl rfl 39 hy16, lo rfl rfl 39 hy16, lo rfl rfl 39 hy16, lo rfl rfl 39 hy16, lo rfl rfl 39 hy16, lc rfl rfl fun hs hh => stp_pick_tB (sv hs 39 rfl) hy16 rfl qy16, trivial⟩
       intro g hΦ
       exact kw_join () trivial ⟨rfl, rfl, rfl, rfl, rfl, rfl, trivial⟩ ⟨rfl, rfl, trivial⟩
      have ey16 := cond_f ey16 hy16
      have qy16 := sI ey16
      refine rdq g_mixed [1, 3, 5, 7, 8] [0, 1] { dst := dS [28, 29, 30, 31, 32, 33, 34, 35, 36, 37, 38, 39, 40, 41, 42, 43, 44, 45, 46, 47, 48, 49, 50, 51, 52, 53], pre := gA [] [[], [0], [], [0, 1, 2], rn 0 4, rn 0 5, [], rn 0 7, rn 0 8, rn 0 9, [], rn 0 11, rn 0 12, rn 0 13, rn 0 14, rn 0 13, rn 0 16, rn 0 17, rn 0 18, rn 0 13, rn 0 20, rn 0 21, rn 0 22, rn 0 13, rn 0 24, rn 0 25], ids := fun _ => [], rs := rL [[(3, 0)], [(27, 1)], [(7, 0)], [(28, 2), (29, 3)], [(30, 4)], [(31, 5)], [(8, 0)], [(32, 6), (33, 7)], [(34, 8)], [(35, 9)], [(1, 0)], [(36, 10), (37, 11)], [(38, 12)], [(3, 0), (39, 13)], [(40, 14), (39, 13)], [(7, 0), (39, 13)], [(41, 15), (42, 16), (39, 13)], [(43, 17), (39, 13)], [(44, 18), (39, 13)], [(8, 0), (39, 13)], [(45, 19), (46, 20), (39, 13)], [(47, 21), (39, 13)], [(48, 22), (39, 13)], [(5, 0), (39, 13)], [(49, 23), (50, 24), (39, 13)], [(39, 13), (51, 25)]], rh := rL [[], [(0, 0)], [], [], [], [], [], [], [], [], [], [], [], [], [(0, 0)], [], [], [], [], [], [], [], [], [(1, 0)]], V := fun i g => gA undef [.pointer (some ⟨b1, 2, none⟩), .slice p0_2 ((a0.c).length) c0_2, .int .i64 v3, .pointer (some ⟨eB p0_2, eO p0_2 + Int.toNat v3 * Enc.sz CpS + 0, none⟩), .pointer (some ⟨eB p0_2, eO p0_2 + Int.toNat v3 * Enc.sz CpS + 1, none⟩), .slice p11 ((x6.w).length) c13, .int .i64 v5, .pointer (some ⟨eB p11, eO p11 + Int.toNat v5 * Enc.sz Nt + 0, none⟩), .pointer (some ⟨eB p11, eO p11 + Int.toNat v5 * Enc.sz Nt + 2, none⟩), .int .i64 x15.fr, .int .i64 a1, .bool (x15.fr == a1), .bool (x15.fr == a1), .pointer (some ⟨b1, 2, none⟩), .slice p0_2 ((a0.c).length) c0_2, .int .i64 v3, .pointer (some ⟨eB p0_2, eO p0_2 + Int.toNat v3 * Enc.sz CpS + 0, none⟩), .pointer (some ⟨eB p0_2, eO p0_2 + Int.toNat v3 * Enc.sz CpS + 1, none⟩), .slice p11 ((x6.w).length) c13, .int .i64 v5, .pointer (some ⟨eB p11, eO p11 + Int.toNat v5 * Enc.sz Nt + 0, none⟩), .pointer (some ⟨eB p11, eO p11 + Int.toNat v5 * Enc.sz Nt + 0, none⟩), .agg #[.int .i64 x15.k.s, .int .i64 x15.k.p], .agg #[.int .i64 a2.s, .int .i64 a2.p], .bool (x15.k == a2), .bool y16] i, U := fun _ _ => [], Φ := fun _ _ => True } ?_ ?_
      ·exact ⟨lc rfl rfl fun hs hh => stp_fieldAddr (j := 2) Tryd.underlying37 rfl ts35 rfl (sv hs 3 rfl) rfl, lc rfl rfl fun hs hh => stp_load1 ts35 (sv hs 27 rfl) (Cells.box (id := 0) (hh.get 0 _ rfl) 1 rfl), lM, lc rfl rfl fun hs hh => stp_indexAddr Tryd.underlying35 ts53 (by decide) (sv hs 28 rfl) hl7 (sv hs 29 rfl) (Rdb.ro hw7) hx7, lc rfl rfl fun hs hh => stp_fieldAddr (j := 1) Tryd.underlying53 rfl ts51 rfl (sv hs 30 rfl) rfl, lc rfl rfl fun hs hh => stp_load1 ts51 (sv hs 31 rfl) (Cells.el (Rdb.ro hw7) (by decide) hx7 1 1 rfl), lM, lc rfl rfl fun hs hh => stp_indexAddr Tryd.underlying51 ts55 (by decide) (sv hs 32 rfl) rfl (sv hs 33 rfl) (Rdb.ro hs7) e15, lc rfl rfl fun hs hh => stp_fieldAddr (j := 2) Tryd.underlying55 rfl ts3 rfl (sv hs 34 rfl) rfl, lc rfl rfl fun hs hh => stp_load1 ts3 (sv hs 35 rfl) (Cells.el (Rdb.ro hs7) (by decide) e15 2 1 rfl), lM, lc rfl rfl fun hs hh => stp_eql (sv hs 36 rfl) (sv hs 37 rfl), lM, lg rfl rfl 39 hy16 fun hs hh => stp_fieldAddr (j := 2) Tryd.underlying37 rfl ts35 rfl (sv hs 3 rfl) rfl, lg rfl rfl 39 hy16 fun hs hh => stp_load1 ts35 (sv hs 40 rfl) (Cells.box (id := 0) (hh.get 0 _ rfl) 1 rfl), lg rfl rfl 39 hy16 fun hs hh => stp_move (sv hs 7 rfl), lg rfl rfl 39 hy16 fun hs hh => stp_indexAddr Tryd.underlying35 ts53 (by decide) (sv hs 41 rfl) hl7 (sv hs 42 rfl) (Rdb.ro hw7) hx7, lg rfl rfl 39 hy16 fun hs hh => stp_fieldAddr (j := 1) Tryd.underlying53 rfl ts51 rfl (sv hs 43 rfl) rfl, lg rfl rfl 39 hy16 fun hs hh => stp_load1 ts51 (sv hs 44 rfl) (Cells.el (Rdb.ro hw7) (by decide) hx7 1 1 rfl), lg rfl rfl 39 hy16 fun hs hh => stp_move (sv hs 8 rfl), lg rfl rfl 39 hy16 fun hs hh => stp_indexAddr Tryd.underlying51 ts55 (by decide) (sv hs 45 rfl) rfl (sv hs 46 rfl) (Rdb.ro hs7) e15, lg rfl rfl 39 hy16 fun hs hh => stp_fieldAddr (j := 0) Tryd.underlying55 rfl ts41 rfl (sv hs 47 rfl) rfl, lg rfl rfl 39 hy16 fun hs hh => stp_loadN (us := [_, _]) ts41 (sv hs 48 rfl) (Cells.el (Rdb.ro hs7) (by decide) e15 0 2 rfl), lg rfl rfl 39 hy16 fun hs hh => stp_loadN (us := [_, _]) ts41 (sv hs 5 rfl) (Cells.box (id := 1) (hh.get 1 _ rfl) 2 rfl), lg rfl rfl 39 hy16 fun hs hh => stp_eqlS te41 x15.k a2 (sv hs 49 rfl) (sv hs 50 rfl), lc rfl rfl fun hs hh => stp_pick_fB (sv hs 39 rfl) hy16 (sv hs 51 rfl) qy16, trivial⟩
      intro g hΦ
      exact kw_join () trivial ⟨rfl, rfl, rfl, rfl, rfl, rfl, trivial⟩ ⟨rfl, rfl, trivial⟩
     rintro _ -
     dsimp only
     refine kw_nx (cw_cond rfl (fun h17 => ?_) (fun h17 => ?_))
     ·have H2 := cond_t H2 h17
      refine sr (oS rfl (nn (cw_ret (kw_bl_ret (kw_nx_ret (kw_lq_ret (kw_bl_ret (kw_join_ret (kw_bl_ret (kw_nx_ret (kw_lq_ret (kw_bl_ret (kw_join_ret ?_)))))))))))))
      refine kw_nx_ret ?_
      obtain rfl := sI H2
      obtain rfl := sI H1
      obtain rfl := sI H0
      exact kr Tryd.results67 (rT rfl) [] ⟨rfl, rfl⟩
     have H2 := cond_f H2 h17
     obtain ⟨x18, e18, H2⟩ := bS H2
     exact cw_skip (kw_bl_normal (kw_nx (cw_region (oM rfl (oP e18 rfl (oS rfl (ow_nil (kw_lqS (js := [0, 1]) (fuel, x18) H2 (Nat.lt_succ_self _) ⟨rfl, rfl, rfl, rfl, rfl, trivial⟩ ⟨0, [1], rfl, rfl, 1, [], rfl, rfl, trivial⟩ (by decide)))))))))
    have H2 := cond_f H2 h14
    refine cw_exit (kw_nx_exit (kw_lq_exit (kw_bl ?_)))
    obtain rfl := sI H2
    exact kw_joinS (js := [0, 1]) v5 rfl ⟨rfl, rfl, rfl, rfl, rfl, trivial⟩ ⟨0, [1], rfl, rfl, 1, [], rfl, rfl, trivial⟩ (by decide)
   rintro v5 rfl
   dsimp only
   obtain ⟨x19, e19, H1⟩ := bS H1
   exact kw_bl_normal (kw_nx (cw_region (oM rfl (oP e19 rfl (oS rfl (ow_nil (kw_lqS (js := [0, 1]) (fuel, x19) H1 (Nat.lt_succ_self _) ⟨rfl, rfl, rfl, rfl, trivial⟩ ⟨0, [1], rfl, rfl, 1, [], rfl, rfl, trivial⟩ (by decide))))))))
  have H1 := cond_f H1 h4
  refine cw_exit (kw_nx_exit (kw_lq_exit (kw_bl ?_)))
  obtain rfl := sI H1
  exact kw_joinS (js := [0, 1]) v3 rfl ⟨rfl, rfl, rfl, rfl, trivial⟩ ⟨0, [1], rfl, rfl, 1, [], rfl, rfl, trivial⟩ (by decide)
 rintro v3 rfl
 dsimp only
 refine kw_nx (sr (oS rfl (nn (cw_ret ?_))))
 obtain rfl := sI H0
 exact kr Tryd.results67 (rT rfl) [] ⟨rfl, rfl⟩
end Go.Proofs.YtfnliecmagnkdabDoor
