/- The walks: functions of the program return what their pure functions say. Printed by a program (gen.py). -/
import Derived.Test.YtfnliecmagnkdaaDoorGp
import Derived.Test.YtfnliecmagnkdaaDoorGt
import Derived.Test.YtfnliecmagnkdaaDoorMan
import Derived.Test.YtfnliecmagnkdaaDoorMap
import Derived.Test.YtfnliecmagnkdaaDoorCpy
import Derived.Test.YtfnliecmagnkdaaDoorClr
import Derived.Test.YtfnliecmagnkdaaDoorDp
import Derived.Test.YtfnliecmagnkdaaDoorSrt
import Derived.Test.YtfnliecmagnkdaaDoorE8
import Derived.Test.YtfnliecmagnkdaaDoorGwab
import Derived.Test.YtfnliecmagnkdaaDoorGwah
set_option linter.unusedSimpArgs false
set_option linter.unusedVariables false
set_option linter.unusedSectionVars false
namespace Go.Proofs.YtfnliecmagnkdaaDoor
open Go.RowKit
set_option maxHeartbeats 4000000
set_option maxRecDepth 20000
variable {p0_0 p0_1 p0_2 : Option Addr} {n0_0 n0_1 n0_2 : Nat} {c0_0 c0_1 c0_2 : Nat}
theorem c_s_l8Held (fl : Nat) (w : World) (a0 : Sy) (a1 : Int) (a2 : K) (hn0_0 : n0_0 = (a0.t.b).length) (hr0_0 : RO w (hkeys []) (RdL p0_0 c0_0 a0.t.b)) (hn0_1 : n0_1 = (a0.t.f).length) (hr0_1 : RO w (hkeys []) (RdL p0_1 c0_1 a0.t.f)) (hn0_2 : n0_2 = (a0.c).length) (hr0_2 : ROD w (hkeys []) p0_2 c0_2 a0.c) (r : Bool) (H0 : s_l8Held fl a0 a1 a2 = some r) :
  Ct Tryd.prog 94 [.agg #[.slice p0_0 n0_0 c0_0, .slice p0_1 n0_1 c0_1, .slice p0_2 n0_2 c0_2], .int .i64 a1, .agg #[.int .i64 a2.s, .int .i64 a2.p]] w [] (fun rv h' => rv = .bool r ∧ h' = []) := by
 subst hn0_0 hn0_1 hn0_2
 unfold s_l8Held at H0
 refine ct_of_cw Tryd.func94 rfl Tryd.ntmps94 rfl (Sat.refl _ _) ?_
 refine sr (oE (stpU_box 0 rfl rfl) rfl ?_)
 rintro _ _ ⟨b1, rfl, rfl⟩
 refine oE (stpU_box 1 rfl rfl) rfl ?_
 rintro _ _ ⟨b2, rfl, rfl⟩
 obtain ⟨o0_0, eo0_0, H0⟩ := bS H0
 refine oS rfl (nn (cw_seq (sr (oS rfl (nn (cw_join (ι := Int) (fun | v3 => o0_0 = .out v3) (fun | v3 => [(1, .int .i64 a1), (3, .pointer (some ⟨b1, 0, none⟩)), (5, .pointer (some ⟨b2, 0, none⟩)), (7, .int .i64 v3)]) (fun | v3 => [(0, [(b1, .cells #[.slice p0_0 ((a0.t.b).length) c0_0, .slice p0_1 ((a0.t.f).length) c0_1, .slice p0_2 ((a0.c).length) c0_2] 36 (0, 0))]), (1, [(b2, .cells #[.int .i64 a2.s, .int .i64 a2.p] 46 (0, 0))])]) ?_ ?_))))))
 ·refine cw_block (cw_loopS (ι := Nat × Int) (js := [0, 1]) (fun x => x.1) (fun | (fuel, v3) => s_l8Held_L0 fl a0 a1 a2 fuel v3 = some o0_0) (fun | (_, v3) => [(1, .int .i64 a1), (3, .pointer (some ⟨b1, 0, none⟩)), (5, .pointer (some ⟨b2, 0, none⟩)), (7, .int .i64 v3)]) (fun | (_, v3) => [(0, [(b1, .cells #[.slice p0_0 ((a0.t.b).length) c0_0, .slice p0_1 ((a0.t.f).length) c0_1, .slice p0_2 ((a0.c).length) c0_2] 36 (0, 0))]), (1, [(b2, .cells #[.int .i64 a2.s, .int .i64 a2.p] 46 (0, 0))])]) (fl, 0) eo0_0 ⟨rfl, rfl, rfl, rfl, trivial⟩ ⟨0, [1], rfl, rfl, 1, [], rfl, rfl, trivial⟩ (by decide) ?_)
  rintro ⟨fuel, v3⟩ H1
  have H1 : s_l8Held_L0 fl a0 a1 a2 fuel v3 = some o0_0 := H1
  rcases fuel with _ | fuel
  ·rw [s_l8Held_L0.eq_1] at H1; cases H1
  rw [s_l8Held_L0.eq_2] at H1
  dsimp only
  refine cw_seq (sr (oM rfl (oA 2 Tryd.underlying36 rfl ts34 rfl (oL 0 ts34 rfl (oD (stp_len Tryd.underlying34 rfl) rfl (oW rfl (nn (cw_cond rfl (fun h4 => ?_) (fun h4 => ?_)))))))))
  ·have H1 := cond_t H1 h4
   obtain ⟨o1_1, eo1_1, H1⟩ := bS H1
   refine cw_skip (kw_nx (cw_seq (cw_block (sr (oS rfl (nn (cw_join (ι := Int) (fun | v5 => o1_1 = .out v5) (fun | v5 => [(1, .int .i64 a1), (3, .pointer (some ⟨b1, 0, none⟩)), (5, .pointer (some ⟨b2, 0, none⟩)), (7, .int .i64 v3), (8, .int .i64 v5)]) (fun | v5 => [(0, [(b1, .cells #[.slice p0_0 ((a0.t.b).length) c0_0, .slice p0_1 ((a0.t.f).length) c0_1, .slice p0_2 ((a0.c).length) c0_2] 36 (0, 0))]), (1, [(b2, .cells #[.int .i64 a2.s, .int .i64 a2.p] 46 (0, 0))])]) ?_ ?_)))))))
   ·refine cw_block (cw_loopS (ι := Nat × Int) (js := [0, 1]) (fun x => x.1) (fun | (fuel, v5) => s_l8Held_L1 fl a0 a1 a2 v3 fuel v5 = some o1_1) (fun | (_, v5) => [(1, .int .i64 a1), (3, .pointer (some ⟨b1, 0, none⟩)), (5, .pointer (some ⟨b2, 0, none⟩)), (7, .int .i64 v3), (8, .int .i64 v5)]) (fun | (_, v5) => [(0, [(b1, .cells #[.slice p0_0 ((a0.t.b).length) c0_0, .slice p0_1 ((a0.t.f).length) c0_1, .slice p0_2 ((a0.c).length) c0_2] 36 (0, 0))]), (1, [(b2, .cells #[.int .i64 a2.s, .int .i64 a2.p] 46 (0, 0))])]) (fl, 0) eo1_1 ⟨rfl, rfl, rfl, rfl, rfl, trivial⟩ ⟨0, [1], rfl, rfl, 1, [], rfl, rfl, trivial⟩ (by decide) ?_)
    rintro ⟨fuel, v5⟩ H2
    have H2 : s_l8Held_L1 fl a0 a1 a2 v3 fuel v5 = some o1_1 := H2
    rcases fuel with _ | fuel
    ·rw [s_l8Held_L1.eq_1] at H2; cases H2
    rw [s_l8Held_L1.eq_2] at H2
    dsimp only
    obtain ⟨x6, e6, H2⟩ := bS H2
    refine cw_seq (sr (oM rfl (oA 2 Tryd.underlying36 rfl ts34 rfl (oL 0 ts34 rfl (oM rfl ?_)))))
    obtain ⟨u7, p8, n9, c10, p11, n12, c13, hw7, hl7, hx7, rfl, hr7, rfl, hs7⟩ := ROD.get hr0_2 e6
    refine oD (stp_indexAddr Tryd.underlying34 ts44 (by decide) rfl hl7 rfl (Rdb.ro hw7) hx7) rfl (oA 1 Tryd.underlying44 rfl ts42 rfl (oD (stp_load1 ts42 rfl (Cells.el (Rdb.ro hw7) (by decide) hx7 1 1 rfl)) rfl (oD (stp_len Tryd.underlying42 rfl) rfl (oW rfl (nn (cw_cond rfl (fun h14 => ?_) (fun h14 => ?_)))))))
    ·have H2 := cond_t H2 h14
     obtain ⟨x15, e15, H2⟩ := bS H2
     obtain ⟨y16, ey16, H2⟩ := bS H2
     refine cw_skip (kw_nx (cw_seq (cw_block (cw_seq (cw_join (ι := Unit) (fun | _ => True) (fun | _ => [(1, .int .i64 a1), (3, .pointer (some ⟨b1, 0, none⟩)), (5, .pointer (some ⟨b2, 0, none⟩)), (7, .int .i64 v3), (8, .int .i64 v5), (52, .bool y16)]) (fun | _ => [(0, [(b1, .cells #[.slice p0_0 ((a0.t.b).length) c0_0, .slice p0_1 ((a0.t.f).length) c0_1, .slice p0_2 ((a0.c).length) c0_2] 36 (0, 0))]), (1, [(b2, .cells #[.int .i64 a2.s, .int .i64 a2.p] 46 (0, 0))])]) ?_ ?_)))))
     ·rcases Bool.eq_false_or_eq_true (x15.fr == a1) with hy16 | hy16
      ·have ey16 := cond_t ey16 hy16
       have qy16 := sI ey16
       refine rdq g_mixed [1, 3, 7, 8] [0] { dst := dS [28, 29, 30, 31, 32, 33, 34, 35, 36, 37, 38, 39, 40, 41, 42, 43, 44, 45, 46, 47, 48, 49, 50, 51, 52, 53], pre := gA [] [[], [0], [], [0, 1, 2], rn 0 4, rn 0 5, [], rn 0 7, rn 0 8, rn 0 9, [], rn 0 11, rn 0 12, rn 0 13, rn 0 14, rn 0 13, rn 0 16, rn 0 17, rn 0 18, rn 0 13, rn 0 20, rn 0 21, rn 0 22, rn 0 13, rn 0 24, rn 0 25], ids := fun _ => [], rs := rL [[(3, 0)], [(27, 1)], [(7, 0)], [(28, 2), (29, 3)], [(30, 4)], [(31, 5)], [(8, 0)], [(32, 6), (33, 7)], [(34, 8)], [(35, 9)], [(1, 0)], [(36, 10), (37, 11)], [(38, 12)], [(39, 13)], [(39, 13)], [(39, 13)], [(39, 13)], [(39, 13)], [(39, 13)], [(39, 13)], [(39, 13)], [(39, 13)], [(39, 13)], [(39, 13)], [(39, 13)], [(39, 13), (51, 25)]], rh := rL [[], [(0, 0)]], V := fun i g => gA undef [.pointer (some ⟨b1, 2, none⟩), .slice p0_2 ((a0.c).length) c0_2, .int .i64 v3, .pointer (some ⟨eB p0_2, eO p0_2 + Int.toNat v3 * Enc.sz CpS + 0, none⟩), .pointer (some ⟨eB p0_2, eO p0_2 + Int.toNat v3 * Enc.sz CpS + 1, none⟩), .slice p11 ((x6.w).length) c13, .int .i64 v5, .pointer (some ⟨eB p11, eO p11 + Int.toNat v5 * Enc.sz Nt + 0, none⟩), .pointer (some ⟨eB p11, eO p11 + Int.toNat v5 * Enc.sz Nt + 2, none⟩), .int .i64 x15.fr, .int .i64 a1, .bool (x15.fr == a1), .bool (x15.fr == a1), undef, undef, undef, undef, undef, undef, undef, undef, undef, undef, undef, undef, .bool y16] i, U := fun _ _ => [], Φ := fun _ _ => True } ?_ ?_
       ·exact ⟨lc rfl rfl fun hs hh => stp_fieldAddr (j := 2) Tryd.underlying36 rfl ts34 rfl (sv hs 3 rfl) rfl, lc rfl rfl fun hs hh => stp_load1 ts34 (sv hs 27 rfl) (Cells.box (id := 0) (hh.get 0 _ rfl) 1 rfl), lM, lc rfl rfl fun hs hh => stp_indexAddr Tryd.underlying34 ts44 (by decide) (sv hs 28 rfl) hl7 (sv hs 29 rfl) (Rdb.ro hw7) hx7, lc rfl rfl fun hs hh => stp_fieldAddr (j := 1) Tryd.underlying44 rfl ts42 rfl (sv hs 30 rfl) rfl, lc rfl rfl fun hs hh => stp_load1 ts42 (sv hs 31 rfl) (Cells.el (Rdb.ro hw7) (by decide) hx7 1 1 rfl), lM, lc rfl rfl fun hs hh => stp_indexAddr Tryd.underlying42 ts48 (by decide) (sv hs 32 rfl) rfl (sv hs 33 rfl) (Rdb.ro hs7) e15, lc rfl rfl fun hs hh => stp_fieldAddr (j := 2) Tryd.underlying48 rfl ts3 rfl (sv hs 34 rfl) rfl, lc rfl rfl fun hs hh => stp_load1 ts3 (sv hs 35 rfl) (Cells.el (Rdb.ro hs7) (by decide) e15 2 1 rfl), lM, lc rfl rfl fun hs hh => stp_eql (sv hs 36 rfl) (sv hs 37 rfl), lM, lo rfl rfl 39 hy16, lo rfl rfl 39 hy16, lo rfl rfl 39 hy16, lo rfl rfl 39 hy16, lo rfl rfl 39 hy16, lo rfl rfl 39 hy16, lo rfl rfl 39 hy16, lo rfl rfl 39 hy16, lo rfl rfl 39 hy16, lo rfl rfl 39 hy16, lo rfl rfl 39 hy16, lo rfl rfl 39 hy16, lc rfl rfl fun hs hh => stp_pick_tB (sv hs 39 rfl) hy16 rfl qy16, trivial⟩
       intro g hΦ
       exact kw_join () trivial ⟨rfl, rfl, rfl, rfl, rfl, rfl, trivial⟩ ⟨rfl, rfl, trivial⟩
      have ey16 := cond_f ey16 hy16
      have qy16 := sI ey16
      refine rdq g_mixed [1, 3, 5, 7, 8] [0, 1] { dst := dS [28, 29, 30, 31, 32, 33, 34, 35, 36, 37, 38, 39, 40, 41, 42, 43, 44, 45, 46, 47, 48, 49, 50, 51, 52, 53], pre := gA [] [[], [0], [], [0, 1, 2], rn 0 4, rn 0 5, [], rn 0 7, rn 0 8, rn 0 9, [], rn 0 11, rn 0 12, rn 0 13, rn 0 14, rn 0 13, rn 0 16, rn 0 17, rn 0 18, rn 0 13, rn 0 20, rn 0 21, rn 0 22, rn 0 13, rn 0 24, rn 0 25], ids := fun _ => [], rs := rL [[(3, 0)], [(27, 1)], [(7, 0)], [(28, 2), (29, 3)], [(30, 4)], [(31, 5)], [(8, 0)], [(32, 6), (33, 7)], [(34, 8)], [(35, 9)], [(1, 0)], [(36, 10), (37, 11)], [(38, 12)], [(3, 0), (39, 13)], [(40, 14), (39, 13)], [(7, 0), (39, 13)], [(41, 15), (42, 16), (39, 13)], [(43, 17), (39, 13)], [(44, 18), (39, 13)], [(8, 0), (39, 13)], [(45, 19), (46, 20), (39, 13)], [(47, 21), (39, 13)], [(48, 22), (39, 13)], [(5, 0), (39, 13)], [(49, 23), (50, 24), (39, 13)], [(39, 13), (51, 25)]], rh := rL [[], [(0, 0)], [], [], [], [], [], [], [], [], [], [], [], [], [(0, 0)], [], [], [], [], [], [], [], [], [(1, 0)]], V := fun i g => gA undef [.pointer (some ⟨b1, 2, none⟩), .slice p0_2 ((a0.c).length) c0_2, .int .i64 v3, .pointer (some ⟨eB p0_2, eO p0_2 + Int.toNat v3 * Enc.sz CpS + 0, none⟩), .pointer (some ⟨eB p0_2, eO p0_2 + Int.toNat v3 * Enc.sz CpS + 1, none⟩), .slice p11 ((x6.w).length) c13, .int .i64 v5, .pointer (some ⟨eB p11, eO p11 + Int.toNat v5 * Enc.sz Nt + 0, none⟩), .pointer (some ⟨eB p11, eO p11 + Int.toNat v5 * Enc.sz Nt + 2, none⟩), .int .i64 x15.fr, .int .i64 a1, .bool (x15.fr == a1), .bool (x15.fr == a1), .pointer (some ⟨b1, 2, none⟩), .slice p0_2 ((a0.c).length) c0_2, .int .i64 v3, .pointer (some ⟨eB p0_2, eO p0_2 + Int.toNat v3 * Enc.sz CpS + 0, none⟩), .pointer (some ⟨eB p0_2, eO p0_2 + Int.toNat v3 * Enc.sz CpS + 1, none⟩), .slice p11 ((x6.w).length) c13, .int .i64 v5, .pointer (some ⟨eB p11, eO p11 + Int.toNat v5 * Enc.sz Nt + 0, none⟩), .pointer (some ⟨eB p11, eO p11 + Int.toNat v5 * Enc.sz Nt + 0, none⟩), .agg #[.int .i64 x15.k.s, .int .i64 x15.k.p], .agg #[.int .i64 a2.s, .int .i64 a2.p], .bool (x15.k == a2), .bool y16] i, U := fun _ _ => [], Φ := fun _ _ => True } ?_ ?_
      ·exact ⟨lc rfl rfl fun hs hh => stp_fieldAddr (j := 2) Tryd.underlying36 rfl ts34 rfl (sv hs 3 rfl) rfl, lc rfl rfl fun hs hh => stp_load1 ts34 (sv hs 27 rfl) (Cells.box (id := 0) (hh.get 0 _ rfl) 1 rfl), lM, lc rfl rfl fun hs hh => stp_indexAddr Tryd.underlying34 ts44 (by decide) (sv hs 28 rfl) hl7 (sv hs 29 rfl) (Rdb.ro hw7) hx7, lc rfl rfl fun hs hh => stp_fieldAddr (j := 1) Tryd.underlying44 rfl ts42 rfl (sv hs 30 rfl) rfl, lc rfl rfl fun hs hh => stp_load1 ts42 (sv hs 31 rfl) (Cells.el (Rdb.ro hw7) (by decide) hx7 1 1 rfl), lM, lc rfl rfl fun hs hh => stp_indexAddr Tryd.underlying42 ts48 (by decide) (sv hs 32 rfl) rfl (sv hs 33 rfl) (Rdb.ro hs7) e15, lc rfl rfl fun hs hh => stp_fieldAddr (j := 2) Tryd.underlying48 rfl ts3 rfl (sv hs 34 rfl) rfl, lc rfl rfl fun hs hh => stp_load1 ts3 (sv hs 35 rfl) (Cells.el (Rdb.ro hs7) (by decide) e15 2 1 rfl), lM, lc rfl rfl fun hs hh => stp_eql (sv hs 36 rfl) (sv hs 37 rfl), lM, lg rfl rfl 39 hy16 fun hs hh => stp_fieldAddr (j := 2) Tryd.underlying36 rfl ts34 rfl (sv hs 3 rfl) rfl, lg rfl rfl 39 hy16 fun hs hh => stp_load1 ts34 (sv hs 40 rfl) (Cells.box (id := 0) (hh.get 0 _ rfl) 1 rfl), lg rfl rfl 39 hy16 fun hs hh => stp_move (sv hs 7 rfl), lg rfl rfl 39 hy16 fun hs hh => stp_indexAddr Tryd.underlying34 ts44 (by decide) (sv hs 41 rfl) hl7 (sv hs 42 rfl) (Rdb.ro hw7) hx7, lg rfl rfl 39 hy16 fun hs hh => stp_fieldAddr (j := 1) Tryd.underlying44 rfl ts42 rfl (sv hs 43 rfl) rfl, lg rfl rfl 39 hy16 fun hs hh => stp_load1 ts42 (sv hs 44 rfl) (Cells.el (Rdb.ro hw7) (by decide) hx7 1 1 rfl), lg rfl rfl 39 hy16 fun hs hh => stp_move (sv hs 8 rfl), lg rfl rfl 39 hy16 fun hs hh => stp_indexAddr Tryd.underlying42 ts48 (by decide) (sv hs 45 rfl) rfl (sv hs 46 rfl) (Rdb.ro hs7) e15, lg rfl rfl 39 hy16 fun hs hh => stp_fieldAddr (j := 0) Tryd.underlying48 rfl ts46 rfl (sv hs 47 rfl) rfl, lg rfl rfl 39 hy16 fun hs hh => stp_loadN (us := [_, _]) ts46 (sv hs 48 rfl) (Cells.el (Rdb.ro hs7) (by decide) e15 0 2 rfl), lg rfl rfl 39 hy16 fun hs hh => stp_loadN (us := [_, _]) ts46 (sv hs 5 rfl) (Cells.box (id := 1) (hh.get 1 _ rfl) 2 rfl), lg rfl rfl 39 hy16 fun hs hh => stp_eqlS te46 x15.k a2 (sv hs 49 rfl) (sv hs 50 rfl), lc rfl rfl fun hs hh => stp_pick_fB (sv hs 39 rfl) hy16 (sv hs 51 rfl) qy16, trivial⟩
      intro g hΦ
      exact kw_join () trivial ⟨rfl, rfl, rfl, rfl, rfl, rfl, trivial⟩ ⟨rfl, rfl, trivial⟩
     rintro _ -
     dsimp only
     refine kw_nx (cw_cond rfl (fun h17 => ?_) (fun h17 => ?_))
     ·have H2 := cond_t H2 h17
      refine sr (oS rfl (nn (cw_ret (kw_bl_ret (kw_nx_ret (kw_lq_ret (kw_bl_ret (kw_join_ret (kw_bl_ret (kw_nx_ret (kw_lq_ret (kw_bl_ret (kw_join_ret ?_)))))))))))))
      refine kw_nx_ret ?_
      obtain rfl := sI H2
      obtain rfl := sI H1
      obtain rfl := sI H0
      exact kr Tryd.results94 (rT rfl) [] ⟨rfl, rfl⟩
     have H2 := cond_f H2 h17
     obtain ⟨x18, e18, H2⟩ := bS H2
     exact cw_skip (kw_bl_normal (kw_nx (cw_region (oM rfl (oP e18 rfl (oS rfl (ow_nil (kw_lqS (js := [0, 1]) (fuel, x18) H2 (Nat.lt_succ_self _) ⟨rfl, rfl, rfl, rfl, rfl, trivial⟩ ⟨0, [1], rfl, rfl, 1, [], rfl, rfl, trivial⟩ (by decide)))))))))
    have H2 := cond_f H2 h14
    refine cw_exit (kw_nx_exit (kw_lq_exit (kw_bl ?_)))
    obtain rfl := sI H2
    exact kw_joinS (js := [0, 1]) v5 rfl ⟨rfl, rfl, rfl, rfl, rfl, trivial⟩ ⟨0, [1], rfl, rfl, 1, [], rfl, rfl, trivial⟩ (by decide)
   rintro v5 rfl
   dsimp only
   obtain ⟨x19, e19, H1⟩ := bS H1
   exact kw_bl_normal (kw_nx (cw_region (oM rfl (oP e19 rfl (oS rfl (ow_nil (kw_lqS (js := [0, 1]) (fuel, x19) H1 (Nat.lt_succ_self _) ⟨rfl, rfl, rfl, rfl, trivial⟩ ⟨0, [1], rfl, rfl, 1, [], rfl, rfl, trivial⟩ (by decide))))))))
  have H1 := cond_f H1 h4
  refine cw_exit (kw_nx_exit (kw_lq_exit (kw_bl ?_)))
  obtain rfl := sI H1
  exact kw_joinS (js := [0, 1]) v3 rfl ⟨rfl, rfl, rfl, rfl, trivial⟩ ⟨0, [1], rfl, rfl, 1, [], rfl, rfl, trivial⟩ (by decide)
 rintro v3 rfl
 dsimp only
 refine kw_nx (sr (oS rfl (nn (cw_ret ?_))))
 obtain rfl := sI H0
 exact kr Tryd.results94 (rT rfl) [] ⟨rfl, rfl⟩

theorem c_s_RightsValid (fl : Nat) (w : World) (a0 : Int) (r : Bool) (H0 : s_RightsValid fl a0 = some r) :
  Ct Tryd.prog 142 [.int .i64 a0] w [] (fun rv h' => rv = .bool r ∧ h' = []) := by
 unfold s_RightsValid at H0
 refine ct_of_cw Tryd.func142 rfl Tryd.ntmps142 rfl (Sat.refl _ _) ?_
 obtain ⟨y1, ey1, H0⟩ := bS H0
 refine sr (oS rfl (nn (sr (oM rfl (oI rfl (oM rfl (ow_cutY 3 8 y1 ?_ ?_)))))))
 ·rcases Bool.eq_false_or_eq_true (decide (0 ≤ a0)) with hy1 | hy1
  ·have ey1 := cond_t ey1 hy1
   refine oG rfl hy1 (mv rfl) rfl (oG rfl hy1 (stp_leq rfl rfl) rfl (oD (stp_pick_t rfl hy1 rfl) rfl ?_))
   obtain rfl := sI ey1
   exact ow_nil (jy 3 0)
  have ey1 := cond_f ey1 hy1
  refine oO rfl hy1 rfl (oO rfl hy1 rfl (oD (stp_pick_f rfl hy1 rfl) rfl ?_))
  obtain rfl := sI ey1
  exact ow_nil (jy 3 0)
 refine oS rfl (nn (cw_ret ?_))
 obtain rfl := sI H0
 exact kr Tryd.results142 (rT rfl) [] ⟨rfl, rfl⟩

theorem c_s_l3Map (fl : Nat) (w : World) (a0 : T) (a1 : K) (a2 : Int) (a3 : Int) (hn0_0 : n0_0 = (a0.b).length) (hr0_0 : RO w (hkeys []) (RdL p0_0 c0_0 a0.b)) (hn0_1 : n0_1 = (a0.f).length) (hr0_1 : RO w (hkeys []) (RdL p0_1 c0_1 a0.f)) (r : T) (H0 : s_l3Map fl a0 a1 a2 a3 = some r) :
  Ct Tryd.prog 143 [.agg #[.slice p0_0 n0_0 c0_0, .slice p0_1 n0_1 c0_1], .agg #[.int .i64 a1.s, .int .i64 a1.p], .int .i64 a2, .int .i64 a3] w [] (fun rv h' => ∃ (x0 : Option Addr) (y0 z0 : Nat) (C0 : Res) (x1 : Option Addr) (y1 z1 : Nat) (C1 : Res), rv = .agg #[.slice x0 y0 z0, .slice x1 y1 z1] ∧ h' = [(0, C0), (1, C1)] ∧ y0 = (r.b).length ∧ OwnC 3 x0 z0 r.b C0 ∧ y1 = (r.f).length ∧ OwnC 84 x1 z1 r.f C1) := by
 subst hn0_0 hn0_1
 unfold s_l3Map at H0
 refine ct_of_cw Tryd.func143 rfl Tryd.ntmps143 rfl (Sat.refl _ _) ?_
 refine sr (oE (stpU_box 0 rfl rfl) rfl ?_)
 rintro _ _ ⟨b1, rfl, rfl⟩
 refine oE (stpU_box 1 rfl rfl) rfl ?_
 rintro _ _ ⟨b2, rfl, rfl⟩
 refine oE (stpU_alloc 2 tz33 rfl) rfl ?_
 rintro _ _ ⟨b3, rfl, rfl⟩
 obtain ⟨x4, e4, H0⟩ := bS H0
 refine nn (sr (oB2 0 ts33 rfl (oE (stpU_call (fun i => 3 + i) cf131 (fun w hw => c_s_l3Copy fl w a0 rfl (RO.pass hr0_0 hw) rfl (RO.pass hr0_1 hw) x4 e4) (yA rfl)) rfl ?_)))
 rintro _ _ ⟨_, ⟨p5, _, c7, C8, p9, _, c11, C12, rfl, rfl, rfl, o8, rfl, o12⟩, rfl⟩
 refine oE (stpU_alloc 5 tz33 rfl) rfl ?_
 rintro _ _ ⟨b13, rfl, rfl⟩
 obtain ⟨x14, e14, H0⟩ := bS H0
 refine oC2 5 ts33 rfl rfl (nn (sr (oB2 1 ts46 rfl (oA 0 Tryd.underlying33 rfl ts22 rfl (oL 0 ts22 rfl (oD (stp_len Tryd.underlying22 rfl) rfl (oE (stpU_call (fun i => 6 + i) cf105 (fun w hw => c_s_l2Hash fl w a1 ((a0.b).length : Int) x14 e14) (yB rfl rfl)) rfl ?_)))))))
 rintro _ _ ⟨_, ⟨rfl, rfl⟩, rfl⟩
 obtain ⟨x15, e15, H0⟩ := bS H0
 obtain ⟨x16, e16, H0⟩ := bS H0
 refine oS rfl (nn (cw_seq (rdq g_mixed [2, 3, 5, 9, 10] [1, 3, 4, 5] { dst := dS [19, 20, 21, 22, 23, 24, 25, 26, 27, 28, 29, 30, 0], pre := gA [] [[], [0], [], [], [], [], [5], [], [5, 6, 7], rn 5 4, rn 3 7, rn 0 11, rn 0 12], ids := fun i => match i with | 12 => [4] | _ => [], rs := rL [[(9, 0)], [(18, 1)], [(2, 0)], [(5, 0)], [(3, 0)], [(9, 0)], [(23, 6)], [(10, 0)], [(24, 7), (25, 8)], [(26, 9)], [(21, 4), (22, 5), (27, 10)], [(19, 2), (20, 3)], [(29, 12), (28, 11)]], rh := rL [[], [(5, 0)], [], [(1, 0)], [], [], [(5, 0)], [], [(3, 0)], [(3, 0)], [], [(4, 0)], [(4, 0)]], V := fun i g => gA undef [.pointer (some ⟨b13, 1, none⟩), .slice p9 ((x4.f).length) c11, .int .i64 a2, .agg #[.int .i64 a1.s, .int .i64 a1.p], .int .i64 a3, .pointer (some ⟨b13, 0, none⟩), .slice p5 ((x4.b).length) c7, .int .i64 x14, .pointer (some ⟨eB p5, eO p5 + Int.toNat x14 * Enc.sz Int + 0, none⟩), .int .i64 x15, .agg #[.bool true, .int .i64 a1.s, .int .i64 a1.p, .int .i64 a3, .int .i64 x15], .pointer (some ⟨eB p9, eO p9 + Int.toNat a2 * Enc.sz F + 0, none⟩)] i, U := fun i g => match i with | 12 => [(4, ((g 12).R 0))] | _ => [], Φ := fun i x => match i with | 12 => OwnC (α := F) 84 p9 c11 (x4.f.set (Int.toNat a2) (⟨true, a1, a3, x15⟩ : F)) (x.R 0) | _ => True } ?_ ?_)))
 ·refine ⟨lc rfl rfl fun hs hh => stp_fieldAddr (j := 1) Tryd.underlying33 rfl ts31 rfl (sv hs 9 rfl) rfl, lc rfl rfl fun hs hh => stp_load1 ts31 (sv hs 18 rfl) (Cells.box (id := 5) (hh.get 5 _ rfl) 1 rfl), lM, lc rfl rfl fun hs hh => stp_loadN (us := [_, _]) ts46 (sv hs 5 rfl) (Cells.box (id := 1) (hh.get 1 _ rfl) 2 rfl), lM, lc rfl rfl fun hs hh => stp_fieldAddr (j := 0) Tryd.underlying33 rfl ts22 rfl (sv hs 9 rfl) rfl, lc rfl rfl fun hs hh => stp_load1 ts22 (sv hs 23 rfl) (Cells.box (id := 5) (hh.get 5 _ rfl) 1 rfl), lM, lc rfl rfl fun hs hh => stp_indexAddr Tryd.underlying22 ts3 (by decide) (sv hs 24 rfl) rfl (sv hs 25 rfl) (Rdb.own (id := 3) (hh.get 3 _ rfl) o8) e15, lc rfl rfl fun hs hh => stp_load1 ts3 (sv hs 26 rfl) (Cells.el (Rdb.own (id := 3) (hh.get 3 _ rfl) o8) (by decide) e15 0 1 rfl), lc rfl rfl fun hs hh => stp_build (cs := #[.bool true, .int .i64 a1.s, .int .i64 a1.p, .int .i64 a3, .int .i64 x15]) (sevp_cons rfl (sevp_cons (sv hs 21 rfl) (sevp_cons (sv hs 22 rfl) (sevp_cons (sv hs 27 rfl) sevp_nil)))) bt84_6, lc rfl rfl fun hs hh => stp_indexAddr Tryd.underlying31 ts84 (by decide) (sv hs 19 rfl) rfl (sv hs 20 rfl) (Rdb.own (id := 4) (hh.get 4 _ rfl) o12) e16, ?_, trivial⟩
  refine le rfl rfl (fun g hΦ s h hs hh => (stpU_storeEl (id := 4) (i := 0) (⟨true, a1, a3, x15⟩ : F) (by decide) ts84 (sv hs 29 rfl) (sv hs 28 rfl) (hh.get 4 _ rfl) o12 e16 rfl rfl rfl rfl)) ?_
  rintro g _ _ ⟨C17, rfl, o17⟩
  exact ⟨⟨[], [], [C17]⟩, o17, .inl rfl, rfl⟩
 intro g hΦ
 refine kw_gen (ι := Res) ((g 12).R 0) (fun | C17 => OwnC (α := F) 84 p9 c11 (x4.f.set (Int.toNat a2) (⟨true, a1, a3, x15⟩ : F)) C17) (fun | C17 => [(2, .int .i64 a2), (8, .pointer (some ⟨b3, 0, none⟩)), (9, .pointer (some ⟨b13, 0, none⟩)), (10, .int .i64 x14)]) (fun | C17 => [(2, [(b3, .cells #[.slice none 0 0, .slice none 0 0] 33 (0, 0))]), (3, C8), (4, C17), (5, [(b13, .cells #[.slice p5 ((x4.b).length) c7, .slice p9 ((x4.f).length) c11] 33 (0, 0))])]) (hΦ 12 (by decide)) ⟨rfl, rfl, rfl, rfl, trivial⟩ ⟨rfl, rfl, rfl, rfl, trivial⟩ ?_
 rintro C17 o17
 have o17 : OwnC (α := F) 84 p9 c11 (x4.f.set (Int.toNat a2) (⟨true, a1, a3, x15⟩ : F)) C17 := o17
 dsimp only
 refine kw_nx (sr (oA 0 Tryd.underlying33 rfl ts22 rfl (oL 5 ts22 rfl (oM rfl (oM rfl (oD (stp_indexAddr Tryd.underlying22 ts3 (by decide) rfl rfl rfl (Rdb.own (id := 3) rfl o8) e15) rfl (oF (stpU_storeEl (id := 3) (i := 0) a2 (by decide) ts3 rfl rfl rfl o8 e15 rfl rfl rfl rfl) ?_)))))))
 rintro _ _ ⟨C18, rfl, o18⟩
 refine nn (sr (oB2 5 ts33 rfl (oC2 2 ts33 rfl rfl (nn (cw_ret ?_)))))
 obtain rfl := sI H0
 exact kr Tryd.results143 (rC2 2 ts33 rfl rfl) [3, 4] ⟨_, _, _, _, _, _, _, _, rfl, rfl, (by simp), o18, (by simp), o17⟩

theorem c_s_MapPage (fl : Nat) (w : World) (a0 : T) (a1 : K) (a2 : Int) (a3 : Int) (hn0_0 : n0_0 = (a0.b).length) (hr0_0 : RO w (hkeys []) (RdL p0_0 c0_0 a0.b)) (hn0_1 : n0_1 = (a0.f).length) (hr0_1 : RO w (hkeys []) (RdL p0_1 c0_1 a0.f)) (r : T × Bool) (H0 : s_MapPage fl a0 a1 a2 a3 = some r) :
  Ct Tryd.prog 95 [.agg #[.slice p0_0 n0_0 c0_0, .slice p0_1 n0_1 c0_1], .agg #[.int .i64 a1.s, .int .i64 a1.p], .int .i64 a2, .int .i64 a3] w [] (fun rv h' => ∃ (x0 : Option Addr) (y0 z0 : Nat) (C0 : Res) (x1 : Option Addr) (y1 z1 : Nat) (C1 : Res), rv = .tuple #[.agg #[.slice x0 y0 z0, .slice x1 y1 z1], .bool r.2] ∧ h' = [(0, C0), (1, C1)] ∧ y0 = (r.1.b).length ∧ OwnC 3 x0 z0 r.1.b C0 ∧ y1 = (r.1.f).length ∧ OwnC 84 x1 z1 r.1.f C1) := by
 subst hn0_0 hn0_1
 unfold s_MapPage at H0
 refine ct_of_cw Tryd.func95 rfl Tryd.ntmps95 rfl (Sat.refl _ _) ?_
 refine sr (oE (stpU_box 0 rfl rfl) rfl ?_)
 rintro _ _ ⟨b1, rfl, rfl⟩
 refine oE (stpU_box 1 rfl rfl) rfl ?_
 rintro _ _ ⟨b2, rfl, rfl⟩
 refine oE (stpU_alloc 2 tz33 rfl) rfl ?_
 rintro _ _ ⟨b3, rfl, rfl⟩
 obtain ⟨x4, e4, H0⟩ := bS H0
 refine oS rfl (nn (cw_seq (sr (oB2 0 ts33 rfl (oE (stpU_call (fun i => 3 + i) cf45 (fun w hw => c_s_TableValid fl w a0 rfl (RO.pass hr0_0 hw) rfl (RO.pass hr0_1 hw) x4 e4) (yA rfl)) rfl ?_)))))
 rintro _ _ ⟨_, ⟨rfl, rfl⟩, rfl⟩
 obtain ⟨y5, ey5, H0⟩ := bS H0
 refine oK rfl (oM rfl (ow_cutY 4 19 y5 ?_ ?_))
 ·rcases Bool.eq_false_or_eq_true (!x4) with hy5 | hy5
  ·have ey5 := cond_t ey5 hy5
   refine oO rfl hy5 rfl (oO rfl hy5 rfl (oO rfl hy5 rfl (oD (stp_pick_t rfl hy5 rfl) rfl ?_)))
   obtain rfl := sI ey5
   exact ow_nil (jy 4 0)
  have ey5 := cond_f ey5 hy5
  obtain ⟨x6, e6, ey5⟩ := bS ey5
  refine oG rfl hy5 (stp_loadN (us := [_, _]) ts46 rfl (Cells.box (id := 1) rfl 2 rfl)) rfl (ow_eff (.some rfl hy5) (stpU_call (fun i => 3 + i) cf76 (fun w hw => c_s_KeyValid fl w a1 x6 e6) (yA rfl)) rfl ?_)
  rintro _ _ ⟨_, ⟨rfl, rfl⟩, rfl⟩
  refine oG rfl hy5 (stp_not rfl) rfl (oD (stp_pick_f rfl hy5 rfl) rfl ?_)
  obtain rfl := sI ey5
  exact ow_nil (jy 4 0)
 obtain ⟨y7, ey7, H0⟩ := bS H0
 refine oM rfl (ow_cutY 4 24 y7 ?_ ?_)
 ·rcases Bool.eq_false_or_eq_true y5 with hy7 | hy7
  ·have ey7 := cond_t ey7 hy7
   refine oO rfl hy7 rfl (oO rfl hy7 rfl (oO rfl hy7 rfl (oD (stp_pick_t rfl hy7 rfl) rfl ?_)))
   obtain rfl := sI ey7
   exact ow_nil (jy 4 0)
  have ey7 := cond_f ey7 hy7
  obtain ⟨x8, e8, ey7⟩ := bS ey7
  refine oG rfl hy7 (mv rfl) rfl (ow_eff (.some rfl hy7) (stpU_call (fun i => 3 + i) cf142 (fun w hw => c_s_RightsValid fl w a3 x8 e8) (yA rfl)) rfl ?_)
  rintro _ _ ⟨_, ⟨rfl, rfl⟩, rfl⟩
  refine oG rfl hy7 (stp_not rfl) rfl (oD (stp_pick_f rfl hy7 rfl) rfl ?_)
  obtain rfl := sI ey7
  exact ow_nil (jy 4 0)
 obtain ⟨y9, ey9, H0⟩ := bS H0
 refine oM rfl (ow_cutY 3 28 y9 ?_ ?_)
 ·rcases Bool.eq_false_or_eq_true y7 with hy9 | hy9
  ·have ey9 := cond_t ey9 hy9
   refine oO rfl hy9 rfl (oO rfl hy9 rfl (oD (stp_pick_t rfl hy9 rfl) rfl ?_))
   obtain rfl := sI ey9
   exact ow_nil (jy 3 0)
  have ey9 := cond_f ey9 hy9
  refine oG rfl hy9 (mv rfl) rfl (oG rfl hy9 (stp_lss rfl rfl) rfl (oD (stp_pick_f rfl hy9 rfl) rfl ?_))
  obtain rfl := sI ey9
  exact ow_nil (jy 3 0)
 obtain ⟨y10, ey10, H0⟩ := bS H0
 refine oM rfl (ow_cutY 6 35 y10 ?_ ?_)
 ·rcases Bool.eq_false_or_eq_true y9 with hy10 | hy10
  ·have ey10 := cond_t ey10 hy10
   refine oO rfl hy10 rfl (oO rfl hy10 rfl (oO rfl hy10 rfl (oO rfl hy10 rfl (oO rfl hy10 rfl (oD (stp_pick_t rfl hy10 rfl) rfl ?_)))))
   obtain rfl := sI ey10
   exact ow_nil (jy 6 0)
  have ey10 := cond_f ey10 hy10
  refine oG rfl hy10 (mv rfl) rfl (oG rfl hy10 (fA 1 Tryd.underlying33 rfl ts31 rfl rfl rfl) rfl (oG rfl hy10 (lB 0 ts31 rfl rfl rfl) rfl (oG rfl hy10 (stp_len Tryd.underlying31 rfl) rfl (oG rfl hy10 (stp_geq rfl rfl) rfl (oD (stp_pick_f rfl hy10 rfl) rfl ?_)))))
  obtain rfl := sI ey10
  exact ow_nil (jy 6 0)
 obtain ⟨y11, ey11, H0⟩ := bS H0
 refine oM rfl (ow_cutY 7 43 y11 ?_ ?_)
 ·rcases Bool.eq_false_or_eq_true y10 with hy11 | hy11
  ·have ey11 := cond_t ey11 hy11
   refine oO rfl hy11 rfl (oO rfl hy11 rfl (oO rfl hy11 rfl (oO rfl hy11 rfl (oO rfl hy11 rfl (oO rfl hy11 rfl (oD (stp_pick_t rfl hy11 rfl) rfl ?_))))))
   obtain rfl := sI ey11
   exact ow_nil (jy 7 0)
  have ey11 := cond_f ey11 hy11
  obtain ⟨x12, e12, ey11⟩ := bS ey11
  refine oG rfl hy11 (fA 1 Tryd.underlying33 rfl ts31 rfl rfl rfl) rfl (oG rfl hy11 (lB 0 ts31 rfl rfl rfl) rfl (oG rfl hy11 (mv rfl) rfl (oG rfl hy11 (stp_indexAddr Tryd.underlying31 ts84 (by decide) rfl rfl rfl (Rdb.ro hr0_1) e12) rfl (oG rfl hy11 (fA 0 Tryd.underlying84 rfl ts4 rfl rfl rfl) rfl (oG rfl hy11 (stp_load1 ts4 rfl (Cells.el (Rdb.ro hr0_1) (by decide) e12 0 1 rfl)) rfl (oD (stp_pick_f rfl hy11 rfl) rfl ?_))))))
  obtain rfl := sI ey11
  exact ow_nil (jy 7 0)
 refine ow_nil (kw_nx (cw_cond rfl (fun h13 => ?_) (fun h13 => ?_)))
 ·have H0 := cond_t H0 h13
  refine sr (oD (stp_build (cs := #[.slice none 0 0, .slice none 0 0]) sevp_nil bt33_0) rfl (oC2 2 ts33 rfl rfl (oS rfl (nn (cw_ret (kw_nx_ret (kw_addNil 3 (kw_addNil 4 ?_))))))))
  obtain rfl := sI H0
  exact kr Tryd.results95 (.cons (.cellN (us := [_, _]) ts33 rfl (Cells.box (id := 2) rfl 2 rfl)) (rT rfl)) [3, 4] ⟨_, _, _, _, _, _, _, _, rfl, rfl, rfl, (OwnC.nil _ _), rfl, (OwnC.nil _ _)⟩
 have H0 := cond_f H0 h13
 obtain ⟨x14, e14, H0⟩ := bS H0
 refine cw_skip (kw_nx (sr (oB2 0 ts33 rfl (oB2 1 ts46 rfl (oE (stpU_call (fun i => 5 + i) cf79 (fun w hw => c_s_l3Find fl w a0 a1 rfl (RO.pass hr0_0 hw) rfl (RO.pass hr0_1 hw) x14 e14) (yB rfl rfl)) rfl ?_)))))
 rintro _ _ ⟨_, ⟨rfl, rfl⟩, rfl⟩
 refine oM rfl (oT rfl (oT rfl (oS rfl (oS rfl (nn (cw_seq (sr (oM rfl (oI rfl (nn (cw_cond rfl (fun h15 => ?_) (fun h15 => ?_))))))))))))
 ·have H0 := cond_t H0 h15
  refine sr (oD (stp_build (cs := #[.slice none 0 0, .slice none 0 0]) sevp_nil bt33_0) rfl (oC2 2 ts33 rfl rfl (oS rfl (nn (cw_ret (kw_nx_ret (kw_addNil 5 (kw_addNil 6 ?_))))))))
  obtain rfl := sI H0
  exact kr Tryd.results95 (.cons (.cellN (us := [_, _]) ts33 rfl (Cells.box (id := 2) rfl 2 rfl)) (rT rfl)) [5, 6] ⟨_, _, _, _, _, _, _, _, rfl, rfl, rfl, (OwnC.nil _ _), rfl, (OwnC.nil _ _)⟩
 have H0 := cond_f H0 h15
 obtain ⟨x16, e16, H0⟩ := bS H0
 refine cw_skip (kw_nx (sr (oB2 0 ts33 rfl (oB2 1 ts46 rfl (oM rfl (oM rfl (oE (stpU_call (fun i => 7 + i) cf143 (fun w hw => c_s_l3Map fl w a0 a1 a2 a3 rfl (RO.pass hr0_0 hw) rfl (RO.pass hr0_1 hw) x16 e16) (yD rfl rfl rfl rfl)) rfl ?_)))))))
 rintro _ _ ⟨_, ⟨p17, _, c19, C20, p21, _, c23, C24, rfl, rfl, rfl, o20, rfl, o24⟩, rfl⟩
 refine oC2 2 ts33 rfl rfl (oS rfl (nn (cw_ret ?_)))
 obtain rfl := sI H0
 exact kr Tryd.results95 (.cons (.cellN (us := [_, _]) ts33 rfl (Cells.box (id := 2) rfl 2 rfl)) (rT rfl)) [7, 8] ⟨_, _, _, _, _, _, _, _, rfl, rfl, rfl, o20, rfl, o24⟩

theorem c_s_MapSystem (fl : Nat) (w : World) (a0 : Sy) (a1 : K) (a2 : Int) (a3 : Int) (hn0_0 : n0_0 = (a0.t.b).length) (hr0_0 : RO w (hkeys []) (RdL p0_0 c0_0 a0.t.b)) (hn0_1 : n0_1 = (a0.t.f).length) (hr0_1 : RO w (hkeys []) (RdL p0_1 c0_1 a0.t.f)) (hn0_2 : n0_2 = (a0.c).length) (hr0_2 : ROD w (hkeys []) p0_2 c0_2 a0.c) (r : Sy × Bool) (H0 : s_MapSystem fl a0 a1 a2 a3 = some r) :
  Ct Tryd.prog 40 [.agg #[.slice p0_0 n0_0 c0_0, .slice p0_1 n0_1 c0_1, .slice p0_2 n0_2 c0_2], .agg #[.int .i64 a1.s, .int .i64 a1.p], .int .i64 a2, .int .i64 a3] w [] (fun rv h' => ∃ (x0 : Option Addr) (y0 z0 : Nat) (C0 : Res) (x1 : Option Addr) (y1 z1 : Nat) (C1 : Res) (x2 : Option Addr) (y2 z2 : Nat) (C2 : Res), rv = .tuple #[.agg #[.slice x0 y0 z0, .slice x1 y1 z1, .slice x2 y2 z2], .bool r.2] ∧ h' = [(0, C0), (1, C1), (2, C2)] ∧ y0 = (r.1.t.b).length ∧ OwnC 3 x0 z0 r.1.t.b C0 ∧ y1 = (r.1.t.f).length ∧ OwnC 84 x1 z1 r.1.t.f C1 ∧ y2 = (r.1.c).length ∧ OwnD 44 48 x2 z2 r.1.c C2) := by
 subst hn0_0 hn0_1 hn0_2
 unfold s_MapSystem at H0
 refine ct_of_cw Tryd.func40 rfl Tryd.ntmps40 rfl (Sat.refl _ _) ?_
 refine sr (oE (stpU_box 0 rfl rfl) rfl ?_)
 rintro _ _ ⟨b1, rfl, rfl⟩
 refine oE (stpU_box 1 rfl rfl) rfl ?_
 rintro _ _ ⟨b2, rfl, rfl⟩
 refine oE (stpU_alloc 2 tz36 rfl) rfl ?_
 rintro _ _ ⟨b3, rfl, rfl⟩
 obtain ⟨x4, e4, H0⟩ := bS H0
 refine oS rfl (nn (cw_seq (sr (oB3 0 ts36 rfl (oE (stpU_call (fun i => 3 + i) cf16 (fun w hw => c_s_SystemValid fl w a0 rfl (RO.pass hr0_0 hw) rfl (RO.pass hr0_1 hw) rfl (ROD.pass hr0_2 hw) x4 e4) (yA rfl)) rfl ?_)))))
 rintro _ _ ⟨_, ⟨rfl, rfl⟩, rfl⟩
 obtain ⟨y5, ey5, H0⟩ := bS H0
 refine oK rfl (oM rfl (ow_cutY 5 21 y5 ?_ ?_))
 ·rcases Bool.eq_false_or_eq_true (!x4) with hy5 | hy5
  ·have ey5 := cond_t ey5 hy5
   refine oO rfl hy5 rfl (oO rfl hy5 rfl (oO rfl hy5 rfl (oO rfl hy5 rfl (oD (stp_pick_t rfl hy5 rfl) rfl ?_))))
   obtain rfl := sI ey5
   exact ow_nil (jy 5 0)
  have ey5 := cond_f ey5 hy5
  obtain ⟨x6, e6, ey5⟩ := bS ey5
  refine oG rfl hy5 (stp_loadN (us := [_, _, _]) ts36 rfl (Cells.box (id := 0) rfl 3 rfl)) rfl (oG rfl hy5 (mv rfl) rfl (oG rfl hy5 (stp_loadN (us := [_, _]) ts46 rfl (Cells.box (id := 1) rfl 2 rfl)) rfl (ow_eff (.some rfl hy5) (stpU_call (fun i => 3 + i) cf94 (fun w hw => c_s_l8Held fl w a0 a2 a1 rfl (RO.pass hr0_0 hw) rfl (RO.pass hr0_1 hw) rfl (ROD.pass hr0_2 hw) x6 e6) (yC rfl rfl rfl)) rfl ?_)))
  rintro _ _ ⟨_, ⟨rfl, rfl⟩, rfl⟩
  refine oD (stp_pick_f rfl hy5 rfl) rfl ?_
  obtain rfl := sI ey5
  exact ow_nil (jy 5 0)
 refine ow_nil (kw_nx (cw_cond rfl (fun h7 => ?_) (fun h7 => ?_)))
 ·have H0 := cond_t H0 h7
  refine sr (oD (stp_build (cs := #[.slice none 0 0, .slice none 0 0, .slice none 0 0]) sevp_nil bt36_2) rfl (oC3 2 ts36 rfl rfl (oS rfl (nn (cw_ret (kw_nx_ret (kw_addNil 3 (kw_addNil 4 (kw_addNil 5 ?_)))))))))
  obtain rfl := sI H0
  exact kr Tryd.results40 (.cons (.cellN (us := [_, _, _]) ts36 rfl (Cells.box (id := 2) rfl 3 rfl)) (rT rfl)) [3, 4, 5] ⟨_, _, _, _, _, _, _, _, _, _, _, _, rfl, rfl, rfl, (OwnC.nil _ _), rfl, (OwnC.nil _ _), rfl, (OwnD.nil _ _ _)⟩
 have H0 := cond_f H0 h7
 obtain ⟨x8, e8, H0⟩ := bS H0
 refine cw_skip (kw_nx (sr (oA 0 Tryd.underlying36 rfl ts33 rfl (oB2 0 ts33 rfl (oB2 1 ts46 rfl (oM rfl (oM rfl (oE (stpU_call (fun i => 6 + i) cf95 (fun w hw => c_s_MapPage fl w a0.t a1 a2 a3 rfl (RO.pass hr0_0 hw) rfl (RO.pass hr0_1 hw) x8 e8) (yD rfl rfl rfl rfl)) rfl ?_))))))))
 rintro _ _ ⟨_, ⟨p9, _, c11, C12, p13, _, c15, C16, rfl, rfl, rfl, o12, rfl, o16⟩, rfl⟩
 refine oM rfl (oT rfl (oT rfl (oE (stpU_alloc 8 tz33 rfl) rfl ?_)))
 rintro _ _ ⟨b17, rfl, rfl⟩
 refine oC2 8 ts33 rfl rfl (oS rfl (nn (cw_seq (sr (oM rfl (oK rfl (nn (cw_cond rfl (fun h18 => ?_) (fun h18 => ?_)))))))))
 ·have H0 := cond_t H0 h18
  refine sr (oD (stp_build (cs := #[.slice none 0 0, .slice none 0 0, .slice none 0 0]) sevp_nil bt36_2) rfl (oC3 2 ts36 rfl rfl (oS rfl (nn (cw_ret (kw_nx_ret (kw_addNil 9 (kw_addNil 10 (kw_addNil 11 ?_)))))))))
  obtain rfl := sI H0
  exact kr Tryd.results40 (.cons (.cellN (us := [_, _, _]) ts36 rfl (Cells.box (id := 2) rfl 3 rfl)) (rT rfl)) [9, 10, 11] ⟨_, _, _, _, _, _, _, _, _, _, _, _, rfl, rfl, rfl, (OwnC.nil _ _), rfl, (OwnC.nil _ _), rfl, (OwnD.nil _ _ _)⟩
 have H0 := cond_f H0 h18
 obtain ⟨x19, e19, H0⟩ := bS H0
 refine cw_skip (kw_nx (sr (oB3 0 ts36 rfl (oE (stpU_call (fun i => 12 + i) cf77 (fun w hw => c_s_l8Copy fl w a0 rfl (RO.pass hr0_0 hw) rfl (RO.pass hr0_1 hw) rfl (ROD.pass hr0_2 hw) x19 e19) (yA rfl)) rfl ?_))))
 rintro _ _ ⟨_, ⟨p20, _, c22, C23, p24, _, c26, C27, p28, _, c30, C31, rfl, rfl, rfl, o23, rfl, o27, rfl, o31⟩, rfl⟩
 refine oE (stpU_alloc 15 tz36 rfl) rfl ?_
 rintro _ _ ⟨b32, rfl, rfl⟩
 refine oC3 15 ts36 rfl rfl (nn (sr (oB2 8 ts33 rfl (oA 0 Tryd.underlying36 rfl ts33 rfl (oC3 15 ts33 rfl rfl (nn (sr (oB3 15 ts36 rfl (oC3 2 ts36 rfl rfl (oS rfl (nn (cw_ret ?_))))))))))))
 obtain rfl := sI H0
 exact kr Tryd.results40 (.cons (.cellN (us := [_, _, _]) ts36 rfl (Cells.box (id := 2) rfl 3 rfl)) (rT rfl)) [6, 7, 14] ⟨_, _, _, _, _, _, _, _, _, _, _, _, rfl, rfl, rfl, o12, rfl, o16, rfl, o31⟩
end Go.Proofs.YtfnliecmagnkdaaDoor
